import PyProof.Rows.All
import HandS.ForMost
import HandS.Exc
import HandS.TryOnly
import HandS.TryMany
import HandS.ExcOwn
import HandS.WordsExc
import HandS.Style
import HandS.Wide
import HandS.More
import HandS.Conv
import HandS.Zip
import HandS.SortInts
import HandS.IsInst
import HandS.TupAny
import HandS.WideBits
import PySem.Challenge.RW_sandreckoner_k44_words
set_option Elab.async false
set_option linter.all false
/-! Rf, part A: a small language over plain data (PyData), its evaluator. -/
namespace Rf
open PySem

abbrev D := PyData

/-- what a slot of a def holds: nothing, a value, an own list or dict (that may be changed) -/
inductive Slot where
  | un
  | d (x : D)
  | ol (xs : List D)
  | od (kvs : List (D × D))
abbrev Sl := List Slot

inductive Res (α : Type) where
  | ok (a : α)
  | ex (c : Nat)
  | stuck

def Res.bind {α β : Type} (r : Res α) (f : α → Res β) : Res β := match r with
  | .ok a => f a
  | .ex c => .ex c
  | .stuck => .stuck
@[simp] theorem Res.bind_ok {α β : Type} (a : α) (f : α → Res β) : (Res.ok a).bind f = f a := id rfl
@[simp] theorem Res.bind_ex {α β : Type} (c : Nat) (f : α → Res β) : (Res.ex c : Res α).bind f = .ex c := id rfl
@[simp] theorem Res.bind_stuck {α β : Type} (f : α → Res β) : (Res.stuck : Res α).bind f = .stuck := id rfl
def Res.of {α : Type} : Option α → Res α
  | some a => .ok a
  | none => .stuck
@[simp] theorem Res.of_some {α : Type} (a : α) : Res.of (some a) = .ok a := id rfl
@[simp] theorem Res.of_none {α : Type} : Res.of (none : Option α) = .stuck := id rfl

inductive BOp where
  | add | sub | mul | fdiv | mod | pow
inductive COp where
  | eq | ne | lt | le | gt | ge | isin | notin | is | isnot
inductive Blt where
  | len | int | abs | sum | max | min | all | any | tuple | list | sorted | str | dict | isi (T : Nat)
inductive Mth where
  | get | bits | isalpha | islower | lower | upper | swapcase | join
inductive Tgt where
  | nm (i : Nat)
  | tp (ts : List Tgt)
inductive SrcK where
  | lst | tup | str | rng | zip

inductive Exp where
  | nop
  | var (i : Nat)
  | vw (i : Nat)
  | con (x : D)
  | bin (op : BOp) (a b : Exp)
  | cmp (op : COp) (a b : Exp)
  | chain (o1 o2 : COp) (a b c : Exp)
  | and (a b : Exp)
  | or (a b : Exp)
  | not (a : Exp)
  | neg (a : Exp)
  | ite (c a b : Exp)
  | tup (es : List Exp)
  | lst (es : List Exp)
  | emp
  | idx (a i : Exp)
  | sl (a lo hi : Exp)
  | rev (a : Exp)
  | revs (a : Exp)
  | call (f : Nat) (es : List Exp)
  | callv (f : Nat) (es : List Exp)
  | blt (b : Blt) (es : List Exp)
  | mth (m : Mth) (o : Exp) (es : List Exp)
  | comp (elt : Exp) (t : Tgt) (k : SrcK) (srcs : List Exp) (ifs : List Exp)

def Exp.isNop : Exp → Bool
  | .nop => true
  | _ => false
/-! ### operations on data -/
def line : Nat := 1000000
abbrev S (l : List Nat) : Str := ⟨l.toArray⟩

def binD : BOp → D → D → Option D
  | .add, .int i, .int j => some (.int (i + j))
  | .add, .str x, .str y => if x.length + y.length ≤ line then some (.str (x ++ y)) else none
  | .add, .list xs, .list ys => if xs.length + ys.length ≤ line then some (.list (xs ++ ys)) else none
  | .add, .tuple (x :: xs), .tuple ys => if (x :: xs).length + ys.length ≤ line then some (.tuple (x :: xs ++ ys)) else none
  | .sub, .int i, .int j => some (.int (i - j))
  | .mul, .int i, .int j => if i.natAbs < 2 ^ 64 ∨ j.natAbs < 2 ^ 64 then some (.int (i * j)) else none
  | .fdiv, .int i, .int j => if 0 < j ∧ j < 1073741824 then some (.int (i / j)) else none
  | .mod, .int i, .int j => if 0 < j then some (.int (i % j)) else none
  | .pow, .int i, .int j => if 0 ≤ j ∧ j ≤ 1000000 ∧ i.natAbs < 2 ^ 64 then some (.int (i ^ j.toNat)) else none
  | _, _, _ => none

/-- a op= b of a name -/
def augD (op : BOp) (x y : D) : Option D := match x with
  | .int _ => binD op x y
  | .str _ => binD op x y
  | _ => none
/-- may be compared by == -/
def eqOk (x y : D) : Bool := x.canLay0 && y.canLay0 && decide (min x.depth y.depth ≤ 190)
def flatD : D → Bool
  | .none => true
  | .bool _ => true
  | .int _ => true
  | .str _ => true
  | _ => false
/-- a dict's look-up (keys ints and texts) -/
def keyD : D → Option (Sum Int Str)
  | .int i => some (.inl i)
  | .str x => some (.inr x)
  | _ => none
def keysOk : List (D × D) → Bool
  | [] => true
  | (k, _) :: r => (keyD k).isSome && keysOk r
def lookD (kvs : List (D × D)) (k : D) : Option D := (kvs.find? fun p => PyData.eqv p.1 k).map (·.2)
def putD (kvs : List (D × D)) (k v : D) : List (D × D) :=
  if (lookD kvs k).isSome then kvs.map fun p => if PyData.eqv p.1 k then (p.1, v) else p else kvs ++ [(k, v)]

def inD (x y : D) : Option Bool := match y with
  | .list ys => if flatD x && ys.all flatD then some (ys.any fun y => PyData.eqv y x) else none
  | .tuple ys => if flatD x && ys.all flatD then some (ys.any fun y => PyData.eqv y x) else none
  | .str z => match x with
    | .str w => some (!(Builtin.Str.occurrences z w 0 z.length 1).isEmpty)
    | _ => none
  | .dict kvs => if (keyD x).isSome then some (lookD kvs x).isSome else none
  | _ => none

def cmpD : COp → D → D → Option Bool
  | .eq, x, y => if eqOk x y then some (PyData.eqv x y) else none
  | .ne, x, y => if eqOk x y then some (!PyData.eqv x y) else none
  | .lt, .int i, .int j => some (decide (i < j))
  | .le, .int i, .int j => some (decide (i ≤ j))
  | .gt, .int i, .int j => some (decide (j < i))
  | .ge, .int i, .int j => some (decide (j ≤ i))
  | .isin, x, y => inD x y
  | .notin, x, y => (inD x y).map not
  | .is, .bool a, .bool b => some (decide (a = b))
  | .is, .none, .none => some true
  | .is, .int _, .none => some false
  | .is, .bool _, .none => some false
  | .is, .str _, .none => some false
  | .is, .tuple _, .none => some false
  | .is, .list _, .none => some false
  | .isnot, .none, .none => some false
  | .isnot, .int _, .none => some true
  | .isnot, .bool _, .none => some true
  | .isnot, .str _, .none => some true
  | .isnot, .tuple _, .none => some true
  | .isnot, .list _, .none => some true
  | _, _, _ => none

def idxD : D → D → Option D
  | .list xs, .int i => L2.atI xs i
  | .tuple xs, .int i => L2.atI xs i
  | .str z, .int i => if z.length ≤ line then (L2.atI z.cps.toList i).map fun c => .str (S [c]) else none
  | .dict kvs, k => if (keyD k).isSome then lookD kvs k else none
  | _, _ => none

def cutD {α : Type} (xs : List α) (lo hi : Option Int) : List α := (xs.drop (HT.sIx xs.length 0 lo)).take (HT.sIx xs.length xs.length hi - HT.sIx xs.length 0 lo)
def partD : D → Res (Option Int)
  | .int i => .ok (some i)
  | _ => .stuck
def sliceD (x : D) (lo hi : Option Int) : Option D := match x with
  | .list xs => some (.list (cutD xs lo hi))
  | .tuple xs => some (.tuple (cutD xs lo hi))
  | .str z => if z.length ≤ line then some (.str (S (cutD z.cps.toList lo hi))) else none
  | _ => none
def revD : D → Option D
  | .list xs => some (.list xs.reverse)
  | _ => none
def revsD : D → Option D
  | .str z => if z.length ≤ line then some (.str (S z.cps.toList.reverse)) else none
  | _ => none

def allInts : List D → Option (List Int)
  | [] => some []
  | .int i :: r => (allInts r).map (i :: ·)
  | _ :: _ => none
def allBools : List D → Option (List Bool)
  | [] => some []
  | .bool i :: r => (allBools r).map (i :: ·)
  | _ :: _ => none
def allStrs : List D → Option (List Str)
  | [] => some []
  | .str i :: r => (allStrs r).map (i :: ·)
  | _ :: _ => none
def maxI : List Int → Int
  | [] => 0
  | [x] => x
  | x :: y :: r => max x (maxI (y :: r))
def minI : List Int → Int
  | [] => 0
  | [x] => x
  | x :: y :: r => min x (minI (y :: r))
/-- insertion sort -/
def insI (x : Int) : List Int → List Int
  | [] => [x]
  | y :: r => if x ≤ y then x :: y :: r else y :: insI x r
def sortI : List Int → List Int
  | [] => []
  | x :: r => insI x (sortI r)

def isiD (T : Nat) : D → Option Bool
  | .int _ => some (T == 0)
  | .bool _ => some (T == 0 || T == 1)
  | .str _ => some (T == 2)
  | .tuple _ => some (T == 3)
  | .list _ => some (T == 4)
  | .none => some false
  | _ => none

def bltD : Blt → List D → Option D
  | .len, [.list xs] => some (.int xs.length)
  | .len, [.tuple xs] => some (.int xs.length)
  | .len, [.str z] => if z.length ≤ line then some (.int z.length) else none
  | .len, [.dict kvs] => some (.int kvs.length)
  | .int, [.int i] => some (.int i)
  | .int, [.bool b] => some (.int (if b then 1 else 0))
  | .abs, [.int i] => some (.int (if i < 0 then -i else i))
  | .sum, [.list xs] => (allInts xs).map fun l => .int l.sum
  | .max, [.int i, .int j] => some (.int (if j > i then j else i))
  | .min, [.int i, .int j] => some (.int (if j < i then j else i))
  | .max, [.list xs] => if xs = [] then none else (allInts xs).map fun l => .int (maxI l)
  | .min, [.list xs] => if xs = [] then none else (allInts xs).map fun l => .int (minI l)
  | .all, [.list xs] => (allBools xs).map fun l => .bool (l.all id)
  | .any, [.list xs] => (allBools xs).map fun l => .bool (l.any id)
  | .tuple, [.list xs] => some (.tuple xs)
  | .tuple, [.tuple xs] => some (.tuple xs)
  | .list, [.list xs] => some (.list xs)
  | .list, [.tuple xs] => some (.list xs)
  | .sorted, [.list xs] => (allInts xs).map fun l => .list ((sortI l).map .int)
  | .sorted, [.dict kvs] => if kvs.length < 64 then (allInts (kvs.map (·.1))).map fun l => .list ((sortI l).map .int) else none
  | .dict, [.dict kvs] => some (.dict kvs)
  | .str, [.int i] => if i.natAbs.log2 < 1920 then some (.str (toString i)) else none
  | .isi T, [x] => (isiD T x).map .bool
  | _, _ => none

def strM (m : Mth) (z : Str) : Option D := match m with
  | .isalpha => some (.bool (Txt.isalpha z))
  | .islower => some (.bool (Txt.islower z))
  | .lower => if z.length ≤ line then some (.str (Txt.lower z)) else none
  | .upper => if z.length ≤ line then some (.str (Txt.upper z)) else none
  | .swapcase => if z.length ≤ line then some (.str (Txt.swapcase z)) else none
  | _ => none
def mthD : Mth → D → List D → Option D
  | .get, .dict kvs, [k, x] => if (keyD k).isSome then some ((lookD kvs k).getD x) else none
  | .bits, .int i, [] => some (.int ((Builtin.Int.intBits i : Nat) : Int))
  | .join, .str z, [.list xs] => (allStrs xs).bind fun ys => if (ys.map (·.length)).sum + ys.length * z.length ≤ line then some (.str (Txt.join z ys)) else none
  | m, .str z, [] => strM m z
  | _, _, _ => none

def zipD : List D → List D → List D
  | x :: xs, y :: ys => .tuple [x, y] :: zipD xs ys
  | _, _ => []
def rngD (lo : Int) (n : Nat) : List D := (List.range n).map fun (i : Nat) => .int (lo + (i : Int))
def srcD : SrcK → List D → Option (List D)
  | .lst, [.list xs] => some xs
  | .tup, [.tuple xs] => some xs
  | .str, [.str z] => some (z.cps.toList.map fun c => .str (S [c]))
  | .rng, [.int n] => if -(2 ^ 62) ≤ n ∧ n < 2 ^ 62 then some (rngD 0 n.toNat) else none
  | .rng, [.int a, .int b] => if -(2 ^ 62) ≤ a ∧ a < 2 ^ 62 ∧ -(2 ^ 62) ≤ b ∧ b < 2 ^ 62 then some (rngD a (b - a).toNat) else none
  | .zip, [.list xs, .list ys] => some (zipD xs ys)
  | .zip, [.tuple xs, .tuple ys] => some (zipD xs ys)
  | _, _ => none

mutual
/-- holds no list, no dict -/
def noLst : D → Bool
  | .list _ => false
  | .dict _ => false
  | .tuple xs => noLsts xs
  | .none => true
  | .bool _ => true
  | .int _ => true
  | .str _ => true
def noLsts : List D → Bool
  | [] => true
  | x :: r => noLst x && noLsts r
end

/-! ### binding -/
mutual
def bindT : Tgt → D → Sl → Option Sl
  | .nm i, x, e => if i < e.length then some (e.set i (.d x)) else none
  | .tp ts, x, e => match x with
    | .tuple xs => bindTs ts xs e
    | _ => none
def bindTs : List Tgt → List D → Sl → Option Sl
  | [], [], e => some e
  | t :: ts, x :: xs, e => (bindT t x e).bind fun e' => bindTs ts xs e'
  | _, _, _ => none
end

/-! the places of a target -/
mutual
def Tgt.ix : Tgt → List Nat
  | .nm i => [i]
  | .tp ts => Tgt.ixs ts
def Tgt.ixs : List Tgt → List Nat
  | [] => []
  | t :: r => t.ix ++ Tgt.ixs r
end
def wipeS (e : Sl) : List Nat → Sl
  | [] => e
  | v :: vs => (wipeS e vs).set v .un
def isOwn : Slot → Bool
  | .ol _ => true
  | .od _ => true
  | _ => false
def freeOf (e : Sl) (vs : List Nat) : Bool := vs.all fun i => match e[i]? with
  | some s => !isOwn s
  | none => false

/-! ### expressions -/
/-- the turns of a comprehension -/
def compL (f : Sl → Res D) (g : Sl → Res Bool) (t : Tgt) : List D → Sl → Res (List D)
  | [], _ => .ok []
  | x :: xs, e => match bindT t x e with
    | none => .stuck
    | some e1 => (g e1).bind fun b =>
      if b then (f e1).bind fun y => (compL f g t xs e).bind fun ys => .ok (y :: ys) else compL f g t xs e
def noEx {α : Type} : Res α → Res α
  | .ok a => .ok a
  | _ => .stuck
abbrev FT := Nat → List D → Res D

mutual
def ev (Φ : FT) : Exp → Sl → Res D
  | .nop, _ => .ok .none
  | .var i, e => match e[i]? with
    | some (.d x) => .ok x
    | _ => .stuck
  | .vw i, e => match e[i]? with
    | some (.d x) => .ok x
    | some (.ol xs) => .ok (.list xs)
    | some (.od kvs) => .ok (.dict kvs)
    | _ => .stuck
  | .con x, _ => .ok x
  | .bin op a b, e => (ev Φ a e).bind fun x => (ev Φ b e).bind fun y => .of (binD op x y)
  | .cmp op a b, e => (ev Φ a e).bind fun x => (ev Φ b e).bind fun y => .of ((cmpD op x y).map .bool)
  | .chain o1 o2 a b c, e => (ev Φ a e).bind fun x => (ev Φ b e).bind fun y => (Res.of (cmpD o1 x y)).bind fun k =>
      if k then (ev Φ c e).bind fun z => .of ((cmpD o2 y z).map .bool) else .ok (.bool false)
  | .and a b, e => (ev Φ a e).bind fun x => match x with
    | .bool true => ev Φ b e
    | .bool false => .ok (.bool false)
    | _ => .stuck
  | .or a b, e => (ev Φ a e).bind fun x => match x with
    | .bool true => .ok (.bool true)
    | .bool false => ev Φ b e
    | _ => .stuck
  | .not a, e => (ev Φ a e).bind fun x => match x with
    | .bool k => .ok (.bool (!k))
    | _ => .stuck
  | .neg a, e => (ev Φ a e).bind fun x => match x with
    | .int i => .ok (.int (-i))
    | _ => .stuck
  | .ite c a b, e => (ev Φ c e).bind fun x => match x with
    | .bool true => ev Φ a e
    | .bool false => ev Φ b e
    | _ => .stuck
  | .tup es, e => (evs Φ es e).bind fun xs => .ok (.tuple xs)
  | .lst es, e => (evs Φ es e).bind fun xs => .ok (.list xs)
  | .emp, _ => .ok (.dict [])
  | .idx a i, e => (ev Φ a e).bind fun x => (ev Φ i e).bind fun y => .of (idxD x y)
  | .sl a lo hi, e => (ev Φ a e).bind fun x => (if lo.isNop then .ok none else (ev Φ lo e).bind partD).bind fun l => (if hi.isNop then .ok none else (ev Φ hi e).bind partD).bind fun h => .of (sliceD x l h)
  | .rev a, e => (ev Φ a e).bind fun x => .of (revD x)
  | .revs a, e => (ev Φ a e).bind fun x => .of (revsD x)
  | .call f es, e => (evs Φ es e).bind fun xs => Φ f xs
  | .callv f es, e => (evs Φ es e).bind fun xs => (Φ f xs).bind fun y => if noLst y then .ok y else .stuck
  | .blt b es, e => (evs Φ es e).bind fun xs => .of (bltD b xs)
  | .mth m o es, e => (ev Φ o e).bind fun x => (evs Φ es e).bind fun xs => .of (mthD m x xs)
  | .comp elt t k srcs ifs, e => (evs Φ srcs e).bind fun xs => (Res.of (srcD k xs)).bind fun its =>
      if freeOf e t.ix && decide (its.length ≤ line) then (noEx (compL (fun e' => ev Φ elt e') (fun e' => evt Φ ifs e') t its (wipeS e t.ix))).bind fun ys => .ok (.list ys) else .stuck
def evs (Φ : FT) : List Exp → Sl → Res (List D)
  | [], _ => .ok []
  | a :: r, e => (ev Φ a e).bind fun x => (evs Φ r e).bind fun xs => .ok (x :: xs)
def evt (Φ : FT) : List Exp → Sl → Res Bool
  | [], _ => .ok true
  | a :: r, e => (ev Φ a e).bind fun x => match x with
    | .bool true => evt Φ r e
    | .bool false => .ok false
    | _ => .stuck
end

/-! ### statements -/
inductive Stm where
  | asg (t : Tgt) (e : Exp)
  | par (i j : Nat) (a b : Exp)
  | aug (i : Nat) (op : BOp) (e : Exp)
  | own (i : Nat) (e : Exp)
  | app (i : Nat) (e : Exp)
  | ins (i : Nat) (j e : Exp)
  | pop (i : Nat)
  | popto (t i : Nat)
  | setl (i : Nat) (k e : Exp)
  | setd (i : Nat) (k e : Exp)
  | give (i : Nat)
  | expr (e : Exp)
  | ret (e : Exp)
  | retn
  | ifs (c : Exp) (a b : List Stm)
  | for (t : Tgt) (k : SrcK) (srcs : List Exp) (body : List Stm)
  | whl (c : Exp) (body : List Stm)
  | brk
  | cnt
  | pas
  | rse (c : Nat)
  | tri (body : List Stm) (cs : List Nat) (h : List Stm)

inductive Out where
  | nx (e : Sl)
  | ret (x : D)
  | bk (e : Sl)
  | ct (e : Sl)
  | ex (c : Nat) (e : Sl)
  | stuck

def Out.ofR {α : Type} (r : Res α) (e : Sl) (f : α → Out) : Out := match r with
  | .ok a => f a
  | .ex c => .ex c e
  | .stuck => .stuck
@[simp] theorem Out.ofR_ok {α : Type} (a : α) (e : Sl) (f : α → Out) : Out.ofR (.ok a) e f = f a := id rfl
@[simp] theorem Out.ofR_ex {α : Type} (c : Nat) (e : Sl) (f : α → Out) : Out.ofR (.ex c : Res α) e f = .ex c e := id rfl
@[simp] theorem Out.ofR_stuck {α : Type} (e : Sl) (f : α → Out) : Out.ofR (.stuck : Res α) e f = .stuck := id rfl
def Out.seq (o : Out) (f : Sl → Out) : Out := match o with
  | .nx e => f e
  | o => o
@[simp] theorem Out.seq_nx (e : Sl) (f : Sl → Out) : (Out.nx e).seq f = f e := id rfl
@[simp] theorem Out.seq_ret (x : D) (f : Sl → Out) : (Out.ret x).seq f = .ret x := id rfl
@[simp] theorem Out.seq_bk (e : Sl) (f : Sl → Out) : (Out.bk e).seq f = .bk e := id rfl
@[simp] theorem Out.seq_ct (e : Sl) (f : Sl → Out) : (Out.ct e).seq f = .ct e := id rfl
@[simp] theorem Out.seq_ex (c : Nat) (e : Sl) (f : Sl → Out) : (Out.ex c e).seq f = .ex c e := id rfl
@[simp] theorem Out.seq_stuck (f : Sl → Out) : Out.stuck.seq f = .stuck := id rfl
/-- what a loop's turn hands on -/
def Out.turn (o : Out) (f : Sl → Out) : Out := match o with
  | .nx e => f e
  | .ct e => f e
  | .bk e => .nx e
  | o => o
@[simp] theorem Out.turn_nx (e : Sl) (f : Sl → Out) : (Out.nx e).turn f = f e := id rfl
@[simp] theorem Out.turn_ret (x : D) (f : Sl → Out) : (Out.ret x).turn f = .ret x := id rfl
@[simp] theorem Out.turn_bk (e : Sl) (f : Sl → Out) : (Out.bk e).turn f = .nx e := id rfl
@[simp] theorem Out.turn_ct (e : Sl) (f : Sl → Out) : (Out.ct e).turn f = f e := id rfl
@[simp] theorem Out.turn_ex (c : Nat) (e : Sl) (f : Sl → Out) : (Out.ex c e).turn f = .ex c e := id rfl
@[simp] theorem Out.turn_stuck (f : Sl → Out) : Out.stuck.turn f = .stuck := id rfl

def forL (b : Sl → Out) (t : Tgt) : List D → Sl → Out
  | [], e => .nx e
  | x :: xs, e => match bindT t x e with
    | none => .stuck
    | some e1 => (b e1).turn fun e2 => forL b t xs e2
def whileF (c : Sl → Res D) (b : Sl → Out) : Nat → Sl → Out
  | 0, _ => .stuck
  | n + 1, e => Out.ofR (c e) e fun x => match x with
    | .bool true => (b e).turn fun e2 => whileF c b n e2
    | .bool false => .nx e
    | _ => .stuck
def ownS : D → Option Slot
  | .list xs => some (.ol xs)
  | .dict kvs => if keysOk kvs then some (.od kvs) else none
  | _ => none

mutual
def exec (Φ : FT) (F : Nat) : Stm → Sl → Out
  | .asg t a, e => Out.ofR (ev Φ a e) e fun x => match bindT t x e with
    | some e' => .nx e'
    | none => .stuck
  | .par i j a b, e => Out.ofR (ev Φ a e) e fun x => Out.ofR (ev Φ b e) e fun y => if i < e.length ∧ j < e.length then .nx ((e.set i (.d x)).set j (.d y)) else .stuck
  | .aug i op a, e => match e[i]? with
    | some (.d x) => Out.ofR (ev Φ a e) e fun y => match augD op x y with
      | some z => .nx (e.set i (.d z))
      | none => .stuck
    | _ => .stuck
  | .own i a, e => Out.ofR (ev Φ a e) e fun x => match ownS x with
    | some s => if i < e.length then .nx (e.set i s) else .stuck
    | none => .stuck
  | .app i a, e => match e[i]? with
    | some (.ol xs) => Out.ofR (ev Φ a e) e fun x => if xs.length < line then .nx (e.set i (.ol (xs ++ [x]))) else .stuck
    | _ => .stuck
  | .ins i j a, e => match e[i]? with
    | some (.ol xs) => Out.ofR (ev Φ j e) e fun k => Out.ofR (ev Φ a e) e fun x => match k with
      | .int k => if 0 ≤ k ∧ k < 2 ^ 63 ∧ xs.length < line then .nx (e.set i (.ol (xs.take k.toNat ++ [x] ++ xs.drop k.toNat))) else .stuck
      | _ => .stuck
    | _ => .stuck
  | .pop i, e => match e[i]? with
    | some (.ol xs) => if xs = [] then .stuck else .nx (e.set i (.ol xs.dropLast))
    | _ => .stuck
  | .popto t i, e => match e[i]? with
    | some (.ol xs) => match xs[xs.length - 1]? with
      | some x => if t < e.length ∧ t ≠ i then .nx ((e.set i (.ol xs.dropLast)).set t (.d x)) else .stuck
      | none => .stuck
    | _ => .stuck
  | .setl i k a, e => match e[i]? with
    | some (.ol xs) => Out.ofR (ev Φ a e) e fun x => Out.ofR (ev Φ k e) e fun k => match k with
      | .int k => match L2.ixN xs.length k with
        | some j => .nx (e.set i (.ol (xs.set j x)))
        | none => .stuck
      | _ => .stuck
    | _ => .stuck
  | .setd i k a, e => match e[i]? with
    | some (.od kvs) => Out.ofR (ev Φ a e) e fun x => Out.ofR (ev Φ k e) e fun k => if (keyD k).isSome ∧ kvs.length < line then .nx (e.set i (.od (putD kvs k x))) else .stuck
    | _ => .stuck
  | .give i, e => match e[i]? with
    | some (.ol xs) => .nx (e.set i (.d (.list xs)))
    | _ => .stuck
  | .expr a, e => Out.ofR (ev Φ a e) e fun _ => .nx e
  | .ret a, e => Out.ofR (ev Φ a e) e fun x => .ret x
  | .retn, _ => .ret .none
  | .ifs c a b, e => Out.ofR (ev Φ c e) e fun x => match x with
    | .bool true => execs Φ F a e
    | .bool false => execs Φ F b e
    | _ => .stuck
  | .for t k srcs body, e => Out.ofR (evs Φ srcs e) e fun xs => match srcD k xs with
    | some its => forL (fun e' => execs Φ F body e') t its e
    | none => .stuck
  | .whl c body, e => whileF (fun e' => ev Φ c e') (fun e' => execs Φ F body e') F e
  | .brk, e => .bk e
  | .cnt, e => .ct e
  | .pas, e => .nx e
  | .rse c, e => .ex c e
  | .tri body cs h, e => match execs Φ F body e with
    | .ex c e' => if cs.contains c then execs Φ F h e' else .ex c e'
    | o => o
def execs (Φ : FT) (F : Nat) : List Stm → Sl → Out
  | [], e => .nx e
  | s :: r, e => (exec Φ F s e).seq fun e' => execs Φ F r e'
end

/-- a def: its parameters' number, its slots, its body -/
structure Fdef where
  np : Nat
  ns : Nat
  body : List Stm
def Fdef.run (f : Fdef) (Φ : FT) (F : Nat) (args : List D) : Res D :=
  if args.length = f.np then
    match execs Φ F f.body (args.map .d ++ List.replicate (f.ns - f.np) .un) with
    | .ret x => .ok x
    | .nx _ => .ok .none
    | .ex c _ => .ex c
    | _ => .stuck
  else .stuck
/-- the program's defs, called n deep -/
def phi (T : List Fdef) (F : Nat) : Nat → FT
  | 0 => fun _ _ => .stuck
  | n + 1 => fun f args => match T[f]? with
    | some fn => fn.run (phi T F n) F args
    | none => .stuck
end Rf

set_option Elab.async false
set_option linter.all false
/-! Rf, part B: data in the abstract heap; what a reading is by the evaluator. -/
namespace Rf
open PySem PySem.Spec PyProof.Rows L2

def keyOf : Key → D
  | .inl i => .int i
  | .inr x => .str x

/-- a list of the written part -/
def KLst (K : PySem.W.Frag) (a : Addr) (xs : List V) : Prop := ∃ (o : Obj) (its : Array Value) (n : Nat), K.lookup a = some o ∧ o.cls = .type "list" ∧ o.dict = none ∧ o.data = .seq its n ∧ its.size ≤ sizeLine ∧ Vals xs its.toList
mutual
/-- the value v is the data d; lists and dicts within are none that av tells of -/
inductive Den (K : PySem.W.Frag) (av : Addr → Prop) (H : Hp) : V → D → Prop
  | none : Den K av H .non .none
  | bool (b : Bool) : Den K av H (.bl b) (.bool b)
  | int (i : Int) : Den K av H (.int i) (.int i)
  | str (x : Str) : Den K av H (.str x) (.str x)
  | list {a : Addr} {xs : List V} {ds : List D} : SqL K H a xs → (¬ av a ∨ KLst K a xs) → Dens K av H xs ds → Den K av H (.ref a) (.list ds)
  | tuple {a : Addr} {xs : List V} {ds : List D} : SqT K H a xs → Dens K av H xs ds → Den K av H (.ref a) (.tuple ds)
  | dict {a : Addr} {ks : List (Key × V)} {ds : List (D × D)} : Rd H a (.dK ks) → ¬ av a → DenKs K av H ks ds → Den K av H (.ref a) (.dict ds)
inductive Dens (K : PySem.W.Frag) (av : Addr → Prop) (H : Hp) : List V → List D → Prop
  | nil : Dens K av H [] []
  | cons {v : V} {d : D} {vs : List V} {ds : List D} : Den K av H v d → Dens K av H vs ds → Dens K av H (v :: vs) (d :: ds)
inductive DenKs (K : PySem.W.Frag) (av : Addr → Prop) (H : Hp) : List (Key × V) → List (D × D) → Prop
  | nil : DenKs K av H [] []
  | cons {k : Key} {v : V} {d : D} {ks : List (Key × V)} {ds : List (D × D)} : Den K av H v d → DenKs K av H ks ds → DenKs K av H ((k, v) :: ks) ((keyOf k, d) :: ds)
end

section
variable {K : PySem.W.Frag} {av av' : Addr → Prop} {H H' : Hp}
theorem same_rd (s : Same H H') {a : Addr} {u : HO} (h : Rd H a u) : Rd H' a u := by
  rcases h with h | ⟨o, h⟩
  · exact .inl (s _ _ h)
  · exact .inr ⟨o, s _ _ h⟩
theorem same_sqT (s : Same H H') {a : Addr} {xs : List V} (h : SqT K H a xs) : SqT K H' a xs := by
  rcases h with h | h
  · exact .inl (same_rd s h)
  · exact .inr h
theorem rd_ne {a : Addr} {u : HO} (h : Rd H a u) : H a ≠ none := by
  rcases h with h | ⟨o, h⟩ <;> (rw [h]; exact fun z => nomatch z)
theorem nav_imp {H : Hp} {b b' : Addr → Prop} {a : Addr} {xs : List V} (h : SqL K H a xs) (n : ¬ b a ∨ KLst K a xs) (g : H a ≠ none → b' a → b a) : ¬ b' a ∨ KLst K a xs := n.elim (fun n => h.elim (fun r => .inl fun z => n (g (rd_ne r) z)) .inr) .inr
mutual
theorem Den.imp (f : ∀ a u, Rd H a u → Rd H' a u) (g : ∀ a, H a ≠ none → av' a → av a) : ∀ {v : V} {d : D}, Den K av H v d → Den K av' H' v d
  | _, _, .none => .none
  | _, _, .bool b => .bool b
  | _, _, .int i => .int i
  | _, _, .str x => .str x
  | _, _, .list h n t => .list (h.imp (f _ _) id) (nav_imp h n fun r z => g _ r z) (Dens.imp f g t)
  | _, _, .tuple h t => .tuple (h.imp (f _ _) id) (Dens.imp f g t)
  | _, _, .dict h n t => .dict (f _ _ h) (fun z => n (g _ (rd_ne h) z)) (DenKs.imp f g t)
theorem Dens.imp (f : ∀ a u, Rd H a u → Rd H' a u) (g : ∀ a, H a ≠ none → av' a → av a) : ∀ {v : List V} {d : List D}, Dens K av H v d → Dens K av' H' v d
  | _, _, .nil => .nil
  | _, _, .cons a b => .cons (Den.imp f g a) (Dens.imp f g b)
theorem DenKs.imp (f : ∀ a u, Rd H a u → Rd H' a u) (g : ∀ a, H a ≠ none → av' a → av a) : ∀ {v : List (Key × V)} {d : List (D × D)}, DenKs K av H v d → DenKs K av' H' v d
  | _, _, .nil => .nil
  | _, _, .cons a b => .cons (Den.imp f g a) (DenKs.imp f g b)
end
theorem Den.same (s : Same H H') {v : V} {d : D} (h : Den K av H v d) : Den K av H' v d := h.imp (fun _ _ => same_rd s) fun _ _ z => z
theorem Dens.same (s : Same H H') {v : List V} {d : List D} (h : Dens K av H v d) : Dens K av H' v d := h.imp (fun _ _ => same_rd s) fun _ _ z => z
theorem DenKs.same (s : Same H H') {v : List (Key × V)} {d : List (D × D)} (h : DenKs K av H v d) : DenKs K av H' v d := h.imp (fun _ _ => same_rd s) fun _ _ z => z
theorem Dens.length : ∀ {v : List V} {d : List D}, Dens K av H v d → v.length = d.length
  | _, _, .nil => rfl
  | _, _, .cons _ b => congrArg (· + 1) b.length
theorem Dens.get : ∀ {v : List V} {d : List D} {i : Nat} {x : V}, Dens K av H v d → v[i]? = some x → ∃ y, d[i]? = some y ∧ Den K av H x y
  | _, _, _, _, .nil, h => by simp at h
  | _, _, 0, _, .cons a _, h => by simp at h; subst h; exact ⟨_, rfl, a⟩
  | _, _, i + 1, x, .cons _ b, h => by
    obtain ⟨y, h1, h2⟩ := b.get (i := i) (x := x) (by simpa using h)
    exact ⟨y, by simpa using h1, h2⟩
theorem Dens.getD : ∀ {v : List V} {d : List D} {i : Nat} {y : D}, Dens K av H v d → d[i]? = some y → ∃ x, v[i]? = some x ∧ Den K av H x y
  | _, _, _, _, .nil, h => by simp at h
  | _, _, 0, _, .cons a _, h => by simp at h; subst h; exact ⟨_, rfl, a⟩
  | _, _, i + 1, x, .cons _ b, h => by
    obtain ⟨y, h1, h2⟩ := b.getD (i := i) (y := x) (by simpa using h)
    exact ⟨y, by simpa using h1, h2⟩
theorem Dens.append : ∀ {v w : List V} {d e : List D}, Dens K av H v d → Dens K av H w e → Dens K av H (v ++ w) (d ++ e)
  | _, _, _, _, .nil, h => h
  | _, _, _, _, .cons a b, h => .cons a (b.append h)
theorem Dens.take : ∀ {v : List V} {d : List D} (n : Nat), Dens K av H v d → Dens K av H (v.take n) (d.take n)
  | _, _, 0, _ => .nil
  | _, _, _ + 1, .nil => .nil
  | _, _, n + 1, .cons a b => .cons a (b.take n)
theorem Dens.drop : ∀ {v : List V} {d : List D} (n : Nat), Dens K av H v d → Dens K av H (v.drop n) (d.drop n)
  | _, _, 0, h => h
  | _, _, _ + 1, .nil => .nil
  | _, _, n + 1, .cons _ b => b.drop n
theorem Dens.reverse {v : List V} {d : List D} (h : Dens K av H v d) : Dens K av H v.reverse d.reverse := by
  induction d generalizing v with
  | nil => cases h; exact .nil
  | cons x d ih =>
    cases h with
    | cons a b =>
      rw [List.reverse_cons, List.reverse_cons]
      exact (ih b).append (.cons a .nil)
theorem Dens.set : ∀ {v : List V} {d : List D} (i : Nat) {x : V} {y : D}, Dens K av H v d → Den K av H x y → Dens K av H (v.set i x) (d.set i y)
  | _, _, _, _, _, .nil, _ => .nil
  | _, _, 0, _, _, .cons _ b, h => .cons h b
  | _, _, i + 1, _, _, .cons a b, h => .cons a (b.set i h)
theorem Dens.dropLast {v : List V} {d : List D} (h : Dens K av H v d) : Dens K av H v.dropLast d.dropLast := by
  rw [List.dropLast_eq_take, List.dropLast_eq_take, h.length]
  exact h.take _
theorem DenKs.length : ∀ {v : List (Key × V)} {d : List (D × D)}, DenKs K av H v d → v.length = d.length
  | _, _, .nil => rfl
  | _, _, .cons _ b => congrArg (· + 1) b.length

/-- the top avoids a0, what is within avoids a1 -/
def Den2 (K : PySem.W.Frag) (a0 a1 : Addr → Prop) (H : Hp) (v : V) : D → Prop
  | .list ds => ∃ a xs, v = .ref a ∧ SqL K H a xs ∧ (¬ a0 a ∨ KLst K a xs) ∧ Dens K a1 H xs ds
  | .dict ds => ∃ a ks, v = .ref a ∧ Rd H a (.dK ks) ∧ ¬ a0 a ∧ DenKs K a1 H ks ds
  | d => Den K a1 H v d
theorem Den.two {v : V} {d : D} (h : Den K av H v d) : Den2 K av av H v d := by
  cases h with
  | list h n t => exact ⟨_, _, rfl, h, n, t⟩
  | dict h n t => exact ⟨_, _, rfl, h, n, t⟩
  | none => exact .none
  | bool b => exact .bool b
  | int i => exact .int i
  | str x => exact .str x
  | tuple h t => exact .tuple h t
theorem Den2.one {v : V} {d : D} (h : Den2 K av av H v d) : Den K av H v d := by
  cases d with
  | list ds => obtain ⟨a, xs, rfl, h, n, t⟩ := h; exact .list h n t
  | dict ds => obtain ⟨a, xs, rfl, h, n, t⟩ := h; exact .dict h n t
  | _ => exact h
theorem Den2.same {a0 a1 : Addr → Prop} (s : Same H H') {v : V} {d : D} (h : Den2 K a0 a1 H v d) : Den2 K a0 a1 H' v d := by
  cases d with
  | list ds => obtain ⟨a, xs, rfl, h, n, t⟩ := h; exact ⟨a, xs, rfl, h.imp (same_rd s) id, n, t.same s⟩
  | dict ds => obtain ⟨a, xs, rfl, h, n, t⟩ := h; exact ⟨a, xs, rfl, same_rd s h, n, t.same s⟩
  | none => exact Den.same s h
  | bool _ => exact Den.same s h
  | int _ => exact Den.same s h
  | str _ => exact Den.same s h
  | tuple _ => exact Den.same s h
theorem Den2.mono {a0 a1 b0 b1 : Addr → Prop} (h0 : ∀ a, b0 a → a0 a) (h1 : ∀ a, b1 a → a1 a) {v : V} {d : D} (h : Den2 K a0 a1 H v d) : Den2 K b0 b1 H v d := by
  have f : ∀ a u, Rd H a u → Rd H a u := fun _ _ z => z
  cases d with
  | list ds => obtain ⟨a, xs, rfl, h, n, t⟩ := h; exact ⟨a, xs, rfl, h, n.imp (fun n z => n (h0 _ z)) id, t.imp f fun a _ => h1 a⟩
  | dict ds => obtain ⟨a, xs, rfl, h, n, t⟩ := h; exact ⟨a, xs, rfl, h, fun z => n (h0 _ z), t.imp f fun a _ => h1 a⟩
  | none => exact Den.imp f (fun a _ => h1 a) h
  | bool _ => exact Den.imp f (fun a _ => h1 a) h
  | int _ => exact Den.imp f (fun a _ => h1 a) h
  | str _ => exact Den.imp f (fun a _ => h1 a) h
  | tuple _ => exact Den.imp f (fun a _ => h1 a) h
mutual
theorem Den.noLst {H : Hp} : ∀ {d : D} {v : V}, Den K av H v d → noLst d = true → Den K av' H v d
  | _, _, .none, _ => .none
  | _, _, .bool b, _ => .bool b
  | _, _, .int i, _ => .int i
  | _, _, .str x, _ => .str x
  | _, _, .list _ _ _, h => by simp [Rf.noLst] at h
  | _, _, .dict _ _ _, h => by simp [Rf.noLst] at h
  | _, _, .tuple h t, n => .tuple h (Dens.noLst t (by simpa [Rf.noLst] using n))
theorem Dens.noLst {H : Hp} : ∀ {d : List D} {v : List V}, Dens K av H v d → noLsts d = true → Dens K av' H v d
  | _, _, .nil, _ => .nil
  | _, _, .cons a b, h => by
    simp only [noLsts, Bool.and_eq_true] at h
    exact .cons (Den.noLst a h.1) (Dens.noLst b h.2)
end
mutual
theorem Den.dp : ∀ {d : D} {v : V}, Den K av H v d → d.canLay0 = true → Dp K H v d
  | _, _, .none, _ => .non
  | _, _, .bool b, _ => .bl b
  | _, _, .int i, _ => .int i
  | _, _, .str x, _ => .str x
  | _, _, .list h _ t, c => .lst h (Dens.dp t (by simpa [PyData.canLay0] using c))
  | _, _, .tuple h t, c => .tup h (Dens.dp t (by simpa [PyData.canLay0] using c))
  | _, _, .dict _ _ _, c => by simp [PyData.canLay0] at c
theorem Dens.dp : ∀ {d : List D} {v : List V}, Dens K av H v d → PyData.canLayAll0 d = true → DpAll K H v d
  | _, _, .nil, _ => .nil
  | _, _, .cons a b, h => by
    simp only [PyData.canLayAll0, Bool.and_eq_true] at h
    exact .cons (Den.dp a h.1) (Dens.dp b h.2)
end
end

/-! ### slots -/
def SlotOk (K : PySem.W.Frag) (av : Addr → Prop) (H : Hp) : Slot → Option V → Prop
  | .un, _ => True
  | .d x, o => ∃ v, o = some v ∧ Den K av H v x
  | .ol xs, o => ∃ (a : Addr) (ys : List V), o = some (V.ref a) ∧ H a = some (.lst ys) ∧ Dens K av H ys xs
  | .od kvs, o => ∃ (a : Addr) (ks : List (Key × V)), o = some (V.ref a) ∧ H a = some (.dK ks) ∧ DenKs K av H ks kvs
/-- the address a is an own list or dict of a slot -/
def Owns (e : Sl) (σ : L2.St) (a : Addr) : Prop := ∃ (i : Nat) (s : Slot), e[i]? = some s ∧ isOwn s = true ∧ σ[i]? = some (some (V.ref a))
/-- what a body's proof carries: the written part, the heap at the entry, what results may not be, the wish about exceptions, the classes of exceptions -/
structure Pk where
  K : PySem.W.Frag
  H0 : Hp
  Av : Addr → Prop
  avok : ∀ a, Av a → H0 a ≠ none
  W : WX
  ca : Nat → Addr
def avo (P : Pk) (e : Sl) (σ : L2.St) : Addr → Prop := fun a => P.Av a ∨ Owns e σ a
structure Rel (P : Pk) (e : Sl) (σ : L2.St) (H : Hp) : Prop where
  len : σ.length = e.length
  slot : ∀ (i : Nat) (s : Slot) (o : Option V), e[i]? = some s → σ[i]? = some o → SlotOk P.K (avo P e σ) H s o
  inj : ∀ (i j : Nat) (s t : Slot) (a : Addr), e[i]? = some s → isOwn s = true → e[j]? = some t → isOwn t = true → σ[i]? = some (some (V.ref a)) → σ[j]? = some (some (V.ref a)) → i = j
  fr : Same P.H0 H
  new : ∀ a, Owns e σ a → P.H0 a = none
section
variable {P : Pk} {e : Sl} {σ : L2.St} {H H' : Hp}
theorem SlotOk.same {K : PySem.W.Frag} {av : Addr → Prop} (s : Same H H') : ∀ {x : Slot} {o : Option V}, SlotOk K av H x o → SlotOk K av H' x o
  | .un, _, _ => trivial
  | .d _, _, ⟨v, h, d⟩ => ⟨v, h, d.same s⟩
  | .ol _, _, ⟨a, ys, h, q, d⟩ => ⟨a, ys, h, s _ _ q, d.same s⟩
  | .od _, _, ⟨a, ys, h, q, d⟩ => ⟨a, ys, h, s _ _ q, d.same s⟩
theorem Rel.same (r : Rel P e σ H) (s : Same H H') : Rel P e σ H' := ⟨r.len, fun i x o h1 h2 => (r.slot i x o h1 h2).same s, r.inj, r.fr.trans s, r.new⟩
theorem Rel.at (r : Rel P e σ H) {i : Nat} {s : Slot} (h : e[i]? = some s) : ∃ o, σ[i]? = some o ∧ SlotOk P.K (avo P e σ) H s o := by
  have hl : i < σ.length := by rw [r.len]; exact (List.getElem?_eq_some_iff.mp h).1
  exact ⟨σ[i], List.getElem?_eq_getElem hl, r.slot i s _ h (List.getElem?_eq_getElem hl)⟩
theorem Rel.own_ne (r : Rel P e σ H) {a : Addr} (h : Owns e σ a) : H a ≠ none := by
  obtain ⟨i, s, h1, h2, h3⟩ := h
  have q := r.slot i s _ h1 h3
  cases s with
  | un => cases h2
  | d _ => cases h2
  | ol xs => obtain ⟨b, ys, e1, e2, _⟩ := q; cases e1; rw [e2]; exact fun z => nomatch z
  | od xs => obtain ⟨b, ys, e1, e2, _⟩ := q; cases e1; rw [e2]; exact fun z => nomatch z
theorem Rel.av_ne (r : Rel P e σ H) {a : Addr} (h : avo P e σ a) : H a ≠ none := by
  rcases h with h | h
  · intro z
    cases q : P.H0 a with
    | none => exact P.avok a h q
    | some o => rw [r.fr _ _ q] at z; cases z
  · exact r.own_ne h
theorem Rel.own_av (r : Rel P e σ H) {a : Addr} (h : Owns e σ a) : ¬ P.Av a := fun z => P.avok a z (r.new a h)
end

/-! ### readings -/
/-- the modes: 0 nothing but what results may not be is avoided, 1 the top may be an own list, 2 strong -/
def av0 (P : Pk) (e : Sl) (σ : L2.St) : Nat → Addr → Prop
  | 0 => P.Av
  | 1 => P.Av
  | _ => avo P e σ
def av1 (P : Pk) (e : Sl) (σ : L2.St) : Nat → Addr → Prop
  | 0 => P.Av
  | _ => avo P e σ
def DenM (P : Pk) (e : Sl) (σ : L2.St) (m : Nat) (H : Hp) (v : V) (d : D) : Prop := Den2 P.K (av0 P e σ m) (av1 P e σ m) H v d
def DenMs (P : Pk) (e : Sl) (σ : L2.St) (m : Nat) (H : Hp) : List V → List D → Prop
  | [], [] => True
  | v :: vs, d :: ds => DenM P e σ m H v d ∧ DenMs P e σ m H vs ds
  | _, _ => False
section
variable {P : Pk} {e : Sl} {σ : L2.St} {H H' : Hp} {v : V} {d : D} {m : Nat}
theorem DenM.same (s : Same H H') (h : DenM P e σ m H v d) : DenM P e σ m H' v d := Den2.same s h
theorem DenMs.same (s : Same H H') : ∀ {vs : List V} {ds : List D}, DenMs P e σ m H vs ds → DenMs P e σ m H' vs ds
  | [], [], _ => trivial
  | _ :: _, _ :: _, h => ⟨h.1.same s, DenMs.same s h.2⟩
  | [], _ :: _, h => h.elim
  | _ :: _, [], h => h.elim
theorem Den.m2 (h : Den P.K (avo P e σ) H v d) : DenM P e σ 2 H v d := h.two
theorem DenM.d2 (h : DenM P e σ 2 H v d) : Den P.K (avo P e σ) H v d := Den2.one h
theorem DenM.weak (h : DenM P e σ m H v d) : Den P.K P.Av H v d := by
  refine Den2.one (Den2.mono (fun a z => ?_) (fun a z => ?_) h)
  · match m with
    | 0 => exact z
    | 1 => exact z
    | _ + 2 => exact .inl z
  · match m with
    | 0 => exact z
    | _ + 1 => exact .inl z
theorem Den.mm (h : Den P.K (avo P e σ) H v d) : DenM P e σ m H v d := by
  refine Den2.mono (fun a z => ?_) (fun a z => ?_) h.two
  · match m with
    | 0 => exact .inl z
    | 1 => exact .inl z
    | _ + 2 => exact z
  · match m with
    | 0 => exact .inl z
    | _ + 1 => exact z
theorem DenM.flat (h : DenM P e σ m H v d) (f : noLst d = true) : Den P.K (avo P e σ) H v d := h.weak.noLst f
theorem DenMs.weak : ∀ {vs : List V} {ds : List D}, DenMs P e σ m H vs ds → Dens P.K P.Av H vs ds
  | [], [], _ => .nil
  | _ :: _, _ :: _, h => .cons h.1.weak (DenMs.weak h.2)
  | [], _ :: _, h => h.elim
  | _ :: _, [], h => h.elim
theorem DenMs.d2 : ∀ {vs : List V} {ds : List D}, DenMs P e σ 2 H vs ds → Dens P.K (avo P e σ) H vs ds
  | [], [], _ => .nil
  | _ :: _, _ :: _, h => .cons h.1.d2 (DenMs.d2 h.2)
  | [], _ :: _, h => h.elim
  | _ :: _, [], h => h.elim
end

/-- what is asked behind an evaluation -/
def Post (P : Pk) (e : Sl) (σ : L2.St) (m : Nat) (H : Hp) (Q : VK) : Res D → Prop
  | .ok d => ∀ v H', Same H H' → DenM P e σ m H' v d → Q v H'
  | .ex c => ∀ H', Same H H' → P.W (.ref (P.ca c)) none σ H'
  | .stuck => False
def PostT (P : Pk) (σ : L2.St) (H : Hp) (Q : Bool → Hp → Prop) : Res D → Prop
  | .ok (.bool b) => ∀ H', Same H H' → Q b H'
  | .ok _ => False
  | .ex c => ∀ H', Same H H' → P.W (.ref (P.ca c)) none σ H'
  | .stuck => False
def Posts (P : Pk) (e : Sl) (σ : L2.St) (m : Nat) (H : Hp) (Q : List V → Hp → Prop) : Res (List D) → Prop
  | .ok ds => ∀ vs H', Same H H' → DenMs P e σ m H' vs ds → Q vs H'
  | .ex c => ∀ H', Same H H' → P.W (.ref (P.ca c)) none σ H'
  | .stuck => False
def PostL (P : Pk) (e : Sl) (σ : L2.St) (H : Hp) (Q : VK) : Res D → Prop
  | .ok (.list ds) => ∀ p H' xs, Same H H' → H p = none → H' p = some (.lst xs) → Dens P.K (fun a => avo P e σ a ∨ a = p) H' xs ds → Q (.ref p) H'
  | .ok (.dict ds) => ∀ p H' ks, Same H H' → H p = none → H' p = some (.dK ks) → DenKs P.K (fun a => avo P e σ a ∨ a = p) H' ks ds → Q (.ref p) H'
  | .ok _ => False
  | .ex c => ∀ H', Same H H' → P.W (.ref (P.ca c)) none σ H'
  | .stuck => False
def lift (P : Pk) (m : Nat) (f : Sl → Res D) : L2.TE := fun σ H Q => ∃ e, Rel P e σ H ∧ Post P e σ m H Q (f e)
def liftT (P : Pk) (f : Sl → Res D) : L2.TT := fun σ H Q => ∃ e, Rel P e σ H ∧ PostT P σ H Q (f e)
def lifts (P : Pk) (m : Nat) (f : Sl → Res (List D)) : L2.TA := fun σ H Q => ∃ e, Rel P e σ H ∧ Posts P e σ m H Q (f e)
/-- a new list or dict -/
def liftL (P : Pk) (f : Sl → Res D) : L2.TE := fun σ H Q => ∃ e, Rel P e σ H ∧ PostL P e σ H Q (f e)

theorem PE.imp {X : Cx} {ex : Expr} {t t' : L2.TE} (h : PE X ex t) (i : ∀ σ H Q, t' σ H Q → t σ H Q) : PE X ex t' := ⟨fun pins s σ H Q I q => h.run pins s σ H Q I (i _ _ _ q)⟩
theorem PT.imp {X : Cx} {ex : Expr} {t t' : L2.TT} (h : PT X ex t) (i : ∀ σ H Q, t' σ H Q → t σ H Q) : PT X ex t' := ⟨fun pins s σ H Q I q => h.run pins s σ H Q I (i _ _ _ q)⟩
theorem PW.imp {X : Cx} {ex : Expr} {t t' : L2.TT} (h : PW X ex t) (i : ∀ σ H Q, t' σ H Q → t σ H Q) : PW X ex t' := ⟨fun wh pins s σ H Q I q => h.run wh pins s σ H Q I (i _ _ _ q)⟩
theorem PA.imp {X : Cx} {ex : List Expr} {t t' : L2.TA} (h : PA X ex t) (i : ∀ σ H Q, t' σ H Q → t σ H Q) : PA X ex t' := ⟨fun pos pins s σ H Q I q => h.run pos pins s σ H Q I (i _ _ _ q)⟩
theorem PS.imp {X : Cx} {st : Stmt} {t t' : L2.TS} (h : PS X st t) (i : ∀ D σ H, t' D σ H → t D σ H) : PS X st t' := ⟨fun pins s σ H D I q => h.run pins s σ H D I (i _ _ _ q)⟩
theorem PSs.imp {X : Cx} {st : List Stmt} {t t' : L2.TS} (h : PSs X st t) (i : ∀ D σ H, t' D σ H → t D σ H) : PSs X st t' := ⟨fun pins s σ H D I q => h.run pins s σ H D I (i _ _ _ q)⟩

section
variable {P : Pk} {e : Sl} {σ : L2.St} {H H' : Hp} {m n k : Nat} {Q : VK}
theorem Post.back (s : Same H H') : ∀ {r : Res D}, Post P e σ m H Q r → Post P e σ m H' Q r
  | .ok _, h => fun v H2 s2 d => h v H2 (s.trans s2) d
  | .ex _, h => fun H2 s2 => h H2 (s.trans s2)
  | .stuck, h => h
theorem Post.weaken {Q' : VK} : ∀ {r : Res D}, Post P e σ m H Q r → (∀ v H', Q v H' → Q' v H') → Post P e σ m H Q' r
  | .ok _, h, f => fun v H2 s2 d => f _ _ (h v H2 s2 d)
  | .ex _, h, _ => h
  | .stuck, h, _ => h
theorem Posts.weaken {Q Q' : List V → Hp → Prop} : ∀ {r : Res (List D)}, Posts P e σ m H Q r → (∀ v H', Q v H' → Q' v H') → Posts P e σ m H Q' r
  | .ok _, h, f => fun v H2 s2 d => f _ _ (h v H2 s2 d)
  | .ex _, h, _ => h
  | .stuck, h, _ => h
theorem Post.bind {F : D → Res D} : ∀ {r : Res D}, Post P e σ k H Q (r.bind F) → Post P e σ m H (fun v H1 => ∃ x, Same H H1 ∧ DenM P e σ m H1 v x ∧ Post P e σ k H1 Q (F x)) r
  | .ok x, h => fun v H1 s1 d1 => ⟨x, s1, d1, Post.back s1 h⟩
  | .ex _, h => h
  | .stuck, h => h
theorem Post.binds {F : List D → Res D} : ∀ {r : Res (List D)}, Post P e σ k H Q (r.bind F) → Posts P e σ m H (fun vs H1 => ∃ xs, Same H H1 ∧ DenMs P e σ m H1 vs xs ∧ Post P e σ k H1 Q (F xs)) r
  | .ok x, h => fun v H1 s1 d1 => ⟨x, s1, d1, Post.back s1 h⟩
  | .ex _, h => h
  | .stuck, h => h
theorem Post.ok {d : D} {v : V} (h : Post P e σ m H Q (.ok d)) (hd : DenM P e σ m H v d) : Q v H := h v H (Same.refl H) hd
theorem Post.ok' {d : D} {v : V} (h : Post P e σ m H Q (.ok d)) (s : Same H H') (hd : DenM P e σ m H' v d) : Q v H' := h v H' s hd
theorem Post.some {o : Option D} (h : Post P e σ m H Q (Res.of o)) : ∃ d, o = some d ∧ Post P e σ m H Q (.ok d) := by
  cases o with
  | none => exact h.elim
  | some d => exact ⟨d, rfl, h⟩
/-- a mode's weakening -/
theorem Post.mode (hm : ∀ H v d, DenM P e σ n H v d → DenM P e σ m H v d) : ∀ {r : Res D}, Post P e σ m H Q r → Post P e σ n H Q r
  | .ok _, h => fun v H2 s2 d => h v H2 s2 (hm _ _ _ d)
  | .ex _, h => h
  | .stuck, h => h
theorem lift_bind {f : Sl → Res D} {F : Sl → D → Res D} (h : lift P k (fun e => (f e).bind (F e)) σ H Q) :
    lift P m f σ H fun v H1 => ∃ e x, Rel P e σ H1 ∧ DenM P e σ m H1 v x ∧ Post P e σ k H1 Q (F e x) := by
  obtain ⟨e, R, h⟩ := h
  refine ⟨e, R, ?_⟩
  have q := Post.bind (m := m) (r := f e) h
  cases q2 : f e with
  | ok x =>
    rw [q2] at q
    intro v H1 s1 d1
    obtain ⟨y, s, d, p⟩ := q v H1 s1 d1
    exact ⟨e, y, R.same s, d, p⟩
  | ex c => rw [q2] at q; exact q
  | stuck => rw [q2] at q; exact q
theorem lift_binds {f : Sl → Res (List D)} {F : Sl → List D → Res D} (h : lift P k (fun e => (f e).bind (F e)) σ H Q) :
    lifts P m f σ H fun vs H1 => ∃ e xs, Rel P e σ H1 ∧ DenMs P e σ m H1 vs xs ∧ Post P e σ k H1 Q (F e xs) := by
  obtain ⟨e, R, h⟩ := h
  refine ⟨e, R, ?_⟩
  have q := Post.binds (m := m) (r := f e) h
  cases q2 : f e with
  | ok x =>
    rw [q2] at q
    intro v H1 s1 d1
    obtain ⟨y, s, d, p⟩ := q v H1 s1 d1
    exact ⟨e, y, R.same s, d, p⟩
  | ex c => rw [q2] at q; exact q
  | stuck => rw [q2] at q; exact q
/-- a further operand: e is known -/
theorem Post.then {g : Res D} {G : D → Res D} (R : Rel P e σ H) (h : Post P e σ k H Q (g.bind G)) : Post P e σ m H (fun v H1 => ∃ x, Rel P e σ H1 ∧ Same H H1 ∧ DenM P e σ m H1 v x ∧ Post P e σ k H1 Q (G x)) g := by
  have q := Post.bind (m := m) (r := g) h
  cases g with
  | ok x => exact fun v H1 s1 d1 => let ⟨y, s, d, p⟩ := q v H1 s1 d1; ⟨y, R.same s, s, d, p⟩
  | ex c => exact q
  | stuck => exact q
theorem Post.thens {g : Res (List D)} {G : List D → Res D} (R : Rel P e σ H) (h : Post P e σ k H Q (g.bind G)) : Posts P e σ m H (fun v H1 => ∃ x, Rel P e σ H1 ∧ Same H H1 ∧ DenMs P e σ m H1 v x ∧ Post P e σ k H1 Q (G x)) g := by
  have q := Post.binds (m := m) (r := g) h
  cases g with
  | ok x => exact fun v H1 s1 d1 => let ⟨y, s, d, p⟩ := q v H1 s1 d1; ⟨y, R.same s, s, d, p⟩
  | ex c => exact q
  | stuck => exact q
end
end Rf

set_option Elab.async false
set_option linter.all false
set_option maxRecDepth 100000
set_option maxHeartbeats 1000000
/-! Rf, part C: operations by values. -/
namespace Rf
open PySem PySem.Spec PyProof.Rows L2

theorem line_le {n : Nat} (h : n ≤ line) : n ≤ sizeLine := Nat.le_trans h (by decide)
theorem line_lt {n : Nat} (h : n < line) : n < sizeLine := Nat.lt_of_lt_of_le h (by decide)

/-- z is the data d, a list or dict is a new one -/
def Fr2 (K : PySem.W.Frag) (a1 : Addr → Prop) (H : Hp) (z : V) (H' : Hp) : D → Prop
  | .list ds => ∃ p xs, z = .ref p ∧ H p = none ∧ H' p = some (.lst xs) ∧ Dens K (fun a => a1 a ∨ a = p) H' xs ds
  | .dict ds => ∃ p ks, z = .ref p ∧ H p = none ∧ H' p = some (.dK ks) ∧ DenKs K (fun a => a1 a ∨ a = p) H' ks ds
  | d => Den K a1 H' z d
theorem Fr2.two {K : PySem.W.Frag} {a1 c0 : Addr → Prop} {H H' : Hp} {z : V} {d : D} (h : Fr2 K a1 H z H' d) (hc : ∀ a, c0 a → H a ≠ none) : Den2 K c0 a1 H' z d := by
  cases d with
  | list ds => obtain ⟨p, xs, rfl, n, e, t⟩ := h; exact ⟨p, xs, rfl, .inl (.inl e), .inl fun z => hc p z n, t.imp (fun _ _ z => z) fun _ _ z => .inl z⟩
  | dict ds => obtain ⟨p, xs, rfl, n, e, t⟩ := h; exact ⟨p, xs, rfl, .inl e, fun z => hc p z n, t.imp (fun _ _ z => z) fun _ _ z => .inl z⟩
  | _ => exact h
theorem Fr2.back {K : PySem.W.Frag} {a1 : Addr → Prop} {H0 H H' : Hp} {z : V} {d : D} (s : Same H0 H) (h : Fr2 K a1 H z H' d) : Fr2 K a1 H0 z H' d := by
  have bk : ∀ p, H p = none → H0 p = none := fun p n => by
    cases q : H0 p with
    | none => rfl
    | some o => rw [s _ _ q] at n; cases n
  cases d with
  | list ds => obtain ⟨p, xs, e1, n, e, t⟩ := h; exact ⟨p, xs, e1, bk p n, e, t⟩
  | dict ds => obtain ⟨p, xs, e1, n, e, t⟩ := h; exact ⟨p, xs, e1, bk p n, e, t⟩
  | _ => exact h
/-- two values in, a value out -/
def RB (K : PySem.W.Frag) (r : D → D → Option D) : R2 := fun v w H Q => ∃ a0 b0 a1 x y d, Den2 K a0 a1 H v x ∧ Den2 K b0 a1 H w y ∧ r x y = some d ∧
  ∀ z H', Same H H' → Fr2 K a1 H z H' d → Q z H'
theorem same_upd {H : Hp} {p : Addr} {o : HO} (h : H p = none) : Same H (upd H p o) := fun b x e => by
  rw [upd_ne (ne_of_none e h)]
  exact e
section
variable {K : PySem.W.Frag} {a0 a1 : Addr → Prop} {H : Hp} {v : V}
theorem d2_none (h : Den2 K a0 a1 H v .none) : v = .non := by cases h; rfl
theorem d2_bool {b : Bool} (h : Den2 K a0 a1 H v (.bool b)) : v = .bl b := by cases h; rfl
theorem d2_int {i : Int} (h : Den2 K a0 a1 H v (.int i)) : v = .int i := by cases h; rfl
theorem d2_str {x : Str} (h : Den2 K a0 a1 H v (.str x)) : v = .str x := by cases h; rfl
theorem d2_tup {ds : List D} (h : Den2 K a0 a1 H v (.tuple ds)) : ∃ a xs, v = .ref a ∧ SqT K H a xs ∧ Dens K a1 H xs ds := by
  cases h with
  | tuple h t => exact ⟨_, _, rfl, h, t⟩
theorem d2_lst {ds : List D} (h : Den2 K a0 a1 H v (.list ds)) : ∃ a xs, v = .ref a ∧ SqL K H a xs ∧ Dens K a1 H xs ds := by
  obtain ⟨a, xs, e, r, _, t⟩ := h
  exact ⟨a, xs, e, r, t⟩
theorem d2_dct {ds : List (D × D)} (h : Den2 K a0 a1 H v (.dict ds)) : ∃ a xs, v = .ref a ∧ Rd H a (.dK xs) ∧ DenKs K a1 H xs ds := by
  obtain ⟨a, xs, e, r, _, t⟩ := h
  exact ⟨a, xs, e, r, t⟩
end
theorem den_int {K : PySem.W.Frag} {a0 a1 : Addr → Prop} {H : Hp} {i : Int} : Den2 K a0 a1 H (.int i) (.int i) := Den.int i
theorem den_bool {K : PySem.W.Frag} {a0 a1 : Addr → Prop} {H : Hp} {i : Bool} : Den2 K a0 a1 H (.bl i) (.bool i) := Den.bool i
theorem den_str {K : PySem.W.Frag} {a0 a1 : Addr → Prop} {H : Hp} {i : Str} : Den2 K a0 a1 H (.str i) (.str i) := Den.str i
theorem den_none {K : PySem.W.Frag} {a0 a1 : Addr → Prop} {H : Hp} : Den2 K a0 a1 H .non .none := Den.none
/-- a new list -/
theorem new_lst {K : PySem.W.Frag} {a1 : Addr → Prop} {H : Hp} {p : Addr} {xs : List V} {ds : List D} (hp : H p = none) (h : Dens K a1 H xs ds) :
    Fr2 K a1 H (.ref p) (upd H p (.lst xs)) (.list ds) := ⟨p, xs, rfl, hp, upd_same, h.imp (fun _ _ => same_rd (same_upd hp)) fun a ha z => z.elim id fun e => absurd (e ▸ hp) ha⟩
theorem new_dct {K : PySem.W.Frag} {a1 : Addr → Prop} {H : Hp} {p : Addr} {xs : List (Key × V)} {ds : List (D × D)} (hp : H p = none) (h : DenKs K a1 H xs ds) :
    Fr2 K a1 H (.ref p) (upd H p (.dK xs)) (.dict ds) := ⟨p, xs, rfl, hp, upd_same, h.imp (fun _ _ => same_rd (same_upd hp)) fun a ha z => z.elim id fun e => absurd (e ▸ hp) ha⟩
theorem new_tup {K : PySem.W.Frag} {a1 : Addr → Prop} {H : Hp} {p : Addr} {xs : List V} {ds : List D} (hp : H p = none) (h : Dens K a1 H xs ds) :
    Fr2 K a1 H (.ref p) (upd H p (.tup xs)) (.tuple ds) := Den.tuple (.inl (.inl upd_same)) (h.same (same_upd hp))
theorem fr_int {K : PySem.W.Frag} {a1 : Addr → Prop} {H H' : Hp} {i : Int} : Fr2 K a1 H (.int i) H' (.int i) := Den.int i
theorem fr_bool {K : PySem.W.Frag} {a1 : Addr → Prop} {H H' : Hp} {i : Bool} : Fr2 K a1 H (.bl i) H' (.bool i) := Den.bool i
theorem fr_str {K : PySem.W.Frag} {a1 : Addr → Prop} {H H' : Hp} {i : Str} : Fr2 K a1 H (.str i) H' (.str i) := Den.str i

section
variable {X : Cx}
theorem op_catR : OpR X (binaryOp .Add) (fun x y H Q => ∃ l b xs zs, x = .ref l ∧ y = .ref b ∧ SqL X.K H l xs ∧ SqL X.K H b zs ∧ xs.length + zs.length ≤ sizeLine ∧ ∀ p, H p = none → Q (.ref p) (upd H p (.lst (xs ++ zs)))) := by
  intro pins s σ H x y v u Q I rx ry h
  obtain ⟨l, b, xs, zs, rfl, rfl, hH, hB, hz, q⟩ := h
  cases rx
  cases ry
  obtain ⟨its, r, p, hz1⟩ := I.list hH
  obtain ⟨its2, r2, p2, hz2⟩ := I.list hB
  have hl := r.length
  have hl2 := r2.length
  obtain ⟨⟨c1, d1, da1, sl1⟩, g1, t1, n1, q1⟩ := id p.isList
  obtain ⟨⟨c2, d2, da2, sl2⟩, g2, t2, n2, q2⟩ := id p2.isList
  simp only at t1 q1 t2 q2
  subst t1 q1 t2 q2
  have ea : its.toArray ++ its2.toArray = (its ++ its2).toArray := by simp
  refine PySem.concat_meets ⟨_, g1, rfl⟩ ⟨_, g2, rfl⟩ PySem.noFill_list_add PySem.seq_list_add PySem.F.slot_list_add PySem.F.entry_list_add (PySem.F.args_list_add_2 _ _) (list_addW l b its.toArray its2.toArray n1 n2 d1 d2 sl1 sl2 (by rw [List.size_toArray, List.size_toArray]; omega)) ⟨g1, g2, ?_⟩
  rw [ea]
  exact ⟨.ref _, _, I.lnew (t' := s.toks) (r.append r2) (by rw [List.length_append]; omega), rfl, q _ I.fresh⟩

theorem op_addD : OpR X (binaryOp .Add) (RB X.K (binD .add)) := by
  intro pins s σ H v w v' w' Q I rv rw h
  obtain ⟨a0, b0, a1, x, y, d, hx, hy, hd, q⟩ := h
  cases x with
  | int i =>
    cases y <;> simp only [binD, reduceCtorEq] at hd
    rename_i j
    cases hd
    obtain rfl := d2_int hx
    obtain rfl := d2_int hy
    exact op_add pins s σ H _ _ _ _ Q I rv rw ⟨i, j, rfl, rfl, q _ _ (Same.refl H) fr_int⟩
  | str i =>
    cases y <;> simp only [binD, reduceCtorEq] at hd
    rename_i j
    split at hd
    · rename_i hl
      cases hd
      obtain rfl := d2_str hx
      obtain rfl := d2_str hy
      exact op_add_str pins s σ H _ _ _ _ Q I rv rw ⟨i, j, rfl, rfl, line_le hl, q _ _ (Same.refl H) fr_str⟩
    · cases hd
  | list xs =>
    cases y <;> simp only [binD, reduceCtorEq] at hd
    rename_i ys
    split at hd
    · rename_i hl
      cases hd
      obtain ⟨a, us, rfl, ra, da⟩ := d2_lst hx
      obtain ⟨b, ws, rfl, rb, db⟩ := d2_lst hy
      exact op_catR pins s σ H _ _ _ _ Q I rv rw ⟨a, b, us, ws, rfl, rfl, ra, rb, by rw [da.length, db.length]; exact line_le hl, fun p hp => q _ _ (same_upd hp) (new_lst hp (da.append db))⟩
    · cases hd
  | tuple xs =>
    cases y with
    | tuple ys =>
      cases xs with
      | nil => simp only [binD, reduceCtorEq] at hd
      | cons x xs =>
        simp only [binD] at hd
        split at hd
        · rename_i hl
          cases hd
          obtain ⟨a, us, rfl, ra, da⟩ := d2_tup hx
          obtain ⟨b, ws, rfl, rb, db⟩ := d2_tup hy
          have hu : us ≠ [] := fun z => by subst z; cases da
          refine op_catT pins s σ H _ _ _ _ Q I rv rw ⟨a, b, us, ws, rfl, rfl, ra, rb, hu, by rw [da.length, db.length]; exact line_le hl, fun z => ?_, fun z p hp => q _ _ (same_upd hp) (new_tup hp (da.append db))⟩
          subst z
          cases db
          refine q _ _ (Same.refl H) (Den.tuple ra ?_)
          rw [List.append_nil]
          exact da
        · cases hd
    | _ => cases xs <;> simp only [binD, reduceCtorEq] at hd
  | none => cases y <;> simp only [binD, reduceCtorEq] at hd
  | bool _ => cases y <;> simp only [binD, reduceCtorEq] at hd
  | dict _ => cases y <;> simp only [binD, reduceCtorEq] at hd
theorem mulOk {i j : Int} (h : i.natAbs < 2 ^ 64 ∨ j.natAbs < 2 ^ 64) : CMul i j := by
  rcases h with h | h
  · exact .inl (by omega)
  · exact .inr (by omega)
/-- an operation of ints by its rule -/
theorem op_intD {f : Value → Value → Sem Value} {C : Int → Int → Prop} {g : Int → Int → Int} {r : D → D → Option D} (h : OpR X f (rI C fun i j => .int (g i j)))
    (hr : ∀ x y d, r x y = some d → ∃ i j, x = .int i ∧ y = .int j ∧ C i j ∧ d = .int (g i j)) : OpR X f (RB X.K r) := by
  intro pins s σ H v w v' w' Q I rv rw hh
  obtain ⟨a0, b0, a1, x, y, d, hx, hy, hd, q⟩ := hh
  obtain ⟨i, j, rfl, rfl, c, rfl⟩ := hr x y d hd
  obtain rfl := d2_int hx
  obtain rfl := d2_int hy
  exact h pins s σ H _ _ _ _ Q I rv rw ⟨i, j, rfl, rfl, c, q _ _ (Same.refl H) fr_int⟩
theorem binI_sub {x y d : D} (h : binD .sub x y = some d) : ∃ i j, x = .int i ∧ y = .int j ∧ True ∧ d = .int (i - j) := by
  cases x <;> cases y <;> simp only [binD, reduceCtorEq, Option.some.injEq] at h
  exact ⟨_, _, rfl, rfl, trivial, h.symm⟩
theorem binI_mul {x y d : D} (h : binD .mul x y = some d) : ∃ i j, x = .int i ∧ y = .int j ∧ CMul i j ∧ d = .int (i * j) := by
  cases x <;> cases y <;> simp only [binD, reduceCtorEq] at h
  split at h
  · rename_i c
    cases h
    exact ⟨_, _, rfl, rfl, mulOk c, rfl⟩
  · cases h
theorem binI_fdiv {x y d : D} (h : binD .fdiv x y = some d) : ∃ i j, x = .int i ∧ y = .int j ∧ CDiv i j ∧ d = .int (i / j) := by
  cases x <;> cases y <;> simp only [binD, reduceCtorEq] at h
  split at h
  · rename_i c
    cases h
    exact ⟨_, _, rfl, rfl, c, rfl⟩
  · cases h
theorem binI_mod {x y d : D} (h : binD .mod x y = some d) : ∃ i j, x = .int i ∧ y = .int j ∧ 0 < j ∧ d = .int (i % j) := by
  cases x <;> cases y <;> simp only [binD, reduceCtorEq] at h
  split at h
  · rename_i c
    cases h
    exact ⟨_, _, rfl, rfl, c, rfl⟩
  · cases h
theorem binI_pow {x y d : D} (h : binD .pow x y = some d) : ∃ i j, x = .int i ∧ y = .int j ∧ CPow i j ∧ d = .int (i ^ j.toNat) := by
  cases x <;> cases y <;> simp only [binD, reduceCtorEq] at h
  split at h
  · rename_i c
    cases h
    exact ⟨_, _, rfl, rfl, c, rfl⟩
  · cases h
theorem rI_of {f : Value → Value → Sem Value} {g : Int → Int → Int} (h : OpR X f (rI0 fun i j => .int (g i j))) : OpR X f (rI (fun _ _ => True) fun i j => .int (g i j)) :=
  fun pins s σ H x y v u Q I rx ry ⟨i, j, e1, e2, _, q⟩ => h pins s σ H x y v u Q I rx ry ⟨i, j, e1, e2, q⟩
def bOp : BOp → Operator
  | .add => .Add
  | .sub => .Sub
  | .mul => .Mult
  | .fdiv => .FloorDiv
  | .mod => .Mod
  | .pow => .Pow
theorem op_binD : ∀ op : BOp, OpR X (binaryOp (bOp op)) (RB X.K (binD op))
  | .add => op_addD
  | .sub => op_intD (rI_of op_sub) fun _ _ _ h => binI_sub h
  | .mul => op_intD op_mul fun _ _ _ h => binI_mul h
  | .fdiv => op_intD op_fdiv fun _ _ _ h => binI_fdiv h
  | .mod => op_intD op_mod fun _ _ _ h => binI_mod h
  | .pow => op_intD op_pow fun _ _ _ h => binI_pow h
theorem aug_int {op : BOp} (ho : op ≠ .add) {x y d : D} (h : augD op x y = some d) : binD op x y = some d := by
  cases x <;> simp only [augD, reduceCtorEq] at h <;> exact h
theorem op_augD : ∀ op : BOp, op ≠ .pow → OpR X (inplaceOp (bOp op)) (RB X.K (augD op))
  | .add, _ => by
    intro pins s σ H v w v' w' Q I rv rw h
    obtain ⟨a0, b0, a1, x, y, d, hx, hy, hd, q⟩ := h
    cases x with
    | int i =>
      cases y <;> simp only [augD, binD, reduceCtorEq] at hd
      rename_i j
      cases hd
      obtain rfl := d2_int hx
      obtain rfl := d2_int hy
      exact iop_add pins s σ H _ _ _ _ Q I rv rw ⟨i, j, rfl, rfl, q _ _ (Same.refl H) fr_int⟩
    | str i =>
      cases y <;> simp only [augD, binD, reduceCtorEq] at hd
      rename_i j
      split at hd
      · rename_i hl
        cases hd
        obtain rfl := d2_str hx
        obtain rfl := d2_str hy
        exact iop_add_str pins s σ H _ _ _ _ Q I rv rw ⟨i, j, rfl, rfl, line_le hl, q _ _ (Same.refl H) fr_str⟩
      · cases hd
    | _ => simp only [augD, reduceCtorEq] at hd
  | .sub, _ => op_intD (rI_of iop_sub) fun _ _ _ h => binI_sub (aug_int (op := .sub) nofun h)
  | .mul, _ => op_intD iop_mul fun _ _ _ h => binI_mul (aug_int (op := .mul) nofun h)
  | .fdiv, _ => op_intD iop_fdiv fun _ _ _ h => binI_fdiv (aug_int (op := .fdiv) nofun h)
  | .mod, _ => op_intD iop_mod fun _ _ _ h => binI_mod (aug_int (op := .mod) nofun h)
  | .pow, h => absurd rfl h

/-! ### comparisons -/
/-- two values in, a truth out -/
def RC (K : PySem.W.Frag) (r : D → D → Option Bool) : R2 := fun v w H Q => ∃ a0 b0 a1 x y d, Den2 K a0 a1 H v x ∧ Den2 K b0 a1 H w y ∧ r x y = some d ∧ Q (.bl d) H
theorem Den2.den {K : PySem.W.Frag} {a0 a1 : Addr → Prop} {H : Hp} {v : V} {d : D} (h : Den2 K a0 a1 H v d) : Den K (fun _ => False) H v d := (Den2.mono (fun _ z => z.elim) (fun _ z => z.elim) h).one
theorem op_eqD' (hu : X.A.units + 190 < cLine) : OpR X (compareOp .Eq) (RC X.K (cmpD .eq)) := by
  intro pins s σ H v w v' w' Q I rv rw h
  obtain ⟨a0, b0, a1, x, y, d, hx, hy, hd, q⟩ := h
  simp only [cmpD] at hd
  split at hd
  · rename_i c
    cases hd
    simp only [eqOk, Bool.and_eq_true, decide_eq_true_eq] at c
    obtain ⟨⟨c1, c2⟩, c3⟩ := c
    obtain ⟨as, r1⟩ := Dp.reads I x v v' (hx.den.dp c1) rv
    obtain ⟨bs, r2⟩ := Dp.reads I y w w' (hy.den.dp c2) rw
    exact SeqAt.compareEq_reads r1 r2 c1 c2 (by omega) ⟨.bl _, H, I, rfl, q⟩
  · cases hd
theorem op_neD' (hu : X.A.units + 190 < cLine) : OpR X (compareOp .NotEq) (RC X.K (cmpD .ne)) := by
  intro pins s σ H v w v' w' Q I rv rw h
  obtain ⟨a0, b0, a1, x, y, d, hx, hy, hd, q⟩ := h
  simp only [cmpD] at hd
  split at hd
  · rename_i c
    cases hd
    simp only [eqOk, Bool.and_eq_true, decide_eq_true_eq] at c
    obtain ⟨⟨c1, c2⟩, c3⟩ := c
    obtain ⟨as, r1⟩ := Dp.reads I x v v' (hx.den.dp c1) rv
    obtain ⟨bs, r2⟩ := Dp.reads I y w w' (hy.den.dp c2) rw
    exact SeqAt.compareNe_reads r1 r2 c1 c2 (by omega) ⟨.bl _, H, I, rfl, q⟩
  · cases hd
theorem op_ordD {f : Value → Value → Sem Value} {g : Int → Int → Bool} {r : D → D → Option Bool} (h : OpR X f (rI0 fun i j => .bl (g i j)))
    (hr : ∀ x y d, r x y = some d → ∃ i j, x = .int i ∧ y = .int j ∧ d = g i j) : OpR X f (RC X.K r) := by
  intro pins s σ H v w v' w' Q I rv rw hh
  obtain ⟨a0, b0, a1, x, y, d, hx, hy, hd, q⟩ := hh
  obtain ⟨i, j, rfl, rfl, rfl⟩ := hr x y d hd
  obtain rfl := d2_int hx
  obtain rfl := d2_int hy
  exact h pins s σ H _ _ _ _ Q I rv rw ⟨i, j, rfl, rfl, q⟩

/-! membership -/
theorem eqv_eqV {K : PySem.W.Frag} {av : Addr → Prop} {H : Hp} {v w : V} {x y : D} (hx : Den K av H v x) (hy : Den K av H w y) (fx : flatD x = true) (fy : flatD y = true) : flatV v = true ∧ flatV w = true ∧ eqV w v = PyData.eqv y x := by
  cases hx with
  | none => cases hy with
    | none => exact ⟨rfl, rfl, rfl⟩
    | bool b => exact ⟨rfl, rfl, rfl⟩
    | int i => exact ⟨rfl, rfl, rfl⟩
    | str z => exact ⟨rfl, rfl, rfl⟩
    | _ => cases fy
  | bool c => cases hy with
    | none => exact ⟨rfl, rfl, rfl⟩
    | bool b => exact ⟨rfl, rfl, rfl⟩
    | int i => exact ⟨rfl, rfl, rfl⟩
    | str z => exact ⟨rfl, rfl, rfl⟩
    | _ => cases fy
  | int c => cases hy with
    | none => exact ⟨rfl, rfl, rfl⟩
    | bool b => exact ⟨rfl, rfl, rfl⟩
    | int i => exact ⟨rfl, rfl, rfl⟩
    | str z => exact ⟨rfl, rfl, rfl⟩
    | _ => cases fy
  | str c => cases hy with
    | none => exact ⟨rfl, rfl, rfl⟩
    | bool b => exact ⟨rfl, rfl, rfl⟩
    | int i => exact ⟨rfl, rfl, rfl⟩
    | str z => exact ⟨rfl, rfl, rfl⟩
    | _ => cases fy
  | _ => cases fx
theorem in_of {K : PySem.W.Frag} {av : Addr → Prop} {H : Hp} {v : V} {x : D} (hx : Den K av H v x) (fx : flatD x = true) : ∀ {ws : List V} {ys : List D}, Dens K av H ws ys → ys.all flatD = true →
    ws.all flatV = true ∧ inV v ws = ys.any fun y => PyData.eqv y x
  | _, _, .nil, _ => ⟨rfl, rfl⟩
  | _, _, .cons a b, h => by
    rw [List.all_cons, Bool.and_eq_true] at h
    obtain ⟨h1, h2, h3⟩ := eqv_eqV hx a fx h.1
    obtain ⟨h4, h5⟩ := in_of hx fx b h.2
    refine ⟨by rw [List.all_cons, h2, h4]; rfl, ?_⟩
    show (eqV _ _ || inV v _) = _
    rw [List.any_cons, h3, h5]

/-! dicts -/
theorem keyD_of {k : D} {c : Key} (h : keyD k = some c) : k = keyOf c := by
  cases k <;> simp only [keyD, reduceCtorEq, Option.some.injEq] at h <;> subst h <;> rfl
theorem eqv_key {a b : Key} : PyData.eqv (keyOf a) (keyOf b) = decide (a = b) := by
  cases a with
  | inl i => cases b with
    | inl j => show (i == j) = _; rw [key_ll]
    | inr y => show false = _; rw [key_lr]
  | inr x => cases b with
    | inl j => show false = _; rw [key_rl]
    | inr y =>
      show (x == y) = _
      rw [key_rr, Bool.eq_iff_iff]
      simp
theorem keyV {K : PySem.W.Frag} {a0 a1 : Addr → Prop} {H : Hp} {v : V} {k : Key} (h : Den2 K a0 a1 H v (keyOf k)) : v = kV k := by
  cases k with
  | inl i => exact d2_int h
  | inr x => exact d2_str h
theorem look_of {K : PySem.W.Frag} {av : Addr → Prop} {H : Hp} (k : Key) : ∀ {ks : List (Key × V)} {ds : List (D × D)}, DenKs K av H ks ds →
    (lookD ds (keyOf k) = none ∧ valV ks k = none) ∨ ∃ x v, lookD ds (keyOf k) = some x ∧ valV ks k = some v ∧ Den K av H v x
  | _, _, .nil => .inl ⟨rfl, rfl⟩
  | _, _, .cons (k := c) (v := v) (d := d) (ks := ks) (ds := ds) a b => by
    by_cases e : c = k
    · subst e
      refine .inr ⟨d, v, ?_, valV_pos rfl, a⟩
      simp only [lookD, List.find?_cons, eqv_key, decide_true, Option.map_some]
    · rw [valV_neg e]
      have h1 : lookD ((keyOf c, d) :: ds) (keyOf k) = lookD ds (keyOf k) := by
        unfold lookD
        rw [List.find?_cons, eqv_key, decide_eq_false e]
      rw [h1]
      exact look_of k b
theorem DenKs.any {K : PySem.W.Frag} {av : Addr → Prop} {H : Hp} (k : Key) {ks : List (Key × V)} {ds : List (D × D)} (h : DenKs K av H ks ds) : (lookD ds (keyOf k)).isSome = (valV ks k).isSome := by
  rcases look_of k h with ⟨h1, h2⟩ | ⟨x, v, h1, h2, _⟩
  · rw [h1, h2]; rfl
  · rw [h1, h2]; rfl
theorem repl_of {K : PySem.W.Frag} {av : Addr → Prop} {H : Hp} (k : Key) {w : V} {y : D} (hw : Den K av H w y) : ∀ {ks : List (Key × V)} {ds : List (D × D)}, DenKs K av H ks ds →
    DenKs K av H (ks.map fun kv => if kv.1 = k then (kv.1, w) else kv) (ds.map fun p => if PyData.eqv p.1 (keyOf k) then (p.1, y) else p)
  | _, _, .nil => .nil
  | _, _, .cons (k := c) a b => by
    rw [List.map_cons, List.map_cons]
    by_cases e : c = k
    · subst e
      rw [if_pos rfl]
      simp only [eqv_key, decide_true, if_true]
      exact .cons hw (repl_of c hw b)
    · rw [if_neg e]
      simp only [eqv_key, decide_eq_false e, Bool.false_eq_true, if_false]
      exact .cons a (repl_of k hw b)
theorem DenKs.append {K : PySem.W.Frag} {av : Addr → Prop} {H : Hp} : ∀ {ks : List (Key × V)} {ds : List (D × D)} {ks' : List (Key × V)} {ds' : List (D × D)}, DenKs K av H ks ds → DenKs K av H ks' ds' → DenKs K av H (ks ++ ks') (ds ++ ds')
  | _, _, _, _, .nil, h => h
  | _, _, _, _, .cons a b, h => .cons a (b.append h)
theorem put_of {K : PySem.W.Frag} {av : Addr → Prop} {H : Hp} (k : Key) {w : V} {y : D} (hw : Den K av H w y) {ks : List (Key × V)} {ds : List (D × D)} (h : DenKs K av H ks ds) : DenKs K av H (putK ks k w) (putD ds (keyOf k) y) := by
  unfold putD
  rcases look_of k h with ⟨h1, h2⟩ | ⟨x, v, h1, h2, _⟩
  · rw [putK_new w h2, h1]
    exact h.append (.cons hw .nil)
  · have e : putK ks k w = ks.map fun kv => if kv.1 = k then (kv.1, w) else kv := by
      unfold putK
      rw [if_pos (by rw [valV_any, h2]; rfl)]
    rw [e, h1]
    exact repl_of k hw h
theorem op_inD' (hu : X.A.units + 1 < cLine) : OpR X (compareOp .In) (RC X.K (cmpD .isin)) := by
  intro pins s σ H v w v' w' Q I rv rw h
  obtain ⟨a0, b0, a1, x, y, d, hx, hy, hd, q⟩ := h
  have hd : inD x y = some d := hd
  cases y with
  | list ys =>
    simp only [inD] at hd
    split at hd
    · rename_i c
      cases hd
      rw [Bool.and_eq_true] at c
      obtain ⟨a, us, rfl, ra, da⟩ := d2_lst hy
      obtain ⟨fx, fs, ee⟩ := And.intro c.1 (in_of hx.den c.1 (da.imp (fun _ _ z => z) fun _ _ z => z.elim) c.2)
      obtain ⟨h1, -, -⟩ := eqv_eqV hx.den hx.den c.1 c.1
      exact op_in_seq pins s σ H _ _ _ _ Q I rv rw ⟨a, us, rfl, .inl ra, h1, fs, by rw [if_neg Bool.false_ne_true, ee]; exact q⟩
    · cases hd
  | tuple ys =>
    simp only [inD] at hd
    split at hd
    · rename_i c
      cases hd
      rw [Bool.and_eq_true] at c
      obtain ⟨a, us, rfl, ra, da⟩ := d2_tup hy
      obtain ⟨fx, fs, ee⟩ := And.intro c.1 (in_of hx.den c.1 (da.imp (fun _ _ z => z) fun _ _ z => z.elim) c.2)
      obtain ⟨h1, -, -⟩ := eqv_eqV hx.den hx.den c.1 c.1
      exact op_in_seq pins s σ H _ _ _ _ Q I rv rw ⟨a, us, rfl, .inr ra, h1, fs, by rw [if_neg Bool.false_ne_true, ee]; exact q⟩
    · cases hd
  | str z =>
    cases x <;> simp only [inD, reduceCtorEq, Option.some.injEq] at hd
    subst hd
    obtain rfl := d2_str hx
    obtain rfl := d2_str hy
    exact op_in_str pins s σ H _ _ _ _ Q I rv rw ⟨_, _, rfl, rfl, q⟩
  | dict kvs =>
    simp only [inD] at hd
    split at hd
    · rename_i c
      cases hd
      obtain ⟨k, hk⟩ := Option.isSome_iff_exists.mp c
      obtain rfl := keyD_of hk
      obtain rfl := keyV hx
      obtain ⟨a, us, rfl, ra, da⟩ := d2_dct hy
      rw [da.any] at q
      cases rw
      exact d_in hu I (.inl ⟨us, k, ra, rfl, rfl⟩) rv fun s' I' => ⟨.bl _, H, I', rfl, q⟩
    · cases hd
  | _ => simp only [inD, reduceCtorEq] at hd
theorem op_notinD' (hu : X.A.units + 1 < cLine) : OpR X (compareOp .NotIn) (RC X.K (cmpD .notin)) := by
  intro pins s σ H v w v' w' Q I rv rw h
  obtain ⟨a0, b0, a1, x, y, d, hx, hy, hd, q⟩ := h
  have h5 : (inD x y).map not = some d := hd
  clear hd
  obtain ⟨d, hd, rfl⟩ := Option.map_eq_some_iff.mp h5
  clear h5
  cases y with
  | list ys =>
    simp only [inD] at hd
    split at hd
    · rename_i c
      cases hd
      rw [Bool.and_eq_true] at c
      obtain ⟨a, us, rfl, ra, da⟩ := d2_lst hy
      obtain ⟨fx, fs, ee⟩ := And.intro c.1 (in_of hx.den c.1 (da.imp (fun _ _ z => z) fun _ _ z => z.elim) c.2)
      obtain ⟨h1, -, -⟩ := eqv_eqV hx.den hx.den c.1 c.1
      exact op_notIn_seq pins s σ H _ _ _ _ Q I rv rw ⟨a, us, rfl, .inl ra, h1, fs, by rw [if_pos rfl, ee]; exact q⟩
    · cases hd
  | tuple ys =>
    simp only [inD] at hd
    split at hd
    · rename_i c
      cases hd
      rw [Bool.and_eq_true] at c
      obtain ⟨a, us, rfl, ra, da⟩ := d2_tup hy
      obtain ⟨fx, fs, ee⟩ := And.intro c.1 (in_of hx.den c.1 (da.imp (fun _ _ z => z) fun _ _ z => z.elim) c.2)
      obtain ⟨h1, -, -⟩ := eqv_eqV hx.den hx.den c.1 c.1
      exact op_notIn_seq pins s σ H _ _ _ _ Q I rv rw ⟨a, us, rfl, .inr ra, h1, fs, by rw [if_pos rfl, ee]; exact q⟩
    · cases hd
  | str z =>
    cases x <;> simp only [inD, reduceCtorEq, Option.some.injEq] at hd
    subst hd
    obtain rfl := d2_str hx
    obtain rfl := d2_str hy
    exact op_notin_str pins s σ H _ _ _ _ Q I rv rw ⟨_, _, rfl, rfl, q⟩
  | dict kvs =>
    simp only [inD] at hd
    split at hd
    · rename_i c
      cases hd
      obtain ⟨k, hk⟩ := Option.isSome_iff_exists.mp c
      obtain rfl := keyD_of hk
      obtain rfl := keyV hx
      obtain ⟨a, us, rfl, ra, da⟩ := d2_dct hy
      rw [da.any] at q
      cases rw
      exact d_notIn hu I (.inl ⟨us, k, ra, rfl, rfl⟩) rv fun s' I' => ⟨.bl _, H, I', rfl, q⟩
    · cases hd
  | _ => simp only [inD, reduceCtorEq] at hd
theorem op_isD' : OpR X (compareOp .Is) (RC X.K (cmpD .is)) := by
  intro pins s σ H v w v' w' Q I rv rw h
  obtain ⟨a0, b0, a1, x, y, d, hx, hy, hd, q⟩ := h
  cases y with
  | none =>
    obtain rfl := d2_none hy
    have e : decide (v = .non) = d := by
      cases x <;> simp only [cmpD, reduceCtorEq, Option.some.injEq] at hd
      · subst hd; obtain rfl := d2_none hx; rfl
      · subst hd; obtain rfl := d2_bool hx; rfl
      · subst hd; obtain rfl := d2_int hx; rfl
      · subst hd; obtain rfl := d2_str hx; rfl
      · subst hd; obtain ⟨a, us, rfl, _⟩ := d2_lst hx; rfl
      · subst hd; obtain ⟨a, us, rfl, _⟩ := d2_tup hx; rfl
    exact op_isN pins s σ H _ _ _ _ Q I rv rw ⟨rfl, by rw [e]; exact q⟩
  | bool b =>
    cases x <;> simp only [cmpD, reduceCtorEq, Option.some.injEq] at hd
    subst hd
    obtain rfl := d2_bool hx
    obtain rfl := d2_bool hy
    exact op_isBl pins s σ H _ _ _ _ Q I rv rw ⟨_, _, rfl, rfl, q⟩
  | _ => cases x <;> simp only [cmpD, reduceCtorEq] at hd
theorem op_isnotD' : OpR X (compareOp .IsNot) (RC X.K (cmpD .isnot)) := by
  intro pins s σ H v w v' w' Q I rv rw h
  obtain ⟨a0, b0, a1, x, y, d, hx, hy, hd, q⟩ := h
  cases y with
  | none =>
    obtain rfl := d2_none hy
    have e : (!decide (v = .non)) = d := by
      cases x <;> simp only [cmpD, reduceCtorEq, Option.some.injEq] at hd
      · subst hd; obtain rfl := d2_none hx; rfl
      · subst hd; obtain rfl := d2_bool hx; rfl
      · subst hd; obtain rfl := d2_int hx; rfl
      · subst hd; obtain rfl := d2_str hx; rfl
      · subst hd; obtain ⟨a, us, rfl, _⟩ := d2_lst hx; rfl
      · subst hd; obtain ⟨a, us, rfl, _⟩ := d2_tup hx; rfl
    exact op_notN pins s σ H _ _ _ _ Q I rv rw ⟨rfl, by rw [e]; exact q⟩
  | _ => cases x <;> simp only [cmpD, reduceCtorEq] at hd
def cOp : COp → CmpOp
  | .eq => .Eq
  | .ne => .NotEq
  | .lt => .Lt
  | .le => .LtE
  | .gt => .Gt
  | .ge => .GtE
  | .isin => .In
  | .notin => .NotIn
  | .is => .Is
  | .isnot => .IsNot
theorem op_cmpD (hu : X.A.units + 190 < cLine) : ∀ op : COp, OpR X (compareOp (cOp op)) (RC X.K (cmpD op))
  | .eq => op_eqD' hu
  | .ne => op_neD' hu
  | .lt => op_ordD op_lt fun x y d h => by
    cases x <;> cases y <;> simp only [cmpD, reduceCtorEq, Option.some.injEq] at h
    exact ⟨_, _, rfl, rfl, h.symm⟩
  | .le => op_ordD op_le fun x y d h => by
    cases x <;> cases y <;> simp only [cmpD, reduceCtorEq, Option.some.injEq] at h
    exact ⟨_, _, rfl, rfl, h.symm⟩
  | .gt => op_ordD op_gt fun x y d h => by
    cases x <;> cases y <;> simp only [cmpD, reduceCtorEq, Option.some.injEq] at h
    exact ⟨_, _, rfl, rfl, h.symm⟩
  | .ge => op_ordD op_ge fun x y d h => by
    cases x <;> cases y <;> simp only [cmpD, reduceCtorEq, Option.some.injEq] at h
    exact ⟨_, _, rfl, rfl, h.symm⟩
  | .isin => op_inD' (by omega)
  | .notin => op_notinD' (by omega)
  | .is => op_isD'
  | .isnot => op_isnotD'
end
end Rf

set_option Elab.async false
set_option linter.all false
set_option maxRecDepth 100000
set_option maxHeartbeats 1000000
/-! Rf, part D: subscripts, slices, built-in functions and methods by values. -/
namespace Rf
open PySem PySem.Spec PyProof.Rows L2

section
variable {X : Cx}
/-- a subscript -/
def RIx (K : PySem.W.Frag) : R2 := fun v w H Q => ∃ a0 b0 a1 b1 x y d, Den2 K a0 a1 H v x ∧ Den2 K b0 b1 H w y ∧ idxD x y = some d ∧ ∀ z, Den K a1 H z d → Q z H
theorem atI_len {α β : Type} {xs : List α} {ys : List β} (h : xs.length = ys.length) {i : Int} {y : β} (e : atI ys i = some y) : ∃ j : Nat, ys[j]? = some y ∧ ∀ x : α, xs[j]? = some x → atI xs i = some x := by
  unfold atI at e ⊢
  rw [h]
  cases q : ixN ys.length i with
  | none => rw [q] at e; cases e
  | some j => rw [q] at e; exact ⟨j, e, fun x hx => hx⟩
theorem ixD (hu : X.A.units + 1 < cLine) : IxR X (RIx X.K) := by
  intro value slice pins s σ H v w v' w' Q I rv rw h hs
  obtain ⟨a0, b0, a1, b1, x, y, d, hx, hy, hd, q⟩ := h
  cases x with
  | list xs =>
    cases y <;> simp only [idxD, reduceCtorEq] at hd
    obtain rfl := d2_int hy
    obtain ⟨a, us, rfl, ra, da⟩ := d2_lst hx
    obtain ⟨j, h1, h2⟩ := atI_len da.length hd
    obtain ⟨z, h3, h4⟩ := da.getD h1
    exact ix_list value slice pins s σ H _ _ _ _ Q I rv rw ⟨a, us, _, z, rfl, rfl, ra, h2 z h3, q z h4⟩ hs
  | tuple xs =>
    cases y <;> simp only [idxD, reduceCtorEq] at hd
    obtain rfl := d2_int hy
    obtain ⟨a, us, rfl, ra, da⟩ := d2_tup hx
    obtain ⟨j, h1, h2⟩ := atI_len da.length hd
    obtain ⟨z, h3, h4⟩ := da.getD h1
    exact ix_tup value slice pins s σ H _ _ _ _ Q I rv rw ⟨a, us, _, z, rfl, rfl, ra, h2 z h3, q z h4⟩ hs
  | str z =>
    cases y <;> simp only [idxD, reduceCtorEq] at hd
    split at hd
    · rename_i hl
      obtain rfl := d2_int hy
      obtain rfl := d2_str hx
      obtain ⟨c, hc, rfl⟩ := Option.map_eq_some_iff.mp hd
      exact ix_str value slice pins s σ H _ _ _ _ Q I rv rw ⟨z, _, c, rfl, rfl, line_le hl, hc, q _ (.str _)⟩ hs
    · cases hd
  | dict kvs =>
    simp only [idxD] at hd
    split at hd
    · rename_i c
      obtain ⟨k, hk⟩ := Option.isSome_iff_exists.mp c
      obtain rfl := keyD_of hk
      obtain rfl := keyV hy
      obtain ⟨a, us, rfl, ra, da⟩ := d2_dct hx
      rcases look_of k da with ⟨h1, h2⟩ | ⟨x, z, h1, h2, h3⟩
      · rw [h1] at hd; cases hd
      · rw [h1] at hd; cases hd
        cases rv
        have g : DGet H a (kV k) (some z) := .inl ⟨us, k, ra, rfl, h2.symm⟩
        exact tail_any (dict_typeIs I g) PySem.F.slot_dict_getitem.lookup (d_getItem hu I g rw fun w' s3 I3 rw' => ⟨z, H, I3, rw', q z h3⟩) hs
    · cases hd
  | _ => simp only [idxD, reduceCtorEq] at hd

/-! ### slices -/
def RSl (K : PySem.W.Frag) : V → Option Int → Option Int → Hp → VK → Prop := fun v lo hi H Q => ∃ a0 a1 x d, Den2 K a0 a1 H v x ∧ sliceD x lo hi = some d ∧ ∀ z H', Same H H' → Fr2 K a1 H z H' d → Q z H'
theorem Dens.cut {K : PySem.W.Frag} {av : Addr → Prop} {H : Hp} {us : List V} {xs : List D} (h : Dens K av H us xs) (lo hi : Option Int) : Dens K av H (cutV us lo hi) (cutD xs lo hi) := by
  unfold cutV cutD
  rw [h.length]
  exact (h.drop _).take _
theorem slD : SlR X (RSl X.K) := by
  intro pins s σ H v v' vl vu lo hi sl Q I rv hs pl pu h
  obtain ⟨a0, a1, x, d, hx, hd, q⟩ := h
  cases x with
  | list xs =>
    simp only [sliceD, Option.some.injEq] at hd
    subst hd
    obtain ⟨a, us, rfl, ra, da⟩ := d2_lst hx
    exact sl_list pins s σ H _ _ vl vu lo hi sl Q I rv hs pl pu ⟨a, us, rfl, ra, fun p hp => q _ _ (same_upd hp) (new_lst hp (da.cut lo hi))⟩
  | tuple xs =>
    simp only [sliceD, Option.some.injEq] at hd
    subst hd
    obtain ⟨a, us, rfl, ra, da⟩ := d2_tup hx
    refine sl_tupA pins s σ H _ _ vl vu lo hi sl Q I rv hs pl pu ⟨a, us, rfl, ra, fun c => ?_, fun _ p hp => q _ _ (same_upd hp) (new_tup hp (da.cut lo hi))⟩
    refine q _ _ (Same.refl H) (Den.tuple ra ?_)
    have e : cutD xs lo hi = xs := by
      unfold cutD
      rw [← da.length, c.1, c.2, List.drop_zero, Nat.sub_zero, da.length, List.take_length]
    rw [e]
    exact da
  | str z =>
    simp only [sliceD] at hd
    split at hd
    · rename_i hl
      cases hd
      obtain rfl := d2_str hx
      exact sl_str pins s σ H _ _ vl vu lo hi sl Q I rv hs pl pu ⟨z, rfl, line_le hl, q _ _ (Same.refl H) (by
        have e : cutS z lo hi = S (cutD z.cps.toList lo hi) := by
          unfold cutS cutD
          rw [show z.cps.toList.length = z.length by simp [Str.length]]
        rw [e]
        exact fr_str)⟩
    · cases hd
  | _ => simp only [sliceD, reduceCtorEq] at hd

/-! ### built-in functions -/
def DenA (K : PySem.W.Frag) (a1 : Addr → Prop) (H : Hp) : List V → List D → Prop
  | [], [] => True
  | v :: vs, d :: ds => (∃ a0, Den2 K a0 a1 H v d) ∧ DenA K a1 H vs ds
  | _, _ => False
def RCl (K : PySem.W.Frag) (f : List D → Option D) : List V → Hp → VK → Prop := fun vs H Q => ∃ a1 ds d, DenA K a1 H vs ds ∧ f ds = some d ∧ ∀ z H', Same H H' → Fr2 K a1 H z H' d → Q z H'
theorem denA1 {K : PySem.W.Frag} {a1 : Addr → Prop} {H : Hp} {vs : List V} {d : D} (h : DenA K a1 H vs [d]) : ∃ v a0, vs = [v] ∧ Den2 K a0 a1 H v d := by
  match vs, h with
  | [v], ⟨⟨a0, h⟩, _⟩ => exact ⟨v, a0, rfl, h⟩
theorem denA2 {K : PySem.W.Frag} {a1 : Addr → Prop} {H : Hp} {vs : List V} {d e : D} (h : DenA K a1 H vs [d, e]) : ∃ v w a0 b0, vs = [v, w] ∧ Den2 K a0 a1 H v d ∧ Den2 K b0 a1 H w e := by
  match vs, h with
  | [v, w], ⟨⟨a0, h⟩, ⟨b0, h2⟩, _⟩ => exact ⟨v, w, a0, b0, rfl, h, h2⟩
theorem allInts_of {K : PySem.W.Frag} {av : Addr → Prop} {H : Hp} : ∀ {us : List V} {xs : List D} {l : List Int}, Dens K av H us xs → allInts xs = some l → us = l.map V.int ∧ xs = l.map .int
  | _, _, l, .nil, h => by cases h; exact ⟨rfl, rfl⟩
  | _, _, l, .cons a b, h => by
    cases a <;> simp only [allInts, reduceCtorEq] at h
    obtain ⟨r, h1, rfl⟩ := Option.map_eq_some_iff.mp h
    obtain ⟨e1, e2⟩ := allInts_of b h1
    exact ⟨by rw [e1]; rfl, by rw [e2]; rfl⟩
theorem allBools_of {K : PySem.W.Frag} {av : Addr → Prop} {H : Hp} : ∀ {us : List V} {xs : List D} {l : List Bool}, Dens K av H us xs → allBools xs = some l → us = l.map V.bl
  | _, _, l, .nil, h => by cases h; exact rfl
  | _, _, l, .cons a b, h => by
    cases a <;> simp only [allBools, reduceCtorEq] at h
    obtain ⟨r, h1, rfl⟩ := Option.map_eq_some_iff.mp h
    rw [allBools_of b h1]; rfl
theorem allStrs_of {K : PySem.W.Frag} {av : Addr → Prop} {H : Hp} : ∀ {us : List V} {xs : List D} {l : List Str}, Dens K av H us xs → allStrs xs = some l → us = l.map V.str
  | _, _, l, .nil, h => by cases h; exact rfl
  | _, _, l, .cons a b, h => by
    cases a <;> simp only [allStrs, reduceCtorEq] at h
    obtain ⟨r, h1, rfl⟩ := Option.map_eq_some_iff.mp h
    rw [allStrs_of b h1]; rfl
theorem dens_ints {K : PySem.W.Frag} {av : Addr → Prop} {H : Hp} : ∀ l : List Int, Dens K av H (l.map V.int) (l.map .int)
  | [] => .nil
  | i :: l => .cons (.int i) (dens_ints l)
theorem maxI_mem : ∀ {l : List Int}, l ≠ [] → maxI l ∈ l ∧ ∀ y ∈ l, y ≤ maxI l
  | [], h => absurd rfl h
  | [x], _ => ⟨by simp [maxI], by simp [maxI]⟩
  | x :: y :: r, _ => by
    obtain ⟨h1, h2⟩ := maxI_mem (l := y :: r) (by simp)
    have e : maxI (x :: y :: r) = max x (maxI (y :: r)) := rfl
    rw [e]
    refine ⟨?_, fun z hz => ?_⟩
    · rcases Int.le_total x (maxI (y :: r)) with h | h
      · rw [Int.max_eq_right h]; exact List.mem_cons_of_mem _ h1
      · rw [Int.max_eq_left h]; exact List.mem_cons_self
    · rcases List.mem_cons.mp hz with rfl | hz
      · exact Int.le_max_left _ _
      · exact Int.le_trans (h2 z hz) (Int.le_max_right _ _)
theorem minI_mem : ∀ {l : List Int}, l ≠ [] → minI l ∈ l ∧ ∀ y ∈ l, minI l ≤ y
  | [], h => absurd rfl h
  | [x], _ => ⟨by simp [minI], by simp [minI]⟩
  | x :: y :: r, _ => by
    obtain ⟨h1, h2⟩ := minI_mem (l := y :: r) (by simp)
    have e : minI (x :: y :: r) = min x (minI (y :: r)) := rfl
    rw [e]
    refine ⟨?_, fun z hz => ?_⟩
    · rcases Int.le_total x (minI (y :: r)) with h | h
      · rw [Int.min_eq_left h]; exact List.mem_cons_self
      · rw [Int.min_eq_right h]; exact List.mem_cons_of_mem _ h1
    · rcases List.mem_cons.mp hz with rfl | hz
      · exact Int.min_le_left _ _
      · exact Int.le_trans (Int.min_le_right _ _) (h2 z hz)
theorem insI_perm (x : Int) : ∀ l : List Int, (insI x l).Perm (x :: l)
  | [] => .refl _
  | y :: r => by
    unfold insI
    split
    · exact .refl _
    · exact ((insI_perm x r).cons y).trans (List.Perm.swap x y r)
theorem sortI_perm : ∀ l : List Int, (sortI l).Perm l
  | [] => .refl _
  | x :: r => (insI_perm x (sortI r)).trans ((sortI_perm r).cons x)
theorem insI_sorted (x : Int) : ∀ {l : List Int}, l.Pairwise (· ≤ ·) → (insI x l).Pairwise (· ≤ ·)
  | [], _ => by simp [insI]
  | y :: r, h => by
    rw [List.pairwise_cons] at h
    unfold insI
    split
    · rename_i c
      rw [List.pairwise_cons]
      refine ⟨fun z hz => ?_, List.pairwise_cons.mpr h⟩
      rcases List.mem_cons.mp hz with rfl | hz
      · exact c
      · exact Int.le_trans c (h.1 z hz)
    · rename_i c
      rw [List.pairwise_cons]
      refine ⟨fun z hz => ?_, insI_sorted x h.2⟩
      rcases List.mem_cons.mp ((insI_perm x r).mem_iff.mp hz) with rfl | hz
      · omega
      · exact h.1 z hz
theorem sortI_sorted : ∀ l : List Int, (sortI l).Pairwise (· ≤ ·)
  | [] => .nil
  | x :: r => insI_sorted x (sortI_sorted r)
theorem sorted_uniq : ∀ {a b : List Int}, a.Perm b → a.Pairwise (· ≤ ·) → b.Pairwise (· ≤ ·) → a = b
  | [], b, p, _, _ => (List.nil_perm.mp p).symm
  | x :: a, [], p, _, _ => absurd p.symm (by simp)
  | x :: a, y :: b, p, h1, h2 => by
    rw [List.pairwise_cons] at h1 h2
    have hx : x ∈ y :: b := p.mem_iff.mp List.mem_cons_self
    have hy : y ∈ x :: a := p.mem_iff.mpr List.mem_cons_self
    have e : x = y := by
      rcases List.mem_cons.mp hx with h | h
      · exact h
      · rcases List.mem_cons.mp hy with h' | h'
        · exact h'.symm
        · have := h1.1 y h'
          have := h2.1 x h
          omega
    subst e
    rw [sorted_uniq (List.perm_cons x |>.mp p) h1.2 h2.2]
theorem keys_of {K : PySem.W.Frag} {av : Addr → Prop} {H : Hp} : ∀ {ks : List (Key × V)} {kvs : List (D × D)}, DenKs K av H ks kvs → Dens K av H (ks.map fun kv => kV kv.1) (kvs.map (·.1))
  | _, _, .nil => .nil
  | _, _, .cons (k := k) a b => by
    refine .cons ?_ (keys_of b)
    cases k
    · exact .int _
    · exact .str _
theorem keys_ints {K : PySem.W.Frag} {av : Addr → Prop} {H : Hp} : ∀ {ks : List (Key × V)} {kvs : List (D × D)} {l : List Int}, DenKs K av H ks kvs → allInts (kvs.map (·.1)) = some l → ks.map (·.1) = l.map Sum.inl
  | _, _, l, .nil, h => by cases h; rfl
  | _, _, l, .cons (k := k) a b, h => by
    cases k with
    | inl i =>
      rw [List.map_cons] at h
      simp only [keyOf, allInts] at h
      obtain ⟨r, h1, rfl⟩ := Option.map_eq_some_iff.mp h
      rw [List.map_cons, keys_ints b h1]; rfl
    | inr x => rw [List.map_cons] at h; simp only [keyOf, allInts, reduceCtorEq] at h

def bltV : Blt → Value
  | .len => .builtin "len"
  | .int => .type "int"
  | .abs => .builtin "abs"
  | .sum => .builtin "sum"
  | .max => .builtin "max"
  | .min => .builtin "min"
  | .all => .builtin "all"
  | .any => .builtin "any"
  | .tuple => .type "tuple"
  | .list => .type "list"
  | .sorted => .builtin "sorted"
  | .str => .type "str"
  | .dict => .type "dict"
  | .isi _ => .builtin "isinstance"
theorem cl_len (hc : X.calm = true) : CallR X (.builtin "len") (RCl X.K (bltD .len)) := by
  intro pins s σ H vs us Q I r h
  obtain ⟨a1, ds, d, hd, hf, q⟩ := h
  match ds, hf with
  | [.list xs], hf =>
    cases hf
    obtain ⟨v, a0, rfl, hv⟩ := denA1 hd
    obtain ⟨a, us', rfl, ra, da⟩ := d2_lst hv
    refine call_len pins s σ H _ _ Q I r ⟨_, us'.length, rfl, .inl ⟨us', ra, rfl⟩, ?_⟩
    rw [da.length]; exact q _ _ (Same.refl H) fr_int
  | [.tuple xs], hf =>
    cases hf
    obtain ⟨v, a0, rfl, hv⟩ := denA1 hd
    obtain ⟨a, us', rfl, ra, da⟩ := d2_tup hv
    refine call_len pins s σ H _ _ Q I r ⟨_, us'.length, rfl, .inr ⟨us', ra, rfl⟩, ?_⟩
    rw [da.length]; exact q _ _ (Same.refl H) fr_int
  | [.str z], hf =>
    simp only [bltD] at hf
    split at hf
    · rename_i hl
      cases hf
      obtain ⟨v, a0, rfl, hv⟩ := denA1 hd
      obtain rfl := d2_str hv
      exact call_len pins s σ H _ _ Q I r ⟨_, z.length, rfl, ⟨line_le hl, rfl⟩, q _ _ (Same.refl H) fr_int⟩
    · cases hf
  | [.dict kvs], hf =>
    cases hf
    obtain ⟨v, a0, rfl, hv⟩ := denA1 hd
    obtain ⟨a, us', rfl, ra, da⟩ := d2_dct hv
    rw [Vals.ref1 r]
    refine d_len I ra fun t s' I' => ⟨.int _, H, I', ⟨_, rfl⟩, ?_⟩
    rw [da.length]; exact q _ _ (Same.refl H) fr_int
theorem cl_int : CallR X (.type "int") (RCl X.K (bltD .int)) := by
  intro pins s σ H vs us Q I r h
  obtain ⟨a1, ds, d, hd, hf, q⟩ := h
  match ds, hf with
  | [.int i], hf =>
    cases hf
    obtain ⟨v, a0, rfl, hv⟩ := denA1 hd
    obtain rfl := d2_int hv
    exact call_int1 pins s σ H _ _ Q I r (.inl ⟨i, rfl, q _ _ (Same.refl H) fr_int⟩)
  | [.bool b], hf =>
    cases hf
    obtain ⟨v, a0, rfl, hv⟩ := denA1 hd
    obtain rfl := d2_bool hv
    exact call_int1 pins s σ H _ _ Q I r (.inr ⟨b, rfl, q _ _ (Same.refl H) fr_int⟩)
theorem cl_abs : CallR X (.builtin "abs") (RCl X.K (bltD .abs)) := by
  intro pins s σ H vs us Q I r h
  obtain ⟨a1, ds, d, hd, hf, q⟩ := h
  match ds, hf with
  | [.int i], hf =>
    cases hf
    obtain ⟨v, a0, rfl, hv⟩ := denA1 hd
    obtain rfl := d2_int hv
    exact call_abs pins s σ H _ _ Q I r ⟨i, rfl, q _ _ (Same.refl H) fr_int⟩
theorem cl_sum (hc : X.calm = true) : CallR X (.builtin "sum") (RCl X.K (bltD .sum)) := by
  intro pins s σ H vs us Q I r h
  obtain ⟨a1, ds, d, hd, hf, q⟩ := h
  match ds, hf with
  | [.list xs], hf =>
    obtain ⟨l, h1, rfl⟩ := Option.map_eq_some_iff.mp hf
    obtain ⟨v, a0, rfl, hv⟩ := denA1 hd
    obtain ⟨a, us', rfl, ra, da⟩ := d2_lst hv
    obtain ⟨rfl, _⟩ := allInts_of da h1
    exact cr_sum hc pins s σ H _ _ Q I r ⟨a, l, rfl, ra, q _ _ (Same.refl H) fr_int⟩
theorem ints_ne {xs : List D} {l : List Int} (h : xs = l.map PyData.int) (n : ¬ xs = []) : l ≠ [] := fun z => n (by rw [h, z]; rfl)
theorem cl_max (hc : X.calm = true) : CallR X (.builtin "max") (RCl X.K (bltD .max)) := by
  intro pins s σ H vs us Q I r h
  obtain ⟨a1, ds, d, hd, hf, q⟩ := h
  match ds, hf with
  | [.int i, .int j], hf =>
    cases hf
    obtain ⟨v, w, a0, b0, rfl, hv, hw⟩ := denA2 hd
    obtain rfl := d2_int hv
    obtain rfl := d2_int hw
    exact call_max2 hc pins s σ H _ _ Q I r ⟨i, j, rfl, q _ _ (Same.refl H) fr_int⟩
  | [.list xs], hf =>
    simp only [bltD] at hf
    split at hf
    · cases hf
    · rename_i hne
      obtain ⟨l, h1, rfl⟩ := Option.map_eq_some_iff.mp hf
      obtain ⟨v, a0, rfl, hv⟩ := denA1 hd
      obtain ⟨a, us', rfl, ra, da⟩ := d2_lst hv
      obtain ⟨rfl, e2⟩ := allInts_of da h1
      have hl := ints_ne e2 hne
      obtain ⟨m1, m2⟩ := maxI_mem hl
      refine cr_max hc pins s σ H _ _ Q I r ⟨a, l, rfl, ra, List.length_pos_iff.mpr hl, fun m k1 k2 => ?_⟩
      have e : m = maxI l := Int.le_antisymm (m2 m k1) (k2 _ m1)
      rw [e]; exact q _ _ (Same.refl H) fr_int
theorem cl_min (hc : X.calm = true) : CallR X (.builtin "min") (RCl X.K (bltD .min)) := by
  intro pins s σ H vs us Q I r h
  obtain ⟨a1, ds, d, hd, hf, q⟩ := h
  match ds, hf with
  | [.int i, .int j], hf =>
    cases hf
    obtain ⟨v, w, a0, b0, rfl, hv, hw⟩ := denA2 hd
    obtain rfl := d2_int hv
    obtain rfl := d2_int hw
    exact call_min2 hc pins s σ H _ _ Q I r ⟨i, j, rfl, q _ _ (Same.refl H) fr_int⟩
  | [.list xs], hf =>
    simp only [bltD] at hf
    split at hf
    · cases hf
    · rename_i hne
      obtain ⟨l, h1, rfl⟩ := Option.map_eq_some_iff.mp hf
      obtain ⟨v, a0, rfl, hv⟩ := denA1 hd
      obtain ⟨a, us', rfl, ra, da⟩ := d2_lst hv
      obtain ⟨rfl, e2⟩ := allInts_of da h1
      have hl := ints_ne e2 hne
      obtain ⟨m1, m2⟩ := minI_mem hl
      refine cr_min hc pins s σ H _ _ Q I r ⟨a, l, rfl, ra, List.length_pos_iff.mpr hl, fun m k1 k2 => ?_⟩
      have e : m = minI l := Int.le_antisymm (k2 _ m1) (m2 m k1)
      rw [e]; exact q _ _ (Same.refl H) fr_int
theorem cl_all (hc : X.calm = true) : CallR X (.builtin "all") (RCl X.K (bltD .all)) := by
  intro pins s σ H vs us Q I r h
  obtain ⟨a1, ds, d, hd, hf, q⟩ := h
  match ds, hf with
  | [.list xs], hf =>
    obtain ⟨l, h1, rfl⟩ := Option.map_eq_some_iff.mp hf
    obtain ⟨v, a0, rfl, hv⟩ := denA1 hd
    obtain ⟨a, us', rfl, ra, da⟩ := d2_lst hv
    obtain rfl := allBools_of da h1
    exact cr_all hc pins s σ H _ _ Q I r ⟨a, l, rfl, ra, q _ _ (Same.refl H) fr_bool⟩
theorem cl_any (hc : X.calm = true) : CallR X (.builtin "any") (RCl X.K (bltD .any)) := by
  intro pins s σ H vs us Q I r h
  obtain ⟨a1, ds, d, hd, hf, q⟩ := h
  match ds, hf with
  | [.list xs], hf =>
    obtain ⟨l, h1, rfl⟩ := Option.map_eq_some_iff.mp hf
    obtain ⟨v, a0, rfl, hv⟩ := denA1 hd
    obtain ⟨a, us', rfl, ra, da⟩ := d2_lst hv
    obtain rfl := allBools_of da h1
    exact cr_any hc pins s σ H _ _ Q I r ⟨a, l, rfl, ra, q _ _ (Same.refl H) fr_bool⟩
theorem cl_tuple : CallR X (.type "tuple") (RCl X.K (bltD .tuple)) := by
  intro pins s σ H vs us Q I r h
  obtain ⟨a1, ds, d, hd, hf, q⟩ := h
  match ds, hf with
  | [.list xs], hf =>
    cases hf
    obtain ⟨v, a0, rfl, hv⟩ := denA1 hd
    obtain ⟨a, us', rfl, ra, da⟩ := d2_lst hv
    exact call_tuple_of pins s σ H _ _ Q I r ⟨a, us', rfl, .inl ⟨ra, fun p hp => q _ _ (same_upd hp) (new_tup hp da)⟩⟩
  | [.tuple xs], hf =>
    cases hf
    obtain ⟨v, a0, rfl, hv⟩ := denA1 hd
    obtain ⟨a, us', rfl, ra, da⟩ := d2_tup hv
    exact call_tuple_of pins s σ H _ _ Q I r ⟨a, us', rfl, .inr ⟨ra, q _ _ (Same.refl H) (Den.tuple ra da)⟩⟩
theorem cl_list (hc : X.calm = true) : CallR X (.type "list") (RCl X.K (bltD .list)) := by
  intro pins s σ H vs us Q I r h
  obtain ⟨a1, ds, d, hd, hf, q⟩ := h
  match ds, hf with
  | [.list xs], hf =>
    cases hf
    obtain ⟨v, a0, rfl, hv⟩ := denA1 hd
    obtain ⟨a, us', rfl, ra, da⟩ := d2_lst hv
    exact call_list_of pins s σ H _ _ Q I r ⟨a, us', rfl, .inl ra, fun p hp => q _ _ (same_upd hp) (new_lst hp da)⟩
  | [.tuple xs], hf =>
    cases hf
    obtain ⟨v, a0, rfl, hv⟩ := denA1 hd
    obtain ⟨a, us', rfl, ra, da⟩ := d2_tup hv
    exact call_list_of pins s σ H _ _ Q I r ⟨a, us', rfl, .inr ra, fun p hp => q _ _ (same_upd hp) (new_lst hp da)⟩
theorem cl_sorted (hc : X.calm = true) : CallR X (.builtin "sorted") (RCl X.K (bltD .sorted)) := by
  intro pins s σ H vs us Q I r h
  obtain ⟨a1, ds, d, hd, hf, q⟩ := h
  match ds, hf with
  | [.list xs], hf =>
    obtain ⟨l, h1, rfl⟩ := Option.map_eq_some_iff.mp hf
    obtain ⟨v, a0, rfl, hv⟩ := denA1 hd
    obtain ⟨a, us', rfl, ra, da⟩ := d2_lst hv
    obtain ⟨rfl, _⟩ := allInts_of da h1
    refine cr_sortedI pins s σ H _ _ Q I r ⟨a, l, rfl, ra, fun ns' p k1 k2 hp => ?_⟩
    rw [sorted_uniq (k1.trans (sortI_perm l).symm) k2 (sortI_sorted l)]
    exact q _ _ (same_upd hp) (new_lst hp (dens_ints _))
  | [.dict kvs], hf =>
    simp only [bltD] at hf
    split at hf
    · rename_i h64
      obtain ⟨l, h1, rfl⟩ := Option.map_eq_some_iff.mp hf
      obtain ⟨v, a0, rfl, hv⟩ := denA1 hd
      obtain ⟨a, us', rfl, ra, da⟩ := d2_dct hv
      have e := keys_ints da h1
      refine call_sortedDI hc pins s σ H _ _ Q I r ⟨a, us', l, rfl, ra, e, ?_, fun ns' p k1 k2 hp => ?_⟩
      · have := congrArg List.length e
        rw [List.length_map, List.length_map, da.length] at this
        omega
      · rw [sorted_uniq (k1.trans (sortI_perm l).symm) k2 (sortI_sorted l)]
        exact q _ _ (same_upd hp) (new_lst hp (dens_ints _))
    · cases hf
theorem cl_str : CallR X (.type "str") (RCl X.K (bltD .str)) := by
  intro pins s σ H vs us Q I r h
  obtain ⟨a1, ds, d, hd, hf, q⟩ := h
  match ds, hf with
  | [.int i], hf =>
    simp only [bltD] at hf
    split at hf
    · rename_i hl
      cases hf
      obtain ⟨v, a0, rfl, hv⟩ := denA1 hd
      obtain rfl := d2_int hv
      exact call_str_int pins s σ H _ _ Q I r ⟨i, rfl, hl, q _ _ (Same.refl H) fr_str⟩
    · cases hf
theorem cl_dict : CallR X (.type "dict") (RCl X.K (bltD .dict)) := by
  intro pins s σ H vs us Q I r h
  obtain ⟨a1, ds, d, hd, hf, q⟩ := h
  match ds, hf with
  | [.dict kvs], hf =>
    cases hf
    obtain ⟨v, a0, rfl, hv⟩ := denA1 hd
    obtain ⟨a, us', rfl, ra, da⟩ := d2_dct hv
    rw [Vals.ref1 r]
    exact d_copyOf I ra fun p s' hp I' => ⟨.ref p, _, I', rfl, q _ _ (same_upd hp) (new_dct hp da)⟩

/-! isinstance -/
def tyN : Nat → String
  | 0 => "int"
  | 1 => "bool"
  | 2 => "str"
  | 3 => "tuple"
  | _ => "list"
def RIsi (K : PySem.W.Frag) (T : Nat) : List V → Hp → VK → Prop := fun vs H Q => ∃ v a0 a1 x b, vs = [v, .ty (tyN T)] ∧ Den2 K a0 a1 H v x ∧ isiD T x = some b ∧ Q (.bl b) H
theorem kitInt (K : PySem.W.Frag) : ∀ T : Nat, T < 5 → PySem.W.kitOne K (.type "int") (.type (tyN T)) = some (T == 0)
  | 0, _ => kit_ty (by decide +kernel)
  | 1, _ => kit_ty (by decide +kernel)
  | 2, _ => kit_ty (by decide +kernel)
  | 3, _ => kit_ty (by decide +kernel)
  | 4, _ => kit_ty (by decide +kernel)
theorem kitBool (K : PySem.W.Frag) : ∀ T : Nat, T < 5 → PySem.W.kitOne K (.type "bool") (.type (tyN T)) = some (T == 0 || T == 1)
  | 0, _ => kit_ty (by decide +kernel)
  | 1, _ => kit_ty (by decide +kernel)
  | 2, _ => kit_ty (by decide +kernel)
  | 3, _ => kit_ty (by decide +kernel)
  | 4, _ => kit_ty (by decide +kernel)
theorem kitStr (K : PySem.W.Frag) : ∀ T : Nat, T < 5 → PySem.W.kitOne K (.type "str") (.type (tyN T)) = some (T == 2)
  | 0, _ => kit_ty (by decide +kernel)
  | 1, _ => kit_ty (by decide +kernel)
  | 2, _ => kit_ty (by decide +kernel)
  | 3, _ => kit_ty (by decide +kernel)
  | 4, _ => kit_ty (by decide +kernel)
theorem kitTup (K : PySem.W.Frag) : ∀ T : Nat, T < 5 → PySem.W.kitOne K (.type "tuple") (.type (tyN T)) = some (T == 3)
  | 0, _ => kit_ty (by decide +kernel)
  | 1, _ => kit_ty (by decide +kernel)
  | 2, _ => kit_ty (by decide +kernel)
  | 3, _ => kit_ty (by decide +kernel)
  | 4, _ => kit_ty (by decide +kernel)
theorem kitLst (K : PySem.W.Frag) : ∀ T : Nat, T < 5 → PySem.W.kitOne K (.type "list") (.type (tyN T)) = some (T == 4)
  | 0, _ => kit_ty (by decide +kernel)
  | 1, _ => kit_ty (by decide +kernel)
  | 2, _ => kit_ty (by decide +kernel)
  | 3, _ => kit_ty (by decide +kernel)
  | 4, _ => kit_ty (by decide +kernel)
theorem kitNon (K : PySem.W.Frag) : ∀ T : Nat, T < 5 → PySem.W.kitOne K (.type "NoneType") (.type (tyN T)) = some false
  | 0, _ => kit_ty (by decide +kernel)
  | 1, _ => kit_ty (by decide +kernel)
  | 2, _ => kit_ty (by decide +kernel)
  | 3, _ => kit_ty (by decide +kernel)
  | 4, _ => kit_ty (by decide +kernel)
theorem cl_isi {T : Nat} (hT : T < 5) : CallR X (.builtin "isinstance") (RIsi X.K T) := by
  intro pins s σ H vs us Q I r h
  obtain ⟨v, a0, a1, x, b, rfl, hx, hb, q⟩ := h
  have go : ∀ {t : Value}, TyX X.K H v t → PySem.W.kitOne X.K t (.type (tyN T)) = some b → wpAny (model X.prog X.w) X.A (call (.builtin "isinstance") us) (EP X pins σ Q) X.xe s := fun {t} ty k =>
    call_isi pins s σ H _ _ Q I r ⟨v, .ty (tyN T), t, .type (tyN T), b, rfl, .ty _, ty, k, q⟩
  cases x <;> simp only [isiD, Option.some.injEq, reduceCtorEq] at hb
  · subst hb; obtain rfl := d2_none hx; exact go (.base .non) (kitNon _ T hT)
  · subst hb; obtain rfl := d2_bool hx; exact go (.base (.bl _)) (kitBool _ T hT)
  · subst hb; obtain rfl := d2_int hx; exact go (.base (.int _)) (kitInt _ T hT)
  · subst hb; obtain rfl := d2_str hx; exact go (.base (.str _)) (kitStr _ T hT)
  · subst hb
    obtain ⟨a, xs, rfl, h, _⟩ := d2_lst hx
    rcases h with (h | ⟨o, h⟩) | ⟨o, its, n, h, c, _⟩
    · exact go (.base (.lst h)) (kitLst _ T hT)
    · exact go (.base (.frz h)) (kitLst _ T hT)
    · exact go (.kList h c) (kitLst _ T hT)
  · subst hb
    obtain ⟨a, xs, rfl, h, _⟩ := d2_tup hx
    rcases h with (h | ⟨o, h⟩) | ⟨o, its, n, h, c, _⟩
    · exact go (.base (.tup h)) (kitTup _ T hT)
    · exact go (.fTuple h) (kitTup _ T hT)
    · exact go (.kTuple h c) (kitTup _ T hT)

/-! ### methods -/
def RMt (K : PySem.W.Frag) (m : Mth) : V → List V → Hp → VK → Prop := fun v vs H Q => ∃ z, v = .str z ∧ ∃ d, vs = [] ∧ strM m z = some d ∧ ∀ w, Den K (fun _ => False) H w d → Q w H
theorem Den.flat2 {K : PySem.W.Frag} {av av' : Addr → Prop} {H H' : Hp} {v : V} {d : D} (h : Den K av H v d) (f : flatD d = true) : Den K av' H' v d := by
  cases h with
  | none => exact .none
  | bool b => exact .bool b
  | int b => exact .int b
  | str b => exact .str b
  | _ => cases f
theorem strM_flat {m : Mth} {z : Str} {d : D} (h : strM m z = some d) : flatD d = true := by
  cases m <;> simp only [strM, reduceCtorEq, Option.some.injEq] at h
  · subst h; rfl
  · subst h; rfl
  · split at h
    · cases h; rfl
    · cases h
  · split at h
    · cases h; rfl
    · cases h
  · split at h
    · cases h; rfl
    · cases h
def mthN : Mth → Str
  | .get => "get"
  | .bits => "bit_length"
  | .isalpha => "isalpha"
  | .islower => "islower"
  | .lower => "lower"
  | .upper => "upper"
  | .swapcase => "swapcase"
  | .join => "join"
theorem mt_isalphaD : MtR X "str.isalpha" (RMt X.K .isalpha) := by
  intro pins s σ H x xs v us Q I rx rs h
  obtain ⟨z, rfl, d, rfl, hd, q⟩ := h
  cases hd
  exact mt_isalpha pins s σ H _ _ _ _ Q I rx rs ⟨z, rfl, rfl, trivial, q _ (.bool _)⟩
theorem mt_islowerD : MtR X "str.islower" (RMt X.K .islower) := by
  intro pins s σ H x xs v us Q I rx rs h
  obtain ⟨z, rfl, d, rfl, hd, q⟩ := h
  cases hd
  obtain ⟨t, rfl⟩ := rx
  cases rs
  exact PySem.SC.islower ⟨.bl _, H, I, rfl, q _ (.bool _)⟩
theorem mt_lowerD : MtR X "str.lower" (RMt X.K .lower) := by
  intro pins s σ H x xs v us Q I rx rs h
  obtain ⟨z, rfl, d, rfl, hd, q⟩ := h
  simp only [strM] at hd
  split at hd
  · rename_i hl
    cases hd
    exact mt_lower pins s σ H _ _ _ _ Q I rx rs ⟨z, rfl, rfl, Nat.le_trans hl (by decide), q _ (.str _)⟩
  · cases hd
theorem mt_upperD : MtR X "str.upper" (RMt X.K .upper) := by
  intro pins s σ H x xs v us Q I rx rs h
  obtain ⟨z, rfl, d, rfl, hd, q⟩ := h
  simp only [strM] at hd
  split at hd
  · rename_i hl
    cases hd
    exact mt_upper pins s σ H _ _ _ _ Q I rx rs ⟨z, rfl, rfl, Nat.le_trans hl (by decide), q _ (.str _)⟩
  · cases hd
theorem mt_swapcaseD : MtR X "str.swapcase" (RMt X.K .swapcase) := by
  intro pins s σ H x xs v us Q I rx rs h
  obtain ⟨z, rfl, d, rfl, hd, q⟩ := h
  simp only [strM] at hd
  split at hd
  · rename_i hl
    cases hd
    obtain ⟨t, rfl⟩ := rx
    cases rs
    exact PyProof.Rows.SCL.swapcase (Nat.le_trans hl (by decide)) fun _ => ⟨.str _, H, I.tok _, ⟨_, rfl⟩, q _ (.str _)⟩
  · cases hd
/-- o.m() of a text -/
theorem pe_str0 {o : Expr} {to : L2.TE} {apos pos : Pos} (m : Mth) (hm : m ≠ .get ∧ m ≠ .bits ∧ m ≠ .join) (ho : PE X o to) (hbase : attributeBase o (mthN m) X.env (eval o X.env) = eval o X.env) (hline : (apos.endLine == pos.line) = true) :
    PE X (.Call (.Attribute o (mthN m) apos) [] [] pos) (tM0 (RMt X.K m) to) := by
  cases m with
  | get => exact absurd rfl hm.1
  | bits => exact absurd rfl hm.2.1
  | join => exact absurd rfl hm.2.2
  | isalpha => exact pe_m0 PySem.F.slot_str_isalpha PySem.F.type_str_isalpha mt_isalphaD ho hbase hline
  | islower => exact pe_m0 PySem.F.slot_str_islower PySem.F.type_str_islower mt_islowerD ho hbase hline
  | lower => exact pe_m0 PySem.F.slot_str_lower PySem.F.type_str_lower mt_lowerD ho hbase hline
  | upper => exact pe_m0 PySem.F.slot_str_upper PySem.F.type_str_upper mt_upperD ho hbase hline
  | swapcase => exact pe_m0 PySem.F.slot_str_swapcase PySem.F.type_str_swapcase mt_swapcaseD ho hbase hline
end
end Rf

set_option Elab.async false
set_option linter.all false
set_option maxRecDepth 100000
set_option maxHeartbeats 1000000
/-! Rf, part E: expressions. -/
namespace Rf
open PySem PySem.Spec PyProof.Rows L2

def sub : Nat → Nat
  | 0 => 0
  | _ => 1
theorem av1_sub {P : Pk} {e : Sl} {σ : L2.St} (m : Nat) : av1 P e σ (sub m) = av1 P e σ m := by cases m <;> rfl
def PostN (P : Pk) (e : Sl) (σ : L2.St) (m : Nat) (H : Hp) (Q : VK) : Res D → Prop
  | .ok d => ∀ v H', Same H H' → Fr2 P.K (av1 P e σ m) H v H' d → Q v H'
  | .ex c => ∀ H', Same H H' → P.W (.ref (P.ca c)) none σ H'
  | .stuck => False
/-- a value whose list or dict is new -/
def liftN (P : Pk) (m : Nat) (f : Sl → Res D) : L2.TE := fun σ H Q => ∃ e, Rel P e σ H ∧ PostN P e σ m H Q (f e)

structure Gd {β : Type} (P : Pk) (σ : L2.St) (Z : Hp → Res β → Prop) : Prop where
  back : ∀ {H H' : Hp} {r : Res β}, Same H H' → Z H r → Z H' r
  ex : ∀ {H : Hp} {c : Nat}, Z H (.ex c) → ∀ H', Same H H' → P.W (.ref (P.ca c)) none σ H'
  no : ∀ {H : Hp}, Z H .stuck → False
section
variable {P : Pk} {e : Sl} {σ : L2.St} {H H' : Hp} {m n k : Nat} {Q : VK}
theorem gdPost : Gd P σ (fun H r => Post P e σ m H Q r) := ⟨fun s h => Post.back s h, fun h => h, fun h => h⟩
theorem gdPostN : Gd P σ (fun H r => PostN P e σ m H Q r) := ⟨fun {H H' r} s h => match r, h with
  | .ok _, h => fun v H2 s2 d => h v H2 (s.trans s2) (d.back s)
  | .ex _, h => fun H2 s2 => h H2 (s.trans s2)
  | .stuck, h => h, fun h => h, fun h => h⟩
theorem gdPostT {Q : Bool → Hp → Prop} : Gd P σ (fun H r => PostT P σ H Q r) := ⟨fun {H H' r} s h => match r, h with
  | .ok (.bool _), h => fun H2 s2 => h H2 (s.trans s2)
  | .ok .none, h => h
  | .ok (.int _), h => h
  | .ok (.str _), h => h
  | .ok (.list _), h => h
  | .ok (.tuple _), h => h
  | .ok (.dict _), h => h
  | .ex _, h => fun H2 s2 => h H2 (s.trans s2)
  | .stuck, h => h, fun h => h, fun h => h⟩
theorem gdPosts {Q : List V → Hp → Prop} : Gd P σ (fun H r => Posts P e σ m H Q r) := ⟨fun {H H' r} s h => match r, h with
  | .ok _, h => fun v H2 s2 d => h v H2 (s.trans s2) d
  | .ex _, h => fun H2 s2 => h H2 (s.trans s2)
  | .stuck, h => h, fun h => h, fun h => h⟩
theorem PostN.post (R : Rel P e σ H) : ∀ {r : Res D}, Post P e σ m H Q r → PostN P e σ m H Q r
  | .ok _, h => fun v H' s d => h v H' s (d.two fun a z => by
    match m with
    | 0 => exact R.av_ne (.inl z)
    | 1 => exact R.av_ne (.inl z)
    | _ + 2 => exact R.av_ne z)
  | .ex _, h => h
  | .stuck, h => h
theorem PE.new {X : Cx} {ex : Expr} {f : Sl → Res D} (h : PE X ex (liftN P m f)) : PE X ex (lift P m f) := PE.imp h fun σ H Q ⟨e, R, p⟩ => ⟨e, R, PostN.post R p⟩
theorem PE.own {X : Cx} {ex : Expr} {f : Sl → Res D} (h : PE X ex (liftN P 2 f)) : PE X ex (liftL P f) := PE.imp h fun σ H Q ⟨e, R, p⟩ => ⟨e, R, by
  cases q : f e with
  | ok d =>
    rw [q] at p
    cases d with
    | list ds => intro v H' s ⟨a, xs, h1, h2, h3, h4⟩; subst h1; exact p a H' xs s h2 h3 h4
    | dict ds => intro v H' s ⟨a, xs, h1, h2, h3, h4⟩; subst h1; exact p a H' xs s h2 h3 h4
    | _ => exact p.elim
  | ex c => rw [q] at p; exact p
  | stuck => rw [q] at p; exact p⟩
theorem PE.mode {X : Cx} {ex : Expr} {f : Sl → Res D} (h : PE X ex (lift P 2 f)) : PE X ex (lift P m f) := PE.imp h fun σ H Q ⟨e, R, p⟩ => ⟨e, R, Post.mode (fun H v d hd => hd.d2.mm) p⟩
/-- an operand is evaluated -/
theorem bindZ {α : Type} {β : Type} {Z : Hp → Res β → Prop} (gd : Gd P σ Z) (R : Rel P e σ H) {F : D → Res β} {r : Res D} (h : Z H (r.bind F)) :
    Post P e σ m H (fun v H1 => ∃ x, r = .ok x ∧ Same H H1 ∧ Rel P e σ H1 ∧ DenM P e σ m H1 v x ∧ Z H1 (F x)) r := by
  cases r with
  | ok x => exact fun v H1 s d => ⟨x, rfl, s, R.same s, d, gd.back s h⟩
  | ex c => exact gd.ex h
  | stuck => exact gd.no h
theorem bindZs {β : Type} {Z : Hp → Res β → Prop} (gd : Gd P σ Z) (R : Rel P e σ H) {F : List D → Res β} {r : Res (List D)} (h : Z H (r.bind F)) :
    Posts P e σ m H (fun v H1 => ∃ x, r = .ok x ∧ Same H H1 ∧ Rel P e σ H1 ∧ DenMs P e σ m H1 v x ∧ Z H1 (F x)) r := by
  cases r with
  | ok x => exact fun v H1 s d => ⟨x, rfl, s, R.same s, d, gd.back s h⟩
  | ex c => exact gd.ex h
  | stuck => exact gd.no h
end

/-- the facts of a body's context -/
structure Ctx (X : Cx) (P : Pk) (N : List Str) (sc : Scope) : Prop where
  hK : X.K = P.K
  hN : X.N = N
  nd : N.Nodup
  hs : X.env.scope = sc
  calm : X.calm = true
  un : X.A.units + 190 < cLine
  tk : Takes X P.W
  po : PassesOwn (model X.prog X.w) X.A X.env X.xe
theorem evs_len {Φ : FT} {e : Sl} : ∀ {ES : List Exp} {xs : List D}, evs Φ ES e = .ok xs → xs.length = ES.length
  | [], xs, h => by simp only [evs, Res.ok.injEq] at h; subst h; rfl
  | A :: ES, xs, h => by
    simp only [evs] at h
    cases q : ev Φ A e with
    | ok d =>
      rw [q] at h
      cases q2 : evs Φ ES e with
      | ok ys =>
        simp only [Res.bind_ok, q2, Res.ok.injEq] at h
        subst h
        rw [List.length_cons, List.length_cons, evs_len q2]
      | ex c => simp [q2] at h
      | stuck => simp [q2] at h
    | ex c => rw [q] at h; simp at h
    | stuck => rw [q] at h; simp at h
theorem noLsts_append : ∀ {xs ys : List D}, noLsts xs = true → noLsts ys = true → noLsts (xs ++ ys) = true
  | [], _, _, h => h
  | x :: xs, ys, h, h2 => by
    simp only [noLsts, Bool.and_eq_true] at h
    simp only [List.cons_append, noLsts, Bool.and_eq_true]
    exact ⟨h.1, noLsts_append h.2 h2⟩
/-- what a def promises -/
def spP (K : PySem.W.Frag) (ca : Nat → Addr) (φ : FT) (f : Nat) : L2.Sp := fun vs H Q E => ∃ (av : Addr → Prop) (ds : List D), (∀ a, av a → H a ≠ none) ∧ Dens K av H vs ds ∧ match φ f ds with
  | .ok d => ∀ v H', Same H H' → Den K av H' v d → Q v H'
  | .ex c => ∀ H', Same H H' → E (.ref (ca c)) none H'
  | .stuck => False
/-- a def that may be called -/
structure Fn1 (pr : Program) (w : World) (K : PySem.W.Frag) (mg : Str → Option Value) (base : Heap) (A : Around) (ca : Nat → Addr) (Φ : FT) (x : Str) (f : Nat) : Prop where
  ex : ∃ (k : Nat) (fA : Addr) (fd : FuncData) (ps : List Str), FnOk pr w K mg base (L2.CX pr w) k fA fd ps (spP K ca Φ f) ∧ Room k A ∧ mg x = some (.ref fA) ∧ PySem.W.keepIn K (.ref fA) = true ∧ Binds K fd ps []

section
variable {X : Cx} {P : Pk} {N : List Str} {sc : Scope} {m : Nat} {Φ : FT} {f g : Sl → Res D} {A B E : Exp} {ES : List Exp} {a b c : Expr} {es : List Expr} {pos : Pos}
theorem Ctx.u1 (C : Ctx X P N sc) : X.A.units + 1 < cLine := by have := C.un; omega
theorem DenM.up {e : Sl} {σ : L2.St} {H : Hp} {v : V} {d : D} (h : Den P.K (av1 P e σ m) H v d) : DenM P e σ m H v d := by
  refine Den2.mono (fun a z => ?_) (fun a z => z) h.two
  match m with
  | 0 => exact z
  | 1 => exact .inl z
  | _ + 2 => exact z
/-! names, constants -/
theorem se_var (C : Ctx X P N sc) {i : Nat} {x : Str} (hN : N[i]? = some x) (hv : Vis sc x) (hd : (x == ("__debug__" : Str)) = false := by decide) (hcd : (x == ("__classdict__" : Str)) = false := by decide) : PE X (.Name x pos) (lift P m (ev Φ (.var i))) := by
  refine PE.imp (pe_var (i := i) (by rw [C.hN]; exact hN) (by rw [C.hs]; exact hv) hd hcd) fun σ H Q ⟨e, R, p⟩ => ?_
  simp only [ev] at p
  cases q : e[i]? with
  | none => rw [q] at p; exact p.elim
  | some s =>
    rw [q] at p
    obtain ⟨o, h1, h2⟩ := R.at q
    cases s with
    | d x =>
      obtain ⟨v, rfl, dd⟩ := h2
      exact ⟨v, h1, p v H (Same.refl H) dd.mm⟩
    | _ => exact p.elim
theorem se_vw (C : Ctx X P N sc) {i : Nat} {x : Str} (hN : N[i]? = some x) (hv : Vis sc x) (hm : m ≤ 1) (hd : (x == ("__debug__" : Str)) = false := by decide) (hcd : (x == ("__classdict__" : Str)) = false := by decide) : PE X (.Name x pos) (lift P m (ev Φ (.vw i))) := by
  refine PE.imp (pe_var (i := i) (by rw [C.hN]; exact hN) (by rw [C.hs]; exact hv) hd hcd) fun σ H Q ⟨e, R, p⟩ => ?_
  simp only [ev] at p
  have top : ∀ {a : Addr}, Owns e σ a → ¬ av0 P e σ m a := fun {a} ow z => by
    match m, hm with
    | 0, _ => exact R.own_av ow z
    | 1, _ => exact R.own_av ow z
  have in1 : ∀ a, av1 P e σ m a → avo P e σ a := fun a z => by
    match m with
    | 0 => exact .inl z
    | _ + 1 => exact z
  cases q : e[i]? with
  | none => rw [q] at p; exact p.elim
  | some s =>
    rw [q] at p
    obtain ⟨o, h1, h2⟩ := R.at q
    cases s with
    | d x =>
      obtain ⟨v, rfl, dd⟩ := h2
      exact ⟨v, h1, p v H (Same.refl H) dd.mm⟩
    | ol xs =>
      obtain ⟨a, ys, rfl, ha, dd⟩ := h2
      exact ⟨.ref a, h1, p _ H (Same.refl H) ⟨a, ys, rfl, .inl (.inl ha), .inl (top ⟨i, _, q, rfl, h1⟩), dd.imp (fun _ _ z => z) fun a _ => in1 a⟩⟩
    | od xs =>
      obtain ⟨a, ys, rfl, ha, dd⟩ := h2
      exact ⟨.ref a, h1, p _ H (Same.refl H) ⟨a, ys, rfl, .inl ha, top ⟨i, _, q, rfl, h1⟩, dd.imp (fun _ _ z => z) fun a _ => in1 a⟩⟩
    | un => exact p.elim
theorem se_c {v : V} {d : D} (h : PE X a (tC v)) (hd : ∀ (av : Addr → Prop) (H : Hp), Den P.K av H v d) : PE X a (lift P m (ev Φ (.con d))) :=
  PE.imp h fun σ H Q ⟨e, R, p⟩ => by
    simp only [ev] at p
    exact p v H (Same.refl H) (DenM.up (hd _ _))
theorem se_int {i : Int} {j : Nat} : PE X (.Constant (.int i) j pos) (lift P m (ev Φ (.con (.int i)))) := se_c pe_int fun _ _ => .int i
theorem se_bl {i : Bool} {j : Nat} : PE X (.Constant (.bool i) j pos) (lift P m (ev Φ (.con (.bool i)))) := se_c pe_bl fun _ _ => .bool i
theorem se_non {j : Nat} : PE X (.Constant .none j pos) (lift P m (ev Φ (.con .none))) := se_c pe_non fun _ _ => .none
theorem se_str {i : Str} {j : Nat} : PE X (.Constant (.str i) j pos) (lift P m (ev Φ (.con (.str i)))) := se_c pe_str fun _ _ => .str i
theorem se_glob {v : V} {d : D} {u : Value} {x : Str} (hg : X.env.kindOf x = some .globalImplicit) (hm : X.mg x = some u) (r : L2.RelV v u) (hd : ∀ (av : Addr → Prop) (H : Hp), Den P.K av H v d) (hdb : (x == ("__debug__" : Str)) = false := by decide) : PE X (.Name x pos) (lift P m (ev Φ (.con d))) := se_c (pe_glob hg hm r hdb) hd

/-! operations -/
theorem se_bin (C : Ctx X P N sc) (op : BOp) (ha : PE X a (lift P (sub m) (ev Φ A))) (hb : PE X b (lift P (sub m) (ev Φ B))) :
    PE X (.BinOp a (bOp op) b pos) (liftN P m (ev Φ (.bin op A B))) := by
  have o := op_binD (X := X) op
  rw [C.hK] at o
  refine PE.imp (pe_op o ha hb) fun σ H Q ⟨e, R, p⟩ => ⟨e, R, ?_⟩
  simp only [ev] at p
  refine Post.weaken (bindZ (α := D) (m := sub m) gdPostN R p) fun v H1 ⟨x, _, s1, R1, d1, p1⟩ => ⟨e, R1, ?_⟩
  refine Post.weaken (bindZ (α := D) (m := sub m) gdPostN R1 p1) fun w H2 ⟨y, _, s2, R2, d2, p2⟩ => ?_
  cases q : binD op x y with
  | none => rw [q] at p2; exact p2.elim
  | some d =>
    rw [q] at p2
    have d1' := d1.same s2
    unfold DenM at d1' d2
    rw [av1_sub] at d1' d2
    exact ⟨_, _, _, x, y, d, d1', d2, q, fun z H' s hz => p2 z H' s hz⟩
theorem bl_m {e : Sl} {σ : L2.St} {H : Hp} {i : Bool} : DenM P e σ m H (.bl i) (.bool i) := DenM.up (.bool i)
theorem int_m {e : Sl} {σ : L2.St} {H : Hp} {i : Int} : DenM P e σ m H (.int i) (.int i) := DenM.up (.int i)
theorem se_cmp (C : Ctx X P N sc) (op : COp) (ha : PE X a (lift P 0 (ev Φ A))) (hb : PE X b (lift P 0 (ev Φ B))) (hm : behindInMarks (cOp op) b = false) :
    PE X (.Compare a [cOp op] [b] pos) (lift P m (ev Φ (.cmp op A B))) := by
  have o := op_cmpD (X := X) C.un op
  rw [C.hK] at o
  refine PE.imp (pe_cmpR o ha hb hm) fun σ H Q ⟨e, R, p⟩ => ⟨e, R, ?_⟩
  simp only [ev] at p
  refine Post.weaken (bindZ (α := D) (m := 0) gdPost R p) fun v H1 ⟨x, _, s1, R1, d1, p1⟩ => ⟨e, R1, ?_⟩
  refine Post.weaken (bindZ (α := D) (m := 0) gdPost R1 p1) fun w H2 ⟨y, _, s2, R2, d2, p2⟩ => ?_
  cases q : cmpD op x y with
  | none => rw [q] at p2; exact p2.elim
  | some d =>
    rw [q] at p2
    exact ⟨_, _, _, x, y, d, d1.same s2, d2, q, p2 _ H2 (Same.refl _) bl_m⟩
theorem st_cmp (C : Ctx X P N sc) (op : COp) (ha : PE X a (lift P 0 (ev Φ A))) (hb : PE X b (lift P 0 (ev Φ B))) (hm : behindInMarks (cOp op) b = false) :
    PT X (.Compare a [cOp op] [b] pos) (liftT P (ev Φ (.cmp op A B))) := by
  have o := op_cmpD (X := X) C.un op
  rw [C.hK] at o
  refine PT.imp (pt_cmpR o ha hb hm) fun σ H Q ⟨e, R, p⟩ => ⟨e, R, ?_⟩
  simp only [ev] at p
  refine Post.weaken (bindZ (α := D) (m := 0) gdPostT R p) fun v H1 ⟨x, _, s1, R1, d1, p1⟩ => ⟨e, R1, ?_⟩
  refine Post.weaken (bindZ (α := D) (m := 0) gdPostT R1 p1) fun w H2 ⟨y, _, s2, R2, d2, p2⟩ => ?_
  cases q : cmpD op x y with
  | none => rw [q] at p2; exact p2.elim
  | some d =>
    rw [q] at p2
    exact ⟨_, _, _, x, y, d, d1.same s2, d2, q, d, rfl, p2 H2 (Same.refl _)⟩
theorem se_chain (C : Ctx X P N sc) (o1 o2 : COp) (ha : PE X a (lift P 0 (ev Φ A))) (hb : PE X b (lift P 0 (ev Φ B))) (hc : PE X c (lift P 0 (ev Φ E))) (hm : lastMarks [cOp o1, cOp o2] [b, c] = false) :
    PE X (.Compare a [cOp o1, cOp o2] [b, c] pos) (lift P m (ev Φ (.chain o1 o2 A B E))) := by
  have w1 := op_cmpD (X := X) C.un o1
  have w2 := op_cmpD (X := X) C.un o2
  rw [C.hK] at w1 w2
  refine PE.imp (pe_chain w1 w2 ha hb hc hm) fun σ H Q ⟨e, R, p⟩ => ⟨e, R, ?_⟩
  simp only [ev] at p
  refine Post.weaken (bindZ (α := D) (m := 0) gdPost R p) fun v H1 ⟨x, _, s1, R1, d1, p1⟩ => ⟨e, R1, ?_⟩
  refine Post.weaken (bindZ (α := D) (m := 0) gdPost R1 p1) fun w H2 ⟨y, _, s2, R2, d2, p2⟩ => ?_
  cases q : cmpD o1 x y with
  | none => rw [q] at p2; exact p2.elim
  | some k =>
    rw [q] at p2
    refine ⟨_, _, _, x, y, k, d1.same s2, d2, q, k, rfl, ?_⟩
    cases k with
    | false => exact p2 _ H2 (Same.refl _) bl_m
    | true =>
      refine ⟨e, R2, ?_⟩
      refine Post.weaken (bindZ (α := D) (m := 0) gdPost R2 p2) fun u H3 ⟨z, _, s3, R3, d3, p3⟩ => ?_
      cases q3 : cmpD o2 y z with
      | none => rw [q3] at p3; exact p3.elim
      | some d =>
        rw [q3] at p3
        exact ⟨_, _, _, y, z, d, d2.same s3, d3, q3, p3 _ H3 (Same.refl _) bl_m⟩
/-- a bool's value as a test -/
theorem st_val {f : Sl → Res D} (h : PE X a (lift P 2 f)) (he : ∀ whole, PySem.isTrue a X.env whole = (do let v ← whole; standAt a.pos; holding [v] (truthy v)) := by intro _; rfl) : PT X a (liftT P f) :=
  PT.imp (pt_val h he) fun σ H Q ⟨e, R, p⟩ => ⟨e, R, by
    cases q : f e with
    | ok d =>
      rw [q] at p
      cases d with
      | bool k => exact fun v H' s hd => ⟨k, d2_bool hd, p H' s⟩
      | _ => exact p.elim
    | ex c => rw [q] at p; exact p
    | stuck => rw [q] at p; exact p⟩
theorem PostT.weaken {σ : L2.St} {H : Hp} {Q Q' : Bool → Hp → Prop} {r : Res D} (h : PostT P σ H Q r) (w : ∀ k H', Q k H' → Q' k H') : PostT P σ H Q' r := by
  cases r with
  | ok d => cases d with
    | bool k => exact fun H' s => w _ _ (h H' s)
    | _ => exact h.elim
  | ex c => exact h
  | stuck => exact h
/-- a test evaluated -/
theorem bindT' {β : Type} {Z : Hp → Res β → Prop} {e : Sl} {σ : L2.St} {H : Hp} (gd : Gd P σ Z) (R : Rel P e σ H) {F : D → Res β} {r : Res D} (hF : ∀ d, (∀ k, d ≠ .bool k) → F d = .stuck) (h : Z H (r.bind F)) :
    PostT P σ H (fun k H1 => r = .ok (.bool k) ∧ Same H H1 ∧ Rel P e σ H1 ∧ Z H1 (F (.bool k))) r := by
  cases r with
  | ok d =>
    cases d with
    | bool k => exact fun H1 s => ⟨rfl, s, R.same s, gd.back s h⟩
    | none => exact gd.no (by have := hF .none (fun _ z => nomatch z); rw [← this]; exact h)
    | int i => exact gd.no (by have := hF (.int i) (fun _ z => nomatch z); rw [← this]; exact h)
    | str i => exact gd.no (by have := hF (.str i) (fun _ z => nomatch z); rw [← this]; exact h)
    | list i => exact gd.no (by have := hF (.list i) (fun _ z => nomatch z); rw [← this]; exact h)
    | tuple i => exact gd.no (by have := hF (.tuple i) (fun _ z => nomatch z); rw [← this]; exact h)
    | dict i => exact gd.no (by have := hF (.dict i) (fun _ z => nomatch z); rw [← this]; exact h)
  | ex c => exact gd.ex h
  | stuck => exact gd.no h
theorem se_ite (hc : PT X c (liftT P (ev Φ E))) (ha : PE X a (lift P m (ev Φ A))) (hb : PE X b (lift P m (ev Φ B))) : PE X (.IfExp c a b pos) (lift P m (ev Φ (.ite E A B))) := by
  refine PE.imp (pe_ifExp hc ha hb) fun σ H Q ⟨e, R, p⟩ => ⟨e, R, ?_⟩
  simp only [ev] at p
  refine PostT.weaken (bindT' (gdPost (m := m)) R (fun d hd => ?_) p) fun k H1 ⟨_, s, R1, z⟩ => ?_
  · cases d with
    | bool k => exact absurd rfl (hd k)
    | _ => rfl
  · cases k with
    | true => exact ⟨e, R1, z⟩
    | false => exact ⟨e, R1, z⟩
theorem st_and {rest : List Expr} (ha : PT X a (liftT P (ev Φ A))) (hb : PW X (.BoolOp .And (b :: rest) pos) (liftT P (ev Φ B))) : PW X (.BoolOp .And (a :: b :: rest) pos) (liftT P (ev Φ (.and A B))) := by
  refine PW.imp (pw_and ha hb) fun σ H Q ⟨e, R, p⟩ => ⟨e, R, ?_⟩
  simp only [ev] at p
  refine PostT.weaken (bindT' (gdPostT) R (fun d hd => ?_) p) fun k H1 ⟨_, s, R1, z⟩ => ?_
  · cases d with
    | bool k => exact absurd rfl (hd k)
    | _ => rfl
  · cases k with
    | true => exact ⟨e, R1, z⟩
    | false => exact z H1 (Same.refl _)
theorem st_or {rest : List Expr} (ha : PT X a (liftT P (ev Φ A))) (hb : PW X (.BoolOp .Or (b :: rest) pos) (liftT P (ev Φ B))) : PW X (.BoolOp .Or (a :: b :: rest) pos) (liftT P (ev Φ (.or A B))) := by
  refine PW.imp (pw_or ha hb) fun σ H Q ⟨e, R, p⟩ => ⟨e, R, ?_⟩
  simp only [ev] at p
  refine PostT.weaken (bindT' (gdPostT) R (fun d hd => ?_) p) fun k H1 ⟨_, s, R1, z⟩ => ?_
  · cases d with
    | bool k => exact absurd rfl (hd k)
    | _ => rfl
  · cases k with
    | true => exact z H1 (Same.refl _)
    | false => exact ⟨e, R1, z⟩
theorem st_and1 {f : Sl → Res D} (ha : PT X a (liftT P f)) : PW X (.BoolOp .And [a] pos) (liftT P f) := pw_and1 ha
theorem st_or1 {f : Sl → Res D} (ha : PT X a (liftT P f)) : PW X (.BoolOp .Or [a] pos) (liftT P f) := pw_or1 ha
theorem se_one {op : BoolOp} {f : Sl → Res D} (ha : PE X a (lift P m f)) : PE X (.BoolOp op [a] pos) (lift P m f) := pe_one ha
theorem st_chain (C : Ctx X P N sc) (o1 o2 : COp) (ha : PE X a (lift P 0 (ev Φ A))) (hb : PE X b (lift P 0 (ev Φ B))) (hc : PE X c (lift P 0 (ev Φ E))) (hm : lastMarks [cOp o1, cOp o2] [b, c] = false) :
    PT X (.Compare a [cOp o1, cOp o2] [b, c] pos) (liftT P (ev Φ (.chain o1 o2 A B E))) := by
  have w1 := op_cmpD (X := X) C.un o1
  have w2 := op_cmpD (X := X) C.un o2
  rw [C.hK] at w1 w2
  refine PT.imp (pt_chain w1 w2 ha hb hc hm) fun σ H Q ⟨e, R, p⟩ => ⟨e, R, ?_⟩
  simp only [ev] at p
  refine Post.weaken (bindZ (α := D) (m := 0) gdPostT R p) fun v H1 ⟨x, _, s1, R1, d1, p1⟩ => ⟨e, R1, ?_⟩
  refine Post.weaken (bindZ (α := D) (m := 0) gdPostT R1 p1) fun w H2 ⟨y, _, s2, R2, d2, p2⟩ => ?_
  cases q : cmpD o1 x y with
  | none => rw [q] at p2; exact p2.elim
  | some k =>
    rw [q] at p2
    refine ⟨_, _, _, x, y, k, d1.same s2, d2, q, k, rfl, ?_⟩
    cases k with
    | false => exact ⟨false, rfl, p2 _ (Same.refl _)⟩
    | true =>
      refine ⟨e, R2, ?_⟩
      refine Post.weaken (bindZ (α := D) (m := 0) gdPostT R2 p2) fun u H3 ⟨z, _, s3, R3, d3, p3⟩ => ?_
      cases q3 : cmpD o2 y z with
      | none => rw [q3] at p3; exact p3.elim
      | some d =>
        rw [q3] at p3
        exact ⟨_, _, _, y, z, d, d2.same s3, d3, q3, d, rfl, p3 _ (Same.refl _)⟩
theorem st_not (ha : PT X a (liftT P (ev Φ A))) : PT X (.UnaryOp .Not a pos) (liftT P (ev Φ (.not A))) := by
  refine PT.imp (pt_not ha) fun σ H Q ⟨e, R, p⟩ => ⟨e, R, ?_⟩
  simp only [ev] at p
  refine PostT.weaken (bindT' (gdPostT) R (fun d hd => ?_) p) fun k H1 ⟨_, s, R1, z⟩ => ?_
  · cases d with
    | bool k => exact absurd rfl (hd k)
    | _ => rfl
  · exact z H1 (Same.refl _)
/-- a bool evaluated -/
theorem bindB {β : Type} {Z : Hp → Res β → Prop} {e : Sl} {σ : L2.St} {H : Hp} (gd : Gd P σ Z) (R : Rel P e σ H) {F : D → Res β} {r : Res D} (hF : ∀ d, (∀ k, d ≠ .bool k) → F d = .stuck) (h : Z H (r.bind F)) :
    Post P e σ m H (fun v H1 => ∃ k, v = .bl k ∧ Same H H1 ∧ Rel P e σ H1 ∧ Z H1 (F (.bool k))) r := by
  cases r with
  | ok d =>
    cases d with
    | bool k => exact fun v H1 s hd => ⟨k, d2_bool hd, s, R.same s, gd.back s h⟩
    | none => exact (gd.no (by have := hF .none (fun _ z => nomatch z); rw [← this]; exact h)).elim
    | int i => exact (gd.no (by have := hF (.int i) (fun _ z => nomatch z); rw [← this]; exact h)).elim
    | str i => exact (gd.no (by have := hF (.str i) (fun _ z => nomatch z); rw [← this]; exact h)).elim
    | list i => exact (gd.no (by have := hF (.list i) (fun _ z => nomatch z); rw [← this]; exact h)).elim
    | tuple i => exact (gd.no (by have := hF (.tuple i) (fun _ z => nomatch z); rw [← this]; exact h)).elim
    | dict i => exact (gd.no (by have := hF (.dict i) (fun _ z => nomatch z); rw [← this]; exact h)).elim
  | ex c => exact gd.ex h
  | stuck => exact gd.no h
theorem se_and {rest : List Expr} (ha : PE X a (lift P 0 (ev Φ A))) (hb : PE X (.BoolOp .And (b :: rest) pos) (lift P m (ev Φ B))) : PE X (.BoolOp .And (a :: b :: rest) pos) (lift P m (ev Φ (.and A B))) := by
  refine PE.imp (pe_and ha hb) fun σ H Q ⟨e, R, p⟩ => ⟨e, R, ?_⟩
  simp only [ev] at p
  refine Post.weaken (bindB (m := 0) (gdPost (m := m)) R (fun d hd => ?_) p) fun v H1 ⟨k, hv, s, R1, z⟩ => ⟨k, hv, ?_⟩
  · cases d with
    | bool k => exact absurd rfl (hd k)
    | _ => rfl
  · cases k with
    | true => exact ⟨e, R1, z⟩
    | false => exact z _ H1 (Same.refl _) bl_m
theorem se_or {rest : List Expr} (ha : PE X a (lift P 0 (ev Φ A))) (hb : PE X (.BoolOp .Or (b :: rest) pos) (lift P m (ev Φ B))) : PE X (.BoolOp .Or (a :: b :: rest) pos) (lift P m (ev Φ (.or A B))) := by
  refine PE.imp (pe_or ha hb) fun σ H Q ⟨e, R, p⟩ => ⟨e, R, ?_⟩
  simp only [ev] at p
  refine Post.weaken (bindB (m := 0) (gdPost (m := m)) R (fun d hd => ?_) p) fun v H1 ⟨k, hv, s, R1, z⟩ => ⟨k, hv, ?_⟩
  · cases d with
    | bool k => exact absurd rfl (hd k)
    | _ => rfl
  · cases k with
    | true => exact z _ H1 (Same.refl _) bl_m
    | false => exact ⟨e, R1, z⟩
theorem se_not (ha : PE X a (lift P 0 (ev Φ A))) : PE X (.UnaryOp .Not a pos) (lift P m (ev Φ (.not A))) := by
  refine PE.imp (pe_not ha) fun σ H Q ⟨e, R, p⟩ => ⟨e, R, ?_⟩
  simp only [ev] at p
  refine Post.weaken (bindB (m := 0) (gdPost (m := m)) R (fun d hd => ?_) p) fun v H1 ⟨k, hv, s, R1, z⟩ => ⟨k, hv, ?_⟩
  · cases d with
    | bool k => exact absurd rfl (hd k)
    | _ => rfl
  · exact z _ H1 (Same.refl _) bl_m
theorem se_neg (ha : PE X a (lift P 0 (ev Φ A))) : PE X (.UnaryOp .USub a pos) (lift P m (ev Φ (.neg A))) := by
  refine PE.imp (pe_un un_neg ha) fun σ H Q ⟨e, R, p⟩ => ⟨e, R, ?_⟩
  simp only [ev] at p
  refine Post.weaken (bindZ (α := D) (m := 0) gdPost R p) fun v H1 ⟨x, _, s1, R1, d1, p1⟩ => ?_
  cases x with
  | int i => exact ⟨i, d2_int d1, p1 _ H1 (Same.refl _) int_m⟩
  | _ => exact p1.elim

/-! ### argument lists, displays -/
theorem ses_nil : PA X [] (lifts P m (evs Φ [])) := PA.imp pa_nil fun σ H Q ⟨e, R, p⟩ => by
  simp only [evs] at p
  exact p [] H (Same.refl _) trivial
theorem ses_cons (ha : PE X a (lift P m (ev Φ A))) (hr : PA X es (lifts P m (evs Φ ES))) (hs : starEach (a :: es) X.env = (false, eval a X.env) :: starEach es X.env := by rfl) : PA X (a :: es) (lifts P m (evs Φ (A :: ES))) := by
  refine PA.imp (pa_cons ha hr hs) fun σ H Q ⟨e, R, p⟩ => ⟨e, R, ?_⟩
  simp only [evs] at p
  refine Post.weaken (bindZ (α := D) (m := m) (gdPosts (m := m)) R p) fun v H1 ⟨x, _, s1, R1, d1, p1⟩ => ⟨e, R1, ?_⟩
  refine Posts.weaken (bindZs (m := m) (gdPosts (m := m)) R1 p1) fun vs H2 ⟨xs, _, s2, R2, d2, p2⟩ => ?_
  exact p2 (v :: vs) H2 (Same.refl _) ⟨d1.same s2, d2⟩
theorem DenMs.len {e : Sl} {σ : L2.St} {H : Hp} : ∀ {vs : List V} {ds : List D}, DenMs P e σ m H vs ds → vs.length = ds.length
  | [], [], _ => rfl
  | _ :: _, _ :: _, h => congrArg (· + 1) (DenMs.len h.2)
  | [], _ :: _, h => h.elim
  | _ :: _, [], h => h.elim
/-- the items' mode of a display -/
def cm : Nat → Nat
  | 0 => 0
  | _ => 2
theorem cm_av1 {e : Sl} {σ : L2.St} : av1 P e σ (cm m) = av1 P e σ m := by cases m <;> rfl
theorem DenMs.dens {e : Sl} {σ : L2.St} {H : Hp} {vs : List V} {ds : List D} (h : DenMs P e σ (cm m) H vs ds) : Dens P.K (av1 P e σ m) H vs ds := by
  cases m with
  | zero => exact h.weak
  | succ n => exact h.d2
theorem DenMs.dena {e : Sl} {σ : L2.St} {H : Hp} : ∀ {vs : List V} {ds : List D}, DenMs P e σ m H vs ds → DenA P.K (av1 P e σ m) H vs ds
  | [], [], _ => trivial
  | _ :: _, _ :: _, h => ⟨⟨_, h.1⟩, DenMs.dena h.2⟩
  | [], _ :: _, h => h.elim
  | _ :: _, [], h => h.elim
theorem se_tup {k : Nat} (hn : ES.length ≤ 1000) (ha : PA X es (lifts P (cm m) (evs Φ ES))) : PE X (.Tuple es k pos) (lift P m (ev Φ (.tup ES))) := by
  refine PE.imp (pe_tup ha) fun σ H Q ⟨e, R, p⟩ => ⟨e, R, ?_⟩
  simp only [ev] at p
  refine Posts.weaken (bindZs (m := cm m) (gdPost (m := m)) R p) fun vs H1 ⟨xs, hx, s1, R1, d1, p1⟩ => ⟨?_, fun q no => ?_⟩
  · rw [d1.len, evs_len hx]
    exact Nat.le_trans hn (by decide)
  · exact p1 _ _ (same_upd no) (DenM.up (new_tup no d1.dens))
theorem se_lst (hn : ES.length ≤ 1000) (ha : PA X es (lifts P (cm m) (evs Φ ES))) : PE X (.List es pos) (liftN P m (ev Φ (.lst ES))) := by
  refine PE.imp (pe_lst ha) fun σ H Q ⟨e, R, p⟩ => ⟨e, R, ?_⟩
  simp only [ev] at p
  refine Posts.weaken (bindZs (m := cm m) (gdPostN (m := m)) R p) fun vs H1 ⟨xs, hx, s1, R1, d1, p1⟩ => ⟨?_, fun q no => ?_⟩
  · rw [d1.len, evs_len hx]
    exact Nat.le_trans hn (by decide)
  · exact p1 _ _ (same_upd no) (new_lst no d1.dens)
theorem se_emp : PE X (.Dict [] [] pos) (liftN P m (ev Φ .emp)) := by
  refine PE.imp pe_dnewK fun σ H Q ⟨e, R, p⟩ q no => ?_
  simp only [ev] at p
  exact p _ _ (same_upd no) (new_dct no .nil)
theorem se_idx (C : Ctx X P N sc) (ha : PE X a (lift P (sub m) (ev Φ A))) (hb : PE X b (lift P 0 (ev Φ B))) (hp : PlainIx b) : PE X (.Subscript a b pos) (lift P m (ev Φ (.idx A B))) := by
  have o := ixD (X := X) C.u1
  rw [C.hK] at o
  refine PE.imp (pe_ix o ha hb hp) fun σ H Q ⟨e, R, p⟩ => ⟨e, R, ?_⟩
  simp only [ev] at p
  refine Post.weaken (bindZ (α := D) (m := sub m) gdPost R p) fun v H1 ⟨x, _, s1, R1, d1, p1⟩ => ⟨e, R1, ?_⟩
  refine Post.weaken (bindZ (α := D) (m := 0) gdPost R1 p1) fun w H2 ⟨y, _, s2, R2, d2, p2⟩ => ?_
  cases q : idxD x y with
  | none => rw [q] at p2; exact p2.elim
  | some d =>
    rw [q] at p2
    have d1' := d1.same s2
    unfold DenM at d1'
    rw [av1_sub] at d1'
    exact ⟨_, _, _, _, x, y, d, d1', d2, q, fun z hz => p2 z H2 (Same.refl _) (DenM.up hz)⟩
/-- a slice's bound -/
def evo (Φ : FT) (A : Exp) (e : Sl) : Res (Option Int) := if A.isNop then .ok none else (ev Φ A e).bind partD
def PostO (P : Pk) (σ : L2.St) (H : Hp) (Q : Option Int → Hp → Prop) : Res (Option Int) → Prop
  | .ok o => ∀ H', Same H H' → Q o H'
  | .ex c => ∀ H', Same H H' → P.W (.ref (P.ca c)) none σ H'
  | .stuck => False
def liftO (P : Pk) (f : Sl → Res (Option Int)) : L2.TO := fun σ H Q => ∃ e, Rel P e σ H ∧ PostO P σ H Q (f e)
theorem so_none : PO X none (liftO P (evo Φ .nop)) := ⟨fun pins s σ H Q I ⟨e, R, p⟩ => (po_none (X := X)).run pins s σ H Q I (p H (Same.refl _))⟩
theorem so_some (ha : PE X a (lift P 0 (ev Φ A))) (hA : A.isNop = false := by rfl) : PO X (some a) (liftO P (evo Φ A)) := ⟨fun pins s σ H Q I ⟨e, R, p⟩ => by
  refine (po_some ha).run pins s σ H Q I ⟨e, R, ?_⟩
  unfold evo at p
  rw [hA, if_neg (by decide)] at p
  cases q : ev Φ A e with
  | ok d =>
    rw [q] at p
    cases d with
    | int i => exact fun v H' s hd => ⟨i, d2_int hd, p H' s⟩
    | _ => exact p.elim
  | ex c => rw [q] at p; exact p
  | stuck => rw [q] at p; exact p⟩
theorem bindO {β : Type} {Z : Hp → Res β → Prop} {e : Sl} {σ : L2.St} {H : Hp} (gd : Gd P σ Z) (R : Rel P e σ H) {F : Option Int → Res β} {r : Res (Option Int)} (h : Z H (r.bind F)) :
    PostO P σ H (fun o H1 => Same H H1 ∧ Rel P e σ H1 ∧ Z H1 (F o)) r := by
  cases r with
  | ok d => exact fun H1 s => ⟨s, R.same s, gd.back s h⟩
  | ex c => exact gd.ex h
  | stuck => exact gd.no h
theorem PostO.weaken {σ : L2.St} {H : Hp} {Q Q' : Option Int → Hp → Prop} {r : Res (Option Int)} (h : PostO P σ H Q r) (w : ∀ k H', Q k H' → Q' k H') : PostO P σ H Q' r := by
  cases r with
  | ok d => exact fun H' s => w _ _ (h H' s)
  | ex c => exact h
  | stuck => exact h
theorem se_sl (C : Ctx X P N sc) {lo hi : Option Expr} {p2 : Pos} {L U : Exp} (ha : PE X a (lift P (sub m) (ev Φ A))) (hl : PO X lo (liftO P (evo Φ L))) (hh : PO X hi (liftO P (evo Φ U))) :
    PE X (.Subscript a (.Slice lo hi none p2) pos) (liftN P m (ev Φ (.sl A L U))) := by
  have o := slD (X := X)
  rw [C.hK] at o
  refine PE.imp (pe_slice o ha hl hh) fun σ H Q ⟨e, R, p⟩ => ⟨e, R, ?_⟩
  simp only [ev] at p
  refine Post.weaken (bindZ (α := D) (m := sub m) gdPostN R p) fun v H1 ⟨x, _, s1, R1, d1, p1⟩ => ⟨e, R1, ?_⟩
  refine PostO.weaken (bindO (r := evo Φ L e) gdPostN R1 p1) fun l H2 ⟨s2, R2, p2⟩ => ⟨e, R2, ?_⟩
  refine PostO.weaken (bindO (r := evo Φ U e) gdPostN R2 p2) fun u H3 ⟨s3, R3, p3⟩ => ?_
  cases q : sliceD x l u with
  | none => rw [q] at p3; exact p3.elim
  | some d =>
    rw [q] at p3
    have d1' := (d1.same s2).same s3
    unfold DenM at d1'
    rw [av1_sub] at d1'
    exact ⟨_, _, x, d, d1', q, fun z H' s hz => p3 z H' s hz⟩
/-! ### calls -/
theorem se_call (C : Ctx X P N sc) {x : Str} {F : Nat} {p : Pos} (fn : Fn1 X.prog X.w X.K X.mg X.base X.A P.ca Φ x F) (hg : X.env.kindOf x = some .globalImplicit) (ha : PA X (a :: es) (lifts P (cm m) (evs Φ ES))) (hdb : (x == ("__debug__" : Str)) = false := by decide)
    (he : starEach (a :: es) X.env = (false, eval a X.env) :: starEach es X.env := by rfl) (hpl : (backTo pos (starEach es X.env)).any (·.1) = false := by rfl) :
    PE X (.Call (.Name x p) (a :: es) [] pos) (lift P m (ev Φ (.call F ES))) := by
  obtain ⟨k, fA, fd, ps, ok, hr, hm, hk, hb⟩ := fn.ex
  refine PE.imp (pe_callS ok hr hg hm hk hb (fun σ => passAt C.tk σ) ha hdb he hpl) fun σ H Q ⟨e, R, p⟩ => ⟨e, R, ?_⟩
  simp only [ev] at p
  refine Posts.weaken (bindZs (m := cm m) (gdPost (m := m)) R p) fun vs H1 ⟨xs, hx, s1, R1, d1, p1⟩ => ?_
  refine ⟨av1 P e σ m, xs, fun a z => ?_, by rw [C.hK]; exact d1.dens, ?_⟩
  · match m with
    | 0 => exact R1.av_ne (.inl z)
    | _ + 1 => exact R1.av_ne z
  · cases q : Φ F xs with
    | ok d => rw [q] at p1; exact fun v H' s hd => p1 v H' s (DenM.up (by rw [C.hK] at hd; exact hd))
    | ex c => rw [q] at p1; exact p1
    | stuck => rw [q] at p1; exact p1.elim
theorem se_callv (C : Ctx X P N sc) {x : Str} {F : Nat} {p : Pos} (fn : Fn1 X.prog X.w X.K X.mg X.base X.A P.ca Φ x F) (hg : X.env.kindOf x = some .globalImplicit) (ha : PA X (a :: es) (lifts P 0 (evs Φ ES))) (hdb : (x == ("__debug__" : Str)) = false := by decide)
    (he : starEach (a :: es) X.env = (false, eval a X.env) :: starEach es X.env := by rfl) (hpl : (backTo pos (starEach es X.env)).any (·.1) = false := by rfl) :
    PE X (.Call (.Name x p) (a :: es) [] pos) (lift P m (ev Φ (.callv F ES))) := by
  refine PE.imp (se_call (m := 0) C fn hg ha hdb he hpl) fun σ H Q ⟨e, R, p⟩ => ⟨e, R, ?_⟩
  simp only [ev] at p ⊢
  cases q : evs Φ ES e with
  | ok xs =>
    simp only [q, Res.bind_ok] at p ⊢
    cases q2 : Φ F xs with
    | ok y =>
      simp only [q2, Res.bind_ok] at p ⊢
      cases q3 : noLst y with
      | true =>
        rw [q3, if_pos rfl] at p
        exact fun v H' s hd => p v H' s (hd.flat q3).mm
      | false => rw [q3, if_neg (by decide)] at p; exact p.elim
    | ex c => rw [q2] at p; exact p
    | stuck => rw [q2] at p; exact p.elim
  | ex c => rw [q] at p; exact p
  | stuck => rw [q] at p; exact p.elim
/-! ### built-ins -/
theorem tCB_of {σ : L2.St} {H : Hp} {Q : VK} {Bl : Blt} (h : liftN P m (ev Φ (.blt Bl ES)) σ H Q) : tCB (RCl P.K (bltD Bl)) (lifts P (sub m) (evs Φ ES)) σ H Q := by
  obtain ⟨e, R, p⟩ := h
  refine ⟨e, R, ?_⟩
  simp only [ev] at p
  refine Posts.weaken (bindZs (m := sub m) (gdPostN (m := m)) R p) fun vs H1 ⟨xs, hx, s1, R1, d1, p1⟩ => ?_
  cases q : bltD Bl xs with
  | none => rw [q] at p1; exact p1.elim
  | some d =>
    rw [q] at p1
    have da := d1.dena
    rw [av1_sub] at da
    exact ⟨_, xs, d, da, q, fun z H' s hz => p1 z H' s hz⟩
/-- a built-in function -/
theorem se_bltB (C : Ctx X P N sc) {x : Str} {p : Pos} {id : String} {Bl : Blt} (hc : CallR X (.builtin id) (RCl X.K (bltD Bl))) (hg : X.env.kindOf x = some .globalImplicit) (hm : X.mg x = none) (hv : bootBuiltins x = some (.builtin id))
    (ha : PA X (a :: es) (lifts P (sub m) (evs Φ ES))) (hn : x ≠ ("__name__" : Str) := by decide) (hdb : (x == ("__debug__" : Str)) = false := by decide)
    (he : starEach (a :: es) X.env = (false, eval a X.env) :: starEach es X.env := by rfl) (hpl : (backTo pos (starEach es X.env)).any (·.1) = false := by rfl) :
    PE X (.Call (.Name x p) (a :: es) [] pos) (liftN P m (ev Φ (.blt Bl ES))) := by
  rw [C.hK] at hc
  exact PE.imp (pe_callB hc hg hm hv ha hn hdb he hpl) fun σ H Q h => tCB_of h
/-- a built-in type -/
theorem se_bltT (C : Ctx X P N sc) {x : Str} {p : Pos} {T : String} {Bl : Blt} (hc : CallR X (.type T) (RCl X.K (bltD Bl))) (hg : X.env.kindOf x = some .globalImplicit) (hm : X.mg x = none) (hv : bootBuiltins x = some (.type T))
    (ha : PA X (a :: es) (lifts P (sub m) (evs Φ ES))) (hn : x ≠ ("__name__" : Str) := by decide) (hdb : (x == ("__debug__" : Str)) = false := by decide)
    (he : starEach (a :: es) X.env = (false, eval a X.env) :: starEach es X.env := by rfl) (hpl : (backTo pos (starEach es X.env)).any (·.1) = false := by rfl) :
    PE X (.Call (.Name x p) (a :: es) [] pos) (liftN P m (ev Φ (.blt Bl ES))) := by
  rw [C.hK] at hc
  exact PE.imp (pe_callTy hc hg hm hv ha hn hdb he hpl) fun σ H Q h => tCB_of h
/-- a result that holds no list is strong -/
theorem PE.flat {f : Sl → Res D} (hf : ∀ e d, f e = .ok d → noLst d = true) (h : PE X a (liftN P 0 f)) : PE X a (lift P m f) := Rf.PE.imp (Rf.PE.new h) fun σ H Q ⟨e, R, p⟩ => ⟨e, R, by
  cases q : f e with
  | ok d => rw [q] at p; exact fun v H' s hd => p v H' s (hd.flat (hf e d q)).mm
  | ex c => rw [q] at p; exact p
  | stuck => rw [q] at p; exact p⟩
def Blt.flat : Blt → Bool
  | .tuple => false
  | .list => false
  | .sorted => false
  | .dict => false
  | _ => true
theorem bltD_flat {Bl : Blt} (hB : Bl.flat = true) {ds : List D} {d : D} (h : bltD Bl ds = some d) : noLst d = true := by
  unfold bltD at h
  split at h <;> first
    | (exact absurd hB (by decide))
    | (simp only [Option.some.injEq] at h; subst h; rfl)
    | (split at h <;> first | (simp only [Option.some.injEq] at h; subst h; rfl) | (simp only [Option.map_eq_some_iff] at h; obtain ⟨_, _, rfl⟩ := h; rfl) | (exact absurd h (by simp)))
    | (simp only [Option.map_eq_some_iff] at h; obtain ⟨_, _, rfl⟩ := h; rfl)
    | (exact absurd h (by simp))
theorem se_flat {Bl : Blt} (hB : Bl.flat = true) (h : PE X a (liftN P 0 (ev Φ (.blt Bl ES)))) : PE X a (lift P m (ev Φ (.blt Bl ES))) := PE.flat (fun e d q => by
  simp only [ev] at q
  cases q1 : evs Φ ES e with
  | ok xs =>
    rw [q1] at q
    cases q2 : bltD Bl xs with
    | none => simp [q2] at q
    | some y =>
      simp only [Res.bind_ok, q2, Res.of_some, Res.ok.injEq] at q
      subst q
      exact bltD_flat hB q2
  | ex c => rw [q1] at q; simp at q
  | stuck => rw [q1] at q; simp at q) h
theorem binD_flat {op : BOp} {x y : D} (fx : noLst x = true) (fy : noLst y = true) {d : D} (h : binD op x y = some d) : noLst d = true := by
  unfold binD at h
  split at h <;> first
    | (simp only [Option.some.injEq] at h; subst h; rfl)
    | (simp [noLst] at fx; done)
    | (split at h <;> first
        | (simp only [Option.some.injEq] at h; subst h; rfl)
        | (simp only [Option.some.injEq] at h; subst h; simp only [noLst, noLsts, Bool.and_eq_true, List.cons_append] at fx fy ⊢; refine ⟨fx.1, ?_⟩; exact noLsts_append fx.2 fy)
        | (exact absurd h (by simp)))
    | (exact absurd h (by simp))
theorem se_isi (C : Ctx X P N sc) {x y : Str} {p py : Pos} {T : Nat} (hT : T < 5) (hx : x = "isinstance") (hg : X.env.kindOf x = some .globalImplicit) (hm : X.mg x = none)
    (hy : X.env.kindOf y = some .globalImplicit) (hmy : X.mg y = none) (hvy : bootBuiltins y = some (.type (tyN T))) (ha : PE X a (lift P 0 (ev Φ A)))
    (he : starEach [a, .Name y py] X.env = (false, eval a X.env) :: starEach [.Name y py] X.env := by rfl) (hpl : (backTo pos (starEach [.Name y py] X.env)).any (·.1) = false := by rfl)
    (he2 : starEach [.Name y py] X.env = (false, eval (.Name y py) X.env) :: starEach [] X.env := by rfl) (hn : y ≠ ("__name__" : Str) := by decide) (hdb : (y == ("__debug__" : Str)) = false := by decide) :
    PE X (.Call (.Name x p) [a, .Name y py] [] pos) (lift P m (ev Φ (.blt (.isi T) [A]))) := by
  subst hx
  have o := cl_isi (X := X) hT
  rw [C.hK] at o
  refine PE.imp (pe_callB o hg hm (by decide +kernel) (pa_cons ha (pa_cons (pe_bltn hy hmy hvy (v := .ty (tyN T)) rfl hn hdb) pa_nil he2) he) (by decide) (by decide) he hpl) fun σ H Q ⟨e, R, p⟩ => ⟨e, R, ?_⟩
  simp only [ev, evs] at p
  cases q : ev Φ A e with
  | ok d =>
    simp only [q, Res.bind_ok] at p
    refine fun v H1 s hd => ?_
    cases q2 : isiD T d with
    | none => simp only [bltD, q2, Option.map_none, Res.of_none] at p; exact p.elim
    | some b =>
      simp only [bltD, q2, Option.map_some, Res.of_some] at p
      exact ⟨v, _, _, d, b, rfl, hd, q2, p _ H1 s bl_m⟩
  | ex c => simp only [q, Res.bind_ex] at p; exact p
  | stuck => simp only [q, Res.bind_stuck] at p; exact p.elim

/-! ### methods -/
theorem se_m0 (C : Ctx X P N sc) (M : Mth) {o : Expr} {apos : Pos} (hM : M ≠ .get ∧ M ≠ .bits ∧ M ≠ .join) (ho : PE X o (lift P 0 (ev Φ A))) (hb : attributeBase o (mthN M) X.env (eval o X.env) = eval o X.env := by rfl) (hl : (apos.endLine == pos.line) = true := by rfl) :
    PE X (.Call (.Attribute o (mthN M) apos) [] [] pos) (lift P m (ev Φ (.mth M A []))) := by
  have w := pe_str0 (X := X) (pos := pos) M hM ho hb hl
  rw [C.hK] at w
  refine PE.imp w fun σ H Q ⟨e, R, p⟩ => ⟨e, R, ?_⟩
  simp only [ev, evs] at p
  refine Post.weaken (bindZ (α := D) (m := 0) gdPost R p) fun v H1 ⟨x, _, s1, R1, d1, p1⟩ => ?_
  simp only [Res.bind_ok] at p1
  cases x with
  | str z =>
    obtain rfl := d2_str d1
    have e1 : mthD M (.str z) [] = strM M z := by
      cases M with
      | get => exact absurd rfl hM.1
      | bits => exact absurd rfl hM.2.1
      | join => exact absurd rfl hM.2.2
      | _ => rfl
    rw [e1] at p1
    cases q : strM M z with
    | none => rw [q] at p1; exact p1.elim
    | some d => rw [q] at p1; exact ⟨⟨z, rfl⟩, z, rfl, d, rfl, q, fun w hw => p1 w H1 (Same.refl _) (DenM.up (hw.flat2 (strM_flat q)))⟩
  | _ =>
    cases M with
    | get => exact absurd rfl hM.1
    | bits => exact absurd rfl hM.2.1
    | join => exact absurd rfl hM.2.2
    | _ => exact p1.elim
theorem se_bits {o : Expr} {apos : Pos} (ho : PE X o (lift P 0 (ev Φ A))) (hb : attributeBase o "bit_length" X.env (eval o X.env) = eval o X.env := by rfl) (hl : (apos.endLine == pos.line) = true := by rfl) :
    PE X (.Call (.Attribute o "bit_length" apos) [] [] pos) (lift P m (ev Φ (.mth .bits A []))) := by
  refine PE.imp (pe_bits ho hb hl) fun σ H Q ⟨e, R, p⟩ => ⟨e, R, ?_⟩
  simp only [ev, evs] at p
  refine Post.weaken (bindZ (α := D) (m := 0) gdPost R p) fun v H1 ⟨x, _, s1, R1, d1, p1⟩ => ?_
  simp only [Res.bind_ok] at p1
  cases x with
  | int i => exact ⟨i, d2_int d1, p1 _ H1 (Same.refl _) int_m⟩
  | _ => exact p1.elim
theorem se_join (C : Ctx X P N sc) {o : Expr} {apos : Pos} {z : Str} (ho : PE X o (tC (.str z))) (ha : PE X a (lift P 0 (ev Φ B))) (he : starEach [a] X.env = [(false, eval a X.env)] := by rfl) (hb : attributeBase o "join" X.env (eval o X.env) = eval o X.env := by rfl) (hl : (apos.endLine == pos.line) = true := by rfl) :
    PE X (.Call (.Attribute o "join" apos) [a] [] pos) (lift P m (ev Φ (.mth .join (.con (.str z)) [B]))) := by
  refine PE.imp (pe_m1 PySem.F.slot_str_join PySem.F.type_str_join mt_join ho ha he hb hl) fun σ H Q ⟨e, R, p⟩ => ⟨⟨z, rfl⟩, e, R, ?_⟩
  simp only [ev, evs, Res.bind_ok] at p
  cases q : ev Φ B e with
  | ok y =>
    simp only [q, Res.bind_ok] at p
    intro w H2 s2 d2
    cases y with
    | list xs =>
      obtain ⟨b, ys, rfl, hr, dd⟩ := d2_lst d2
      simp only [mthD] at p
      cases q2 : allStrs xs with
      | none => simp only [q2, Option.bind_none, Res.of_none] at p; exact p.elim
      | some l =>
        simp only [q2, Option.bind_some] at p
        by_cases hz : (l.map (·.length)).sum + l.length * z.length ≤ line
        · rw [if_pos hz] at p
          rw [allStrs_of dd q2, ← C.hK] at hr
          exact ⟨z, b, l, rfl, rfl, .inl hr, Nat.le_trans hz (by decide), p _ H2 s2 (DenM.up (.str _))⟩
        · rw [if_neg hz] at p; exact p.elim
    | _ => exact p.elim
  | ex c => simp only [q, Res.bind_ex] at p; exact p
  | stuck => simp only [q, Res.bind_stuck] at p; exact p.elim
end
end Rf

set_option Elab.async false
set_option linter.all false
set_option maxRecDepth 100000
set_option maxHeartbeats 1000000
/-! Rf, part F: how the relation changes; targets, sources. -/
namespace Rf
open PySem PySem.Spec PyProof.Rows L2
section
variable {K : PySem.W.Frag} {av : Addr → Prop} {H : Hp} {a : Addr} {o : HO}
theorem upd_rd (hk : ∀ ys, H a ≠ some (.tup ys)) (hf : ∀ o u, H a ≠ some (.frz o u)) {b : Addr} {ys : List V} (h : Rd H b (.tup ys)) : Rd (upd H a o) b (.tup ys) := by
  have hb : b ≠ a := fun e => by
    subst e
    rcases h with h | ⟨o, h⟩
    · exact hk _ h
    · exact hf _ _ h
  rcases h with h | ⟨o, h⟩
  · exact .inl (by rw [upd_ne hb]; exact h)
  · exact .inr ⟨o, by rw [upd_ne hb]; exact h⟩
theorem upd_rd2 {b : Addr} {u : HO} (hb : b ≠ a) (h : Rd H b u) : Rd (upd H a o) b u := by
  rcases h with h | ⟨o, h⟩
  · exact .inl (by rw [upd_ne hb]; exact h)
  · exact .inr ⟨o, by rw [upd_ne hb]; exact h⟩
mutual
theorem Den.upd (hk : ∀ ys, H a ≠ some (.tup ys)) (hf : ∀ o u, H a ≠ some (.frz o u)) (ha : av a) : ∀ {v : V} {d : D}, Den K av H v d → Den K av (L2.upd H a o) v d
  | _, _, .none => .none
  | _, _, .bool b => .bool b
  | _, _, .int i => .int i
  | _, _, .str x => .str x
  | _, _, .list h n t => .list (n.elim (fun n => h.imp (upd_rd2 fun e => n (e ▸ ha)) id) .inr) n (Dens.upd hk hf ha t)
  | _, _, .tuple h t => .tuple (h.imp (upd_rd hk hf) id) (Dens.upd hk hf ha t)
  | _, _, .dict h n t => .dict (upd_rd2 (fun e => n (e ▸ ha)) h) n (DenKs.upd hk hf ha t)
theorem Dens.upd (hk : ∀ ys, H a ≠ some (.tup ys)) (hf : ∀ o u, H a ≠ some (.frz o u)) (ha : av a) : ∀ {v : List V} {d : List D}, Dens K av H v d → Dens K av (L2.upd H a o) v d
  | _, _, .nil => .nil
  | _, _, .cons x y => .cons (Den.upd hk hf ha x) (Dens.upd hk hf ha y)
theorem DenKs.upd (hk : ∀ ys, H a ≠ some (.tup ys)) (hf : ∀ o u, H a ≠ some (.frz o u)) (ha : av a) : ∀ {v : List (Key × V)} {d : List (D × D)}, DenKs K av H v d → DenKs K av (L2.upd H a o) v d
  | _, _, .nil => .nil
  | _, _, .cons x y => .cons (Den.upd hk hf ha x) (DenKs.upd hk hf ha y)
end
theorem SlotOk.imp {av' : Addr → Prop} (g : ∀ a, H a ≠ none → av' a → av a) : ∀ {s : Slot} {o : Option V}, SlotOk K av H s o → SlotOk K av' H s o
  | .un, _, _ => trivial
  | .d _, _, ⟨v, h, d⟩ => ⟨v, h, d.imp (fun _ _ z => z) g⟩
  | .ol _, _, ⟨a, ys, h, q, d⟩ => ⟨a, ys, h, q, d.imp (fun _ _ z => z) g⟩
  | .od _, _, ⟨a, ys, h, q, d⟩ => ⟨a, ys, h, q, d.imp (fun _ _ z => z) g⟩
end

section
variable {P : Pk} {e : Sl} {σ : L2.St} {H H' : Hp} {i : Nat}
theorem own_set_d {a : Addr} {s : Slot} {o : Option V} (hs : isOwn s = false) (h : Owns (e.set i s) (σ.set i o) a) : Owns e σ a := by
  obtain ⟨j, t, h1, h2, h3⟩ := h
  by_cases hj : i = j
  · subst hj
    rw [List.getElem?_set_self'] at h1
    cases q : e[i]? with
    | none => rw [q] at h1; simp at h1
    | some x => rw [q] at h1; simp only [Option.map_eq_map, Option.map_some, Function.const_apply, Option.some.injEq] at h1; subst h1; rw [hs] at h2; cases h2
  · rw [List.getElem?_set_ne hj] at h1 h3
    exact ⟨j, t, h1, h2, h3⟩
/-- a slot that takes what is not own -/
theorem Rel.set (R : Rel P e σ H) {s : Slot} {o : Option V} (hs : isOwn s = false) (hd : SlotOk P.K (avo P e σ) H s o) : Rel P (e.set i s) (σ.set i o) H where
  len := by rw [List.length_set, List.length_set, R.len]
  slot := fun j t o' h1 h2 => by
    have mono : ∀ b, avo P (e.set i s) (σ.set i o) b → avo P e σ b := fun b z => z.imp id (own_set_d hs)
    by_cases hj : i = j
    · subst hj
      rw [List.getElem?_set_self'] at h1 h2
      cases q : e[i]? with
      | none => rw [q] at h1; simp at h1
      | some x =>
        cases q2 : σ[i]? with
        | none => rw [q2] at h2; simp at h2
        | some y =>
          rw [q] at h1
          rw [q2] at h2
          simp only [Option.map_eq_map, Option.map_some, Function.const_apply, Option.some.injEq] at h1 h2
          subst h1 h2
          exact hd.imp fun a _ => mono a
    · rw [List.getElem?_set_ne hj] at h1 h2
      exact (R.slot j t o' h1 h2).imp fun a _ => mono a
  inj := fun j k s1 s2 a h1 h2 h3 h4 h5 h6 => by
    have get : ∀ {j : Nat} {t : Slot} {p : Option V}, (e.set i s)[j]? = some t → isOwn t = true → (σ.set i o)[j]? = some p → e[j]? = some t ∧ σ[j]? = some p := fun {j t p} h1 h2 h3 => by
      by_cases hj : i = j
      · subst hj
        rw [List.getElem?_set_self'] at h1
        cases q : e[i]? with
        | none => rw [q] at h1; simp at h1
        | some x => rw [q] at h1; simp only [Option.map_eq_map, Option.map_some, Function.const_apply, Option.some.injEq] at h1; subst h1; rw [hs] at h2; cases h2
      · rw [List.getElem?_set_ne hj] at h1 h3
        exact ⟨h1, h3⟩
    obtain ⟨a1, a2⟩ := get h1 h2 h5
    obtain ⟨b1, b2⟩ := get h3 h4 h6
    exact R.inj j k s1 s2 a a1 h2 b1 h4 a2 b2
  fr := R.fr
  new := fun a h => R.new a (own_set_d hs h)
theorem Rel.setD (R : Rel P e σ H) {x : D} {v : V} (hd : Den P.K (avo P e σ) H v x) : Rel P (e.set i (.d x)) (σ.set i (some v)) H := R.set rfl ⟨v, rfl, hd⟩
theorem own_set_new {a p : Addr} {s : Slot} (h : Owns (e.set i s) (σ.set i (some (.ref p))) a) : Owns e σ a ∨ a = p := by
  obtain ⟨j, t, h1, h2, h3⟩ := h
  by_cases hj : i = j
  · subst hj
    rw [List.getElem?_set_self'] at h3
    cases q : σ[i]? with
    | none => rw [q] at h3; simp at h3
    | some x =>
      rw [q] at h3
      simp only [Option.map_eq_map, Option.map_some, Function.const_apply, Option.some.injEq, V.ref.injEq] at h3
      exact .inr h3.symm
  · rw [List.getElem?_set_ne hj] at h1 h3
    exact .inl ⟨j, t, h1, h2, h3⟩
/-- a slot that takes a new list or dict as its own -/
theorem Rel.setNew (R : Rel P e σ H) {s : Slot} {p : Addr} (hp : H p = none) (sm : Same H H') (hs : SlotOk P.K (fun a => avo P e σ a ∨ a = p) H' s (some (.ref p))) : Rel P (e.set i s) (σ.set i (some (.ref p))) H' where
  len := by rw [List.length_set, List.length_set, R.len]
  slot := fun j t o' h1 h2 => by
    have mono : ∀ b, avo P (e.set i s) (σ.set i (some (.ref p))) b → avo P e σ b ∨ b = p := fun b z => z.elim (fun z => .inl (.inl z)) fun z => (own_set_new z).imp .inr id
    by_cases hj : i = j
    · subst hj
      rw [List.getElem?_set_self'] at h1 h2
      cases q : e[i]? with
      | none => rw [q] at h1; simp at h1
      | some x =>
        cases q2 : σ[i]? with
        | none => rw [q2] at h2; simp at h2
        | some y =>
          rw [q] at h1
          rw [q2] at h2
          simp only [Option.map_eq_map, Option.map_some, Function.const_apply, Option.some.injEq] at h1 h2
          subst h1 h2
          exact hs.imp fun a _ => mono a
    · rw [List.getElem?_set_ne hj] at h1 h2
      refine ((R.slot j t o' h1 h2).imp fun a ha z => ?_).same sm
      exact (mono a z).elim id fun z => absurd (z ▸ hp) ha
  inj := fun j k s1 s2 a h1 h2 h3 h4 h5 h6 => by
    have get : ∀ {j : Nat} {t : Slot} {a : Addr}, (e.set i s)[j]? = some t → isOwn t = true → (σ.set i (some (.ref p)))[j]? = some (some (V.ref a)) → (i = j ∧ a = p) ∨ (i ≠ j ∧ e[j]? = some t ∧ σ[j]? = some (some (V.ref a)) ∧ a ≠ p) := fun {j t a} h1 h2 h3 => by
      by_cases hj : i = j
      · subst hj
        rw [List.getElem?_set_self'] at h3
        cases q : σ[i]? with
        | none => rw [q] at h3; simp at h3
        | some x => rw [q] at h3; simp only [Option.map_eq_map, Option.map_some, Function.const_apply, Option.some.injEq, V.ref.injEq] at h3; exact .inl ⟨rfl, h3.symm⟩
      · rw [List.getElem?_set_ne hj] at h1 h3
        exact .inr ⟨hj, h1, h3, fun z => R.own_ne ⟨j, t, h1, h2, h3⟩ (z ▸ hp)⟩
    rcases get h1 h2 h5 with ⟨r1, r2⟩ | ⟨r1, r2, r3, r4⟩ <;> rcases get h3 h4 h6 with ⟨q1, q2⟩ | ⟨q1, q2, q3, q4⟩
    · exact r1.symm.trans q1
    · exact absurd r2 q4
    · exact absurd q2 r4
    · exact R.inj j k s1 s2 a r2 h2 q2 h4 r3 q3
  fr := R.fr.trans sm
  new := fun a h => by
    rcases own_set_new h with h | rfl
    · exact R.new a h
    · cases q : P.H0 a with
      | none => rfl
      | some o => rw [R.fr _ _ q] at hp; cases hp
/-- an own list or dict is changed -/
theorem Rel.updOwn (R : Rel P e σ H) {s s' : Slot} {a : Addr} {o : HO} (h1 : e[i]? = some s) (hs : isOwn s = true) (hs' : isOwn s' = true) (h2 : σ[i]? = some (some (.ref a))) (hd : SlotOk P.K (avo P e σ) (upd H a o) s' (some (.ref a))) : Rel P (e.set i s') σ (upd H a o) := by
  have oa : Owns e σ a := ⟨i, s, h1, hs, h2⟩
  have hkk : (∃ ys, H a = some (.lst ys)) ∨ ∃ ks, H a = some (.dK ks) := by
    have q := R.slot i s _ h1 h2
    cases s with
    | un => cases hs
    | d _ => cases hs
    | ol xs => obtain ⟨b, ys, e1, e2, _⟩ := q; cases e1; exact .inl ⟨_, e2⟩
    | od xs => obtain ⟨b, ys, e1, e2, _⟩ := q; cases e1; exact .inr ⟨_, e2⟩
  have hk : ∀ ys, H a ≠ some (.tup ys) := fun ys z => by rcases hkk with ⟨_, q⟩ | ⟨_, q⟩ <;> rw [q] at z <;> cases z
  have hf : ∀ o u, H a ≠ some (.frz o u) := fun o u z => by rcases hkk with ⟨_, q⟩ | ⟨_, q⟩ <;> rw [q] at z <;> cases z
  have own : ∀ b, Owns (e.set i s') σ b → Owns e σ b := fun b ⟨j, t, q1, q2, q3⟩ => by
    by_cases hj : i = j
    · subst hj; exact ⟨i, s, h1, hs, q3⟩
    · rw [List.getElem?_set_ne hj] at q1; exact ⟨j, t, q1, q2, q3⟩
  have mono : ∀ b, avo P (e.set i s') σ b → avo P e σ b := fun b z => z.imp id (own b)
  refine ⟨by rw [List.length_set]; exact R.len, fun j t o' q1 q2 => ?_, fun j k t1 t2 b q1 q2 q3 q4 q5 q6 => ?_, fun b x q => ?_, fun b z => R.new b (own b z)⟩
  · by_cases hj : i = j
    · subst hj
      rw [List.getElem?_set_self (by rw [← R.len]; exact (List.getElem?_eq_some_iff.mp h2).1)] at q1
      cases q1
      rw [h2] at q2
      cases q2
      exact hd.imp fun b _ => mono b
    · rw [List.getElem?_set_ne hj] at q1
      have q := R.slot j t o' q1 q2
      cases t with
      | un => trivial
      | d x => obtain ⟨v, e1, dd⟩ := q; exact ⟨v, e1, (dd.upd hk hf (.inr oa)).imp (fun _ _ z => z) fun b _ => mono b⟩
      | ol x =>
        obtain ⟨b, ys, e1, e2, dd⟩ := q
        have nb : b ≠ a := fun z => hj (R.inj i j s _ a h1 hs q1 rfl h2 (by rw [q2, e1, z]))
        exact ⟨b, ys, e1, by rw [upd_ne nb]; exact e2, (dd.upd hk hf (.inr oa)).imp (fun _ _ z => z) fun b _ => mono b⟩
      | od x =>
        obtain ⟨b, ys, e1, e2, dd⟩ := q
        have nb : b ≠ a := fun z => hj (R.inj i j s _ a h1 hs q1 rfl h2 (by rw [q2, e1, z]))
        exact ⟨b, ys, e1, by rw [upd_ne nb]; exact e2, (dd.upd hk hf (.inr oa)).imp (fun _ _ z => z) fun b _ => mono b⟩
  · have get : ∀ {j : Nat} {t : Slot}, (e.set i s')[j]? = some t → isOwn t = true → ∃ t', e[j]? = some t' ∧ isOwn t' = true := fun {j t} q1 q2 => by
      by_cases hj : i = j
      · subst hj; exact ⟨s, h1, hs⟩
      · rw [List.getElem?_set_ne hj] at q1; exact ⟨t, q1, q2⟩
    obtain ⟨u1, a1, a2⟩ := get q1 q2
    obtain ⟨u2, b1, b2⟩ := get q3 q4
    exact R.inj j k u1 u2 b a1 a2 b1 b2 q5 q6
  · have nb : b ≠ a := fun z => by rw [z, R.new a oa] at q; cases q
    rw [upd_ne nb]
    exact R.fr _ _ q
/-- own no more -/
theorem Rel.give (R : Rel P e σ H) {xs : List D} (h1 : e[i]? = some (.ol xs)) : Rel P (e.set i (.d (.list xs))) σ H := by
  obtain ⟨o, h2, a, ys, rfl, ha, dd⟩ := R.at h1
  have own : ∀ b, Owns (e.set i (.d (.list xs))) σ b → Owns e σ b ∧ b ≠ a := fun b ⟨j, t, q1, q2, q3⟩ => by
    by_cases hj : i = j
    · subst hj
      rw [List.getElem?_set_self (List.getElem?_eq_some_iff.mp h1).1] at q1
      cases q1; cases q2
    · rw [List.getElem?_set_ne hj] at q1
      exact ⟨⟨j, t, q1, q2, q3⟩, fun z => hj (R.inj i j _ t a h1 rfl q1 q2 h2 (by rw [q3, z]))⟩
  have mono : ∀ b, avo P (e.set i (.d (.list xs))) σ b → avo P e σ b := fun b z => z.imp id fun z => (own b z).1
  refine ⟨by rw [List.length_set]; exact R.len, fun j t o' q1 q2 => ?_, fun j k t1 t2 b q1 q2 q3 q4 q5 q6 => ?_, R.fr, fun b z => R.new b (own b z).1⟩
  · by_cases hj : i = j
    · subst hj
      rw [List.getElem?_set_self (List.getElem?_eq_some_iff.mp h1).1] at q1
      cases q1
      rw [h2] at q2
      cases q2
      refine ⟨_, rfl, .list (.inl (.inl ha)) (.inl fun z => ?_) (dd.imp (fun _ _ z => z) fun b _ => mono b)⟩
      rcases z with z | z
      · exact R.own_av ⟨i, _, h1, rfl, h2⟩ z
      · exact (own _ z).2 rfl
    · rw [List.getElem?_set_ne hj] at q1
      exact (R.slot j t o' q1 q2).imp fun b _ => mono b
  · have get : ∀ {j : Nat} {t : Slot}, (e.set i (.d (.list xs)))[j]? = some t → isOwn t = true → e[j]? = some t := fun {j t} q1 q2 => by
      by_cases hj : i = j
      · subst hj
        rw [List.getElem?_set_self (List.getElem?_eq_some_iff.mp h1).1] at q1
        cases q1; cases q2
      · rw [List.getElem?_set_ne hj] at q1; exact q1
    exact R.inj j k t1 t2 b (get q1 q2) q2 (get q3 q4) q4 q5 q6
theorem wipeS_length : ∀ vs : List Nat, (wipeS e vs).length = e.length
  | [] => rfl
  | v :: vs => by unfold wipeS; rw [List.length_set, wipeS_length vs]
theorem Rel.wipe (R : Rel P e σ H) : ∀ vs : List Nat, Rel P (wipeS e vs) (L2.wipe σ vs) H
  | [] => R
  | v :: vs => (R.wipe vs).set rfl trivial
theorem wipeS_own : ∀ {vs : List Nat} {j : Nat} {t : Slot}, e[j]? = some t → isOwn t = true → freeOf e vs = true → (wipeS e vs)[j]? = some t ∧ (L2.wipe σ vs)[j]? = σ[j]?
  | [], _, _, h, _, _ => ⟨h, rfl⟩
  | v :: vs, j, t, h, ht, hf => by
    unfold freeOf at hf
    simp only [List.all_cons, Bool.and_eq_true] at hf
    obtain ⟨h1, h2⟩ := wipeS_own (vs := vs) h ht hf.2
    have hj : v ≠ j := fun z => by
      subst z
      rw [h] at hf
      simp only [ht] at hf
      exact absurd hf.1 (by decide)
    unfold wipeS L2.wipe
    rw [List.getElem?_set_ne hj, List.getElem?_set_ne hj]
    exact ⟨h1, h2⟩
theorem avo_wipe {vs : List Nat} (hf : freeOf e vs = true) {a : Addr} (h : avo P e σ a) : avo P (wipeS e vs) (L2.wipe σ vs) a := by
  refine h.imp id fun ⟨j, t, h1, h2, h3⟩ => ?_
  obtain ⟨q1, q2⟩ := wipeS_own (σ := σ) h1 h2 hf
  exact ⟨j, t, q1, h2, by rw [q2]; exact h3⟩

/-! ### a later base -/
@[reducible] def Pk.at (P : Pk) (h0 : Hp) (hav : ∀ a, P.Av a → h0 a ≠ none) : Pk := { P with H0 := h0, avok := hav }
open Classical in
/-- the heap without the own ones -/
noncomputable def lessOwn (e : Sl) (σ : L2.St) (H : Hp) : Hp := fun a => if Owns e σ a then none else H a
theorem lessOwn_av (R : Rel P e σ H) : ∀ a, P.Av a → lessOwn e σ H a ≠ none := fun a h => by
  unfold lessOwn
  rw [if_neg fun z => R.own_av z h]
  exact R.av_ne (.inl h)
theorem Rel.into (R : Rel P e σ H) : Rel (P.at (lessOwn e σ H) (lessOwn_av R)) e σ H where
  len := R.len
  slot := R.slot
  inj := R.inj
  fr := fun b o h => by
    have h : lessOwn e σ H b = some o := h
    unfold lessOwn at h
    split at h
    · cases h
    · exact h
  new := fun a h => by
    show lessOwn e σ H a = none
    unfold lessOwn
    rw [if_pos h]
theorem base_same (R : Rel P e σ H) : Same P.H0 (lessOwn e σ H) := fun b o h => by
  unfold lessOwn
  rw [if_neg fun z => by rw [R.new b z] at h; cases h]
  exact R.fr _ _ h
theorem Rel.out (R : Rel P e σ H) {e' : Sl} {σ' : L2.St} (R' : Rel (P.at (lessOwn e σ H) (lessOwn_av R)) e' σ' H') : Rel P e' σ' H' where
  len := R'.len
  slot := R'.slot
  inj := R'.inj
  fr := (base_same R).trans R'.fr
  new := fun a h => by
    have q := R'.new a h
    cases q2 : P.H0 a with
    | none => rfl
    | some o => have := base_same R _ _ q2; rw [show lessOwn e σ H a = none from q] at this; cases this
end

/-! ### statements' ends -/
def PostS (P : Pk) (D : Ends) : Out → Prop
  | .nx e' => ∀ σ' H', Rel P e' σ' H' → D.nx σ' H'
  | .ret x => ∀ v H', Same P.H0 H' → Den P.K P.Av H' v x → D.rt v H'
  | .bk e' => ∀ σ' H', Rel P e' σ' H' → D.bk σ' H'
  | .ct e' => ∀ σ' H', Rel P e' σ' H' → D.ct σ' H'
  | .ex c e' => ∀ σ' H', Rel P e' σ' H' → P.W (.ref (P.ca c)) none σ' H'
  | .stuck => False
def liftS (P : Pk) (f : Sl → Out) : L2.TS := fun D σ H => ∃ e, Rel P e σ H ∧ PostS P D (f e)
theorem PostS.into {P : Pk} {e : Sl} {σ : L2.St} {H : Hp} (R : Rel P e σ H) {D : Ends} : ∀ {o : Out}, PostS P D o → PostS (P.at (lessOwn e σ H) (lessOwn_av R)) D o
  | .nx _, h => fun σ' H' r => h σ' H' (R.out r)
  | .ret _, h => fun v H' s d => h v H' ((base_same R).trans s) d
  | .bk _, h => fun σ' H' r => h σ' H' (R.out r)
  | .ct _, h => fun σ' H' r => h σ' H' (R.out r)
  | .ex _ _, h => fun σ' H' r => h σ' H' (R.out r)
  | .stuck, h => h
theorem gdS {P : Pk} {e : Sl} {σ : L2.St} {D : Ends} : Gd P σ (fun (H : Hp) (r : Res Out) => Rel P e σ H ∧ PostS P D (match r with | .ok o => o | .ex c => .ex c e | .stuck => .stuck)) where
  back := fun s h => ⟨h.1.same s, h.2⟩
  ex := fun h H' s => h.2 σ H' (h.1.same s)
  no := fun h => h.2
theorem PSs.ofAll {ι : Type} {X : Cx} {st : List Stmt} {t : ι → L2.TS} (h : ∀ i, PSs X st (t i)) : PSs X st (fun D σ H => ∃ i, t i D σ H) := ⟨fun pins s σ H D I ⟨i, q⟩ => (h i).run pins s σ H D I q⟩
theorem PE.ofAll {ι : Sort _} {X : Cx} {ex : Expr} {t : ι → L2.TE} (h : ∀ i, PE X ex (t i)) : PE X ex (fun σ H Q => ∃ i, t i σ H Q) := ⟨fun pins s σ H Q I ⟨i, q⟩ => (h i).run pins s σ H Q I q⟩
theorem PTs.ofAll {ι : Sort _} {X : Cx} {ex : List Expr} {t : ι → L2.TT} (h : ∀ i, PTs X ex (t i)) : PTs X ex (fun σ H Q => ∃ i, t i σ H Q) := ⟨fun pins s σ H Q I ⟨i, q⟩ => (h i).run pins s σ H Q I q⟩

/-! ### targets -/
/-- the same but for the places vs -/
def Agr (σ σ1 : L2.St) (vs : List Nat) : Prop := σ1.length = σ.length ∧ ∀ j, j ∉ vs → σ1[j]? = σ[j]?
theorem wipe_in {σ : L2.St} {j : Nat} : ∀ {vs : List Nat}, j ∈ vs → (L2.wipe σ vs)[j]? = if j < σ.length then some none else none
  | v :: vs, h => by
    unfold L2.wipe
    by_cases e : v = j
    · subst e
      rw [List.getElem?_set_self']
      by_cases hl : v < σ.length
      · rw [if_pos hl, List.getElem?_eq_getElem (by rw [L2.wipe_length]; exact hl)]
        rfl
      · rw [if_neg hl, List.getElem?_eq_none (by rw [L2.wipe_length]; omega)]
        rfl
    · rw [List.getElem?_set_ne e]
      exact wipe_in ((List.mem_cons.mp h).resolve_left fun z => e z.symm)
theorem Agr.wipe {σ σ1 : L2.St} {vs : List Nat} (h : Agr σ σ1 vs) : L2.wipe σ1 vs = L2.wipe σ vs := by
  apply List.ext_getElem?
  intro j
  by_cases hj : j ∈ vs
  · rw [wipe_in hj, wipe_in hj, h.1]
  · rw [wipe_out hj, wipe_out hj]
    exact h.2 j hj
mutual
theorem bindT_out : ∀ {t : Tgt} {d : D} {e e1 : Sl}, bindT t d e = some e1 → ∀ j, (j ∉ t.ix → e1[j]? = e[j]?) ∧ (j ∈ t.ix → ∃ x, e1[j]? = some (.d x))
  | .nm i, d, e, e1, h, j => by
    simp only [bindT] at h
    split at h
    · rename_i hl
      simp only [Option.some.injEq] at h
      subst h
      refine ⟨fun hj => ?_, fun hj => ?_⟩
      · rw [List.getElem?_set_ne]
        intro z; exact hj (by rw [z]; exact List.mem_cons_self ..)
      · have : j = i := by simpa [Tgt.ix] using hj
        subst this
        exact ⟨d, List.getElem?_set_self hl⟩
    · cases h
  | .tp ts, d, e, e1, h, j => by
    cases d with
    | tuple xs => exact bindTs_out (by simpa only [bindT] using h) j
    | _ => simp [bindT] at h
theorem bindTs_out : ∀ {ts : List Tgt} {ds : List D} {e e1 : Sl}, bindTs ts ds e = some e1 → ∀ j, (j ∉ Tgt.ixs ts → e1[j]? = e[j]?) ∧ (j ∈ Tgt.ixs ts → ∃ x, e1[j]? = some (.d x))
  | [], [], e, e1, h, j => by
    simp only [bindTs, Option.some.injEq] at h
    subst h
    exact ⟨fun _ => rfl, fun z => by simp [Tgt.ixs] at z⟩
  | t :: ts, x :: xs, e, e1, h, j => by
    simp only [bindTs] at h
    cases q : bindT t x e with
    | none => rw [q] at h; simp at h
    | some e' =>
      rw [q] at h
      have h : bindTs ts xs e' = some e1 := h
      have a := bindT_out q j
      have b := bindTs_out h j
      simp only [Tgt.ixs, List.mem_append, not_or]
      refine ⟨fun z => (b.1 z.2).trans (a.1 z.1), fun z => ?_⟩
      by_cases hj : j ∈ Tgt.ixs ts
      · exact b.2 hj
      · rw [b.1 hj]
        exact a.2 (z.resolve_right hj)
  | [], _ :: _, _, _, h, _ => by simp [bindTs] at h
  | _ :: _, [], _, _, h, _ => by simp [bindTs] at h
end
theorem avo_out {P : Pk} {e e1 : Sl} {σ σ1 : L2.St} {vs : List Nat} (g : Agr σ σ1 vs) (h1 : ∀ j, j ∉ vs → e1[j]? = e[j]?) (h2 : ∀ j, j ∈ vs → ∃ x, e1[j]? = some (.d x)) {a : Addr} (h : avo P e1 σ1 a) : avo P e σ a := by
  refine h.imp id fun ⟨j, t, q1, q2, q3⟩ => ?_
  by_cases hj : j ∈ vs
  · obtain ⟨x, z⟩ := h2 j hj
    rw [q1] at z
    cases z
    cases q2
  · exact ⟨j, t, by rw [← h1 j hj]; exact q1, q2, by rw [← g.2 j hj]; exact q3⟩
def liftG (K : PySem.W.Frag) (t : Tgt) : L2.TG := fun v σ H Q => ∃ (P : Pk) (e : Sl) (d : D) (e1 : Sl), P.K = K ∧ Rel P e σ H ∧ Den P.K (avo P e σ) H v d ∧ bindT t d e = some e1 ∧ ∀ σ1, Rel P e1 σ1 H → Agr σ σ1 t.ix → Q σ1 H
def liftGs (K : PySem.W.Frag) (ts : List Tgt) : L2.TGs := fun vs σ H Q => ∃ (P : Pk) (e : Sl) (ds : List D) (e1 : Sl), P.K = K ∧ Rel P e σ H ∧ Dens P.K (avo P e σ) H vs ds ∧ bindTs ts ds e = some e1 ∧ ∀ σ1, Rel P e1 σ1 H → Agr σ σ1 (Tgt.ixs ts) → Q σ1 H
theorem PG.imp {X : Cx} {ex : Expr} {t t' : L2.TG} (h : PG X ex t) (i : ∀ v σ H Q, t' v σ H Q → t v σ H Q) : PG X ex t' := ⟨fun pins s σ H v u Q I r q => h.run pins s σ H v u Q I r (i _ _ _ _ q)⟩
theorem PGs.imp {X : Cx} {ex : List Expr} {t t' : L2.TGs} (h : PGs X ex t) (i : ∀ v σ H Q, t' v σ H Q → t v σ H Q) : PGs X ex t' := ⟨fun pins s σ H v u Q I r q => h.run pins s σ H v u Q I r (i _ _ _ _ q)⟩
section
variable {X : Cx} {K : PySem.W.Frag} {N : List Str} {pos : Pos}
theorem sg_nm (hN : X.N = N) (nd : N.Nodup) {i : Nat} {x : Str} (hi : N[i]? = some x) (hx : Loc X.env.scope x) (hf : X.fn x = true ∨ X.env.scope.names.lookup x = some .local) : PG X (.Name x pos) (liftG K (.nm i)) := by
  refine PG.imp (pg_name (i := i) (by rw [hN]; exact nd) (by rw [hN]; exact hi) hx hf) fun v σ H Q ⟨P, e, d, e1, hK, R, hd, hb, q⟩ => ?_
  simp only [bindT] at hb
  split at hb
  · simp only [Option.some.injEq] at hb
    subst hb
    exact q _ (R.setD hd) ⟨List.length_set .., fun j hj => List.getElem?_set_ne fun z => hj (by rw [z]; exact List.mem_cons_self ..)⟩
  · cases hb
theorem sgs_nil : PGs X [] (liftGs K []) := PGs.imp pgs_nil fun vs σ H Q ⟨P, e, d, e1, hK, R, hd, hb, q⟩ => by
  cases d with
  | nil =>
    cases hd
    simp only [bindTs, Option.some.injEq] at hb
    subst hb
    exact ⟨rfl, q _ R ⟨rfl, fun _ _ => rfl⟩⟩
  | cons x d => simp [bindTs] at hb
theorem sgs_cons {a : Expr} {es : List Expr} {t : Tgt} {ts : List Tgt} (h1 : PG X a (liftG K t)) (h2 : PGs X es (liftGs K ts)) (hs : (assignEach (a :: es) X.env).map (·.2) = assign a X.env :: (assignEach es X.env).map (·.2) := by rfl) : PGs X (a :: es) (liftGs K (t :: ts)) := by
  refine PGs.imp (pgs_cons h1 h2 hs) fun vs σ H Q ⟨P, e, d, e1, hK, R, hd, hb, q⟩ => ?_
  cases hd with
  | nil => simp [bindTs] at hb
  | @cons v x vs xs hd hr =>
    simp only [bindTs] at hb
    cases q1 : bindT t x e with
    | none => rw [q1] at hb; simp at hb
    | some e' =>
      rw [q1] at hb
      have hb : bindTs ts xs e' = some e1 := hb
      refine ⟨_, _, rfl, P, e, x, e', hK, R, hd, q1, fun σ1 R1 g1 => ?_⟩
      have sm := bindT_out q1
      refine ⟨P, e', xs, e1, hK, R1, hr.imp (fun _ _ z => z) (fun b _ z => avo_out g1 (fun j => (sm j).1) (fun j => (sm j).2) z), hb, fun σ2 R2 g2 => q σ2 R2 ⟨g2.1.trans g1.1, fun j hj => ?_⟩⟩
      simp only [Tgt.ixs, List.mem_append, not_or] at hj
      exact (g2.2 j hj.2).trans (g1.2 j hj.1)
theorem bindTs_len : ∀ {ts : List Tgt} {ds : List D} {e e1 : Sl}, bindTs ts ds e = some e1 → ds.length = ts.length
  | [], [], _, _, _ => rfl
  | t :: ts, x :: xs, e, e1, h => by
    simp only [bindTs] at h
    cases q : bindT t x e with
    | none => rw [q] at h; simp at h
    | some e' => rw [q] at h; exact congrArg (· + 1) (bindTs_len (show bindTs ts xs e' = some e1 from h))
  | [], _ :: _, _, _, h => by simp [bindTs] at h
  | _ :: _, [], _, _, h => by simp [bindTs] at h
theorem sg_tp (hc : X.calm = true) (hK : X.K = K) {es : List Expr} {k : Nat} {ts : List Tgt} (h : PGs X es (liftGs K ts)) (hn : (assignEach es X.env).length = ts.length := by rfl) (hst : (assignEach es X.env).findIdx? (·.1) = none := by rfl) : PG X (.Tuple es k pos) (liftG K (.tp ts)) := by
  refine PG.imp (pg_tup hc h hn hst) fun v σ H Q ⟨P, e, d, e1, hK', R, hd, hb, q⟩ => ?_
  cases d with
  | tuple xs =>
    simp only [bindT] at hb
    cases hd with
    | tuple hq ht =>
      refine ⟨_, _, rfl, by rw [hK, ← hK']; exact hq, by rw [ht.length]; exact bindTs_len hb, P, e, xs, e1, hK', R, ht, hb, q⟩
  | _ => simp [bindT] at hb
end
end Rf

set_option Elab.async false
set_option linter.all false
set_option maxRecDepth 100000
set_option maxHeartbeats 1000000
/-! Rf, part G: what is walked; comprehensions. -/
namespace Rf
open PySem PySem.Spec PyProof.Rows L2
section
variable {K : PySem.W.Frag} {av ow : Addr → Prop} {H H' : Hp}
mutual
theorem Den.keep (hw : ∀ b, ow b → av b) (ht : ∀ b, ow b → (∀ ys, H b ≠ some (.tup ys)) ∧ ∀ o u, H b ≠ some (.frz o u)) (kp : ∀ b o, H b = some o → ¬ ow b → H' b = some o) : ∀ {v : V} {d : D}, Den K av H v d → Den K (fun a => av a ∨ H a = none) H' v d
  | _, _, .none => .none
  | _, _, .bool b => .bool b
  | _, _, .int i => .int i
  | _, _, .str x => .str x
  | _, _, .list h n t => .list (n.elim (fun n => h.imp (fun h => h.imp (fun q => kp _ _ q fun z => n (hw _ z)) fun ⟨o, q⟩ => ⟨o, kp _ _ q fun z => n (hw _ z)⟩) id) .inr) (n.elim (fun n => h.elim (fun h => .inl fun z => z.elim n (rd_ne h)) .inr) .inr) (Dens.keep hw ht kp t)
  | _, _, .tuple h t => .tuple (h.imp (fun h => h.imp (fun q => kp _ _ q fun z => (ht _ z).1 _ q) fun ⟨o, q⟩ => ⟨o, kp _ _ q fun z => (ht _ z).2 _ _ q⟩) id) (Dens.keep hw ht kp t)
  | _, _, .dict h n t => .dict (h.imp (fun q => kp _ _ q fun z => n (hw _ z)) fun ⟨o, q⟩ => ⟨o, kp _ _ q fun z => n (hw _ z)⟩) (fun z => z.elim n (rd_ne h)) (DenKs.keep hw ht kp t)
theorem Dens.keep (hw : ∀ b, ow b → av b) (ht : ∀ b, ow b → (∀ ys, H b ≠ some (.tup ys)) ∧ ∀ o u, H b ≠ some (.frz o u)) (kp : ∀ b o, H b = some o → ¬ ow b → H' b = some o) : ∀ {v : List V} {d : List D}, Dens K av H v d → Dens K (fun a => av a ∨ H a = none) H' v d
  | _, _, .nil => .nil
  | _, _, .cons x y => .cons (Den.keep hw ht kp x) (Dens.keep hw ht kp y)
theorem DenKs.keep (hw : ∀ b, ow b → av b) (ht : ∀ b, ow b → (∀ ys, H b ≠ some (.tup ys)) ∧ ∀ o u, H b ≠ some (.frz o u)) (kp : ∀ b o, H b = some o → ¬ ow b → H' b = some o) : ∀ {v : List (Key × V)} {d : List (D × D)}, DenKs K av H v d → DenKs K (fun a => av a ∨ H a = none) H' v d
  | _, _, .nil => .nil
  | _, _, .cons x y => .cons (Den.keep hw ht kp x) (DenKs.keep hw ht kp y)
end
/-- an iterator that walks its -/
def ItOk (K : PySem.W.Frag) (av ow : Addr → Prop) (H : Hp) (J : It) (its : List D) : Prop :=
  ∀ i H', (∀ b o, H b = some o → ¬ ow b → H' b = some o) → (i < its.length → J.go i H') ∧ (its.length ≤ i → J.stop i H') ∧ ∀ x H'', J.yld i H' x H'' → ∀ d, its[i]? = some d → Same H' H'' ∧ Den K (fun a => av a ∨ H a = none) H'' x d
end
theorem Rel.kinds {P : Pk} {e : Sl} {σ : L2.St} {H : Hp} (R : Rel P e σ H) : ∀ b, Owns e σ b → (∀ ys, H b ≠ some (.tup ys)) ∧ ∀ o u, H b ≠ some (.frz o u) := fun b ⟨i, s, h1, hs, h2⟩ => by
  have q := R.slot i s _ h1 h2
  cases s with
  | un => cases hs
  | d _ => cases hs
  | ol xs => obtain ⟨c, ys, e1, e2, _⟩ := q; cases e1; exact ⟨fun _ z => by (rw [e2] at z; cases z), fun _ _ z => by (rw [e2] at z; cases z)⟩
  | od xs => obtain ⟨c, ys, e1, e2, _⟩ := q; cases e1; exact ⟨fun _ z => by (rw [e2] at z; cases z), fun _ _ z => by (rw [e2] at z; cases z)⟩
def PostI (P : Pk) (e : Sl) (σ : L2.St) (H : Hp) (Q : It → Hp → Prop) : Res (List D) → Prop
  | .ok its => ∀ J H', Same H H' → ItOk P.K (avo P e σ) (Owns e σ) H' J its → Q J H'
  | .ex c => ∀ H', Same H H' → P.W (.ref (P.ca c)) none σ H'
  | .stuck => False
def liftI (P : Pk) (f : Sl → Res (List D)) : L2.TI := fun σ H Q => ∃ e, Rel P e σ H ∧ PostI P e σ H Q (f e)
def srcs (Φ : FT) (k : SrcK) (ES : List Exp) (e : Sl) : Res (List D) := (evs Φ ES e).bind fun xs => Res.of (srcD k xs)
theorem PI.imp {X : Cx} {tg ex : Expr} {t t' : L2.TI} (h : PI X tg ex t) (i : ∀ σ H Q, t' σ H Q → t σ H Q) : PI X tg ex t' := ⟨fun pins s σ H Q I q => h.run pins s σ H Q I (i _ _ _ q)⟩
theorem gdI {P : Pk} {e : Sl} {σ : L2.St} {Q : It → Hp → Prop} : Gd P σ (fun H r => PostI P e σ H Q r) := ⟨fun {H H' r} s h => match r, h with
  | .ok _, h => fun v H2 s2 d => h v H2 (s.trans s2) d
  | .ex _, h => fun H2 s2 => h H2 (s.trans s2)
  | .stuck, h => h, fun h => h, fun h => h⟩
section
variable {X : Cx} {P : Pk} {N : List Str} {sc : Scope} {m : Nat} {Φ : FT} {A B E : Exp} {ES : List Exp} {a b c tg : Expr} {es : List Expr} {pos : Pos}
theorem rd_keep {ow : Addr → Prop} {H H' : Hp} {l : Addr} {u : HO} (kp : ∀ b o, H b = some o → ¬ ow b → H' b = some o) (n : ¬ ow l) (h : Rd H l u) : Rd H' l u := h.imp (fun q => kp _ _ q n) fun ⟨o, q⟩ => ⟨o, kp _ _ q n⟩
theorem sqt_keep {K : PySem.W.Frag} {ow : Addr → Prop} {H H' : Hp} {l : Addr} {us : List V} (ht : ∀ b, ow b → (∀ ys, H b ≠ some (.tup ys)) ∧ ∀ o u, H b ≠ some (.frz o u)) (kp : ∀ b o, H b = some o → ¬ ow b → H' b = some o) (h : SqT K H l us) : SqT K H' l us :=
  h.imp (fun h => h.imp (fun q => kp _ _ q fun z => (ht _ z).1 _ q) fun ⟨o, q⟩ => ⟨o, kp _ _ q fun z => (ht _ z).2 _ _ q⟩) id
theorem it_list {K : PySem.W.Frag} {av ow : Addr → Prop} {H : Hp} {l : Addr} {us : List V} {ds : List D} (hw : ∀ b, ow b → av b) (ht : ∀ b, ow b → (∀ ys, H b ≠ some (.tup ys)) ∧ ∀ o u, H b ≠ some (.frz o u)) (n : ¬ av l ∨ KLst K l us) (h : SqL K H l us) (hd : Dens K av H us ds) : ItOk K av ow H (Itl K l) ds := fun i H' kp => by
  have h' : SqL K H' l us := n.elim (fun n => h.imp (rd_keep kp fun z => n (hw _ z)) id) .inr
  have hl := hd.length
  refine ⟨fun hi => ⟨us, us[i], h', List.getElem?_eq_getElem (by omega)⟩, fun hi => ⟨us, h', by omega⟩, fun x H'' y d hdd => ?_⟩
  obtain ⟨rfl, y⟩ := y
  refine ⟨Same.refl _, ?_⟩
  obtain ⟨d', e1, e2⟩ := hd.get (y us h')
  rw [hdd] at e1
  cases e1
  exact e2.keep hw ht kp
theorem it_tup {K : PySem.W.Frag} {av ow : Addr → Prop} {H : Hp} {l : Addr} {us : List V} {ds : List D} (hw : ∀ b, ow b → av b) (ht : ∀ b, ow b → (∀ ys, H b ≠ some (.tup ys)) ∧ ∀ o u, H b ≠ some (.frz o u)) (h : SqT K H l us) (hd : Dens K av H us ds) : ItOk K av ow H (Itt K l) ds := fun i H' kp => by
  have h' := sqt_keep ht kp h
  have hl := hd.length
  refine ⟨fun hi => ⟨us, us[i], h', List.getElem?_eq_getElem (by omega)⟩, fun hi => ⟨us, h', by omega⟩, fun x H'' y d hdd => ?_⟩
  obtain ⟨rfl, y⟩ := y
  refine ⟨Same.refl _, ?_⟩
  obtain ⟨d', e1, e2⟩ := hd.get (y us h')
  rw [hdd] at e1
  cases e1
  exact e2.keep hw ht kp
theorem ow_av {e : Sl} {σ : L2.St} : ∀ b, Owns e σ b → avo P e σ b := fun _ z => .inr z
theorem si_lst (C : Ctx X P N sc) (ha : PE X a (lift P 2 (ev Φ A))) : PI X tg a (liftI P (srcs Φ .lst [A])) := by
  refine PI.imp (pi_list ha) fun σ H Q ⟨e, R, p⟩ => ⟨e, R, ?_⟩
  unfold srcs at p
  cases q : ev Φ A e with
  | ok d =>
    simp only [evs, q, Res.bind_ok] at p
    intro v H1 s hd
    cases d with
    | list ds =>
      obtain ⟨l, us, rfl, h1, h2, h3⟩ := hd
      exact ⟨l, rfl, ⟨us, by rw [C.hK]; exact h1⟩, by rw [C.hK]; exact p _ H1 s (it_list ow_av (R.same s).kinds h2 h1 h3)⟩
    | _ => exact p.elim
  | ex c => simp only [evs, q, Res.bind_ex] at p; exact p
  | stuck => simp only [evs, q, Res.bind_stuck] at p; exact p.elim
theorem si_tup (C : Ctx X P N sc) (ha : PE X a (lift P 2 (ev Φ A))) : PI X tg a (liftI P (srcs Φ .tup [A])) := by
  refine PI.imp (pi_tup ha) fun σ H Q ⟨e, R, p⟩ => ⟨e, R, ?_⟩
  unfold srcs at p
  cases q : ev Φ A e with
  | ok d =>
    simp only [evs, q, Res.bind_ok] at p
    intro v H1 s hd
    cases d with
    | tuple ds =>
      obtain ⟨l, us, rfl, h1, h3⟩ := d2_tup hd
      exact ⟨l, rfl, ⟨us, by rw [C.hK]; exact h1⟩, by rw [C.hK]; exact p _ H1 s (it_tup ow_av (R.same s).kinds h1 h3)⟩
    | _ => exact p.elim
  | ex c => simp only [evs, q, Res.bind_ex] at p; exact p
  | stuck => simp only [evs, q, Res.bind_stuck] at p; exact p.elim
theorem si_str (ha : PE X a (lift P 0 (ev Φ A))) : PI X tg a (liftI P (srcs Φ .str [A])) := by
  refine PI.imp (pi_str ha) fun σ H Q ⟨e, R, p⟩ => ⟨e, R, ?_⟩
  unfold srcs at p
  cases q : ev Φ A e with
  | ok d =>
    simp only [evs, q, Res.bind_ok] at p
    intro v H1 s hd
    cases d with
    | str z =>
      obtain rfl := d2_str hd
      refine ⟨z, rfl, p _ H1 s fun i H' kp => ?_⟩
      have hl : (z.cps.toList.map fun c => PyData.str (S [c])).length = z.cps.size := by simp
      refine ⟨fun hi => by rw [hl] at hi; exact hi, fun hi => by rw [hl] at hi; exact hi, fun x H'' y d hdd => ?_⟩
      obtain ⟨rfl, c, hc, rfl⟩ := y
      refine ⟨Same.refl _, ?_⟩
      rw [List.getElem?_map, Array.getElem?_toList, hc] at hdd
      simp only [Option.map_some, Option.some.injEq] at hdd
      subst hdd
      exact .str _
    | _ => exact p.elim
  | ex c => simp only [evs, q, Res.bind_ex] at p; exact p
  | stuck => simp only [evs, q, Res.bind_stuck] at p; exact p.elim
theorem it_rng {K : PySem.W.Frag} {av ow : Addr → Prop} {H : Hp} (lo : Int) (n : Nat) : ItOk K av ow H (Itr lo n) (rngD lo n) := fun i H' kp => by
  have hl : (rngD lo n).length = n := by simp [rngD]
  refine ⟨fun hi => by rw [hl] at hi; exact hi, fun hi => by rw [hl] at hi; exact hi, fun x H'' y d hdd => ?_⟩
  obtain ⟨rfl, rfl⟩ := y
  refine ⟨Same.refl _, ?_⟩
  unfold rngD at hdd
  rw [List.getElem?_map] at hdd
  cases q : (List.range n)[i]? with
  | none => rw [q] at hdd; cases hdd
  | some j =>
    rw [q] at hdd
    have : j = i := by
      have := List.getElem?_eq_some_iff.mp q
      obtain ⟨h, e⟩ := this
      rw [List.getElem_range] at e
      exact e.symm
    subst this
    simp only [Option.map_some, Option.some.injEq] at hdd
    subst hdd
    exact .int _
theorem si_rng1 {p pos : Pos} (hg : X.env.kindOf "range" = some .globalImplicit) (hm : X.mg "range" = none) (ha : PA X [a] (lifts P 0 (evs Φ [A]))) (hs : starEach [a] X.env = [(false, eval a X.env)] := by rfl) :
    PI X tg (.Call (.Name "range" p) [a] [] pos) (liftI P (srcs Φ .rng [A])) := by
  refine PI.imp (pi_range1 hg hm ha hs) fun σ H Q ⟨e, R, p⟩ => ⟨e, R, ?_⟩
  refine Posts.weaken (bindZs (m := 0) (gdI) R p) fun vs H1 ⟨xs, hx, s1, R1, d1, p1⟩ => ?_
  have hlen := evs_len hx
  match xs, hlen with
  | [x], _ =>
    match vs, d1 with
    | [v], d1 =>
      cases x with
      | int n =>
        simp only [srcD] at p1
        split at p1
        · rename_i hr
          obtain rfl := d2_int d1.1
          exact ⟨n, rfl, hr.1, hr.2, p1 _ H1 (Same.refl _) (it_rng 0 n.toNat)⟩
        · exact p1.elim
      | _ => exact p1.elim
theorem si_rng2 {p pos : Pos} (hg : X.env.kindOf "range" = some .globalImplicit) (hm : X.mg "range" = none) (ha : PA X [a, b] (lifts P 0 (evs Φ [A, B]))) (hs : starEach [a, b] X.env = [(false, eval a X.env), (false, eval b X.env)] := by rfl) (hs2 : starEach [b] X.env = [(false, eval b X.env)] := by rfl) :
    PI X tg (.Call (.Name "range" p) [a, b] [] pos) (liftI P (srcs Φ .rng [A, B])) := by
  refine PI.imp (pi_range2 hg hm ha hs hs2) fun σ H Q ⟨e, R, p⟩ => ⟨e, R, ?_⟩
  refine Posts.weaken (bindZs (m := 0) (gdI) R p) fun vs H1 ⟨xs, hx, s1, R1, d1, p1⟩ => ?_
  have hlen := evs_len hx
  match xs, hlen with
  | [x, y], _ =>
    match vs, d1 with
    | [v, w], d1 =>
      cases x with
      | int i =>
        cases y with
        | int j =>
          simp only [srcD] at p1
          split at p1
          · rename_i hr
            obtain rfl := d2_int d1.1
            obtain rfl := d2_int d1.2.1
            exact ⟨i, j, rfl, hr, p1 _ H1 (Same.refl _) (it_rng i (j - i).toNat)⟩
          · exact p1.elim
        | _ => exact p1.elim
      | _ => exact p1.elim

theorem zip_len : ∀ {xs ys : List D}, (zipD xs ys).length = min xs.length ys.length
  | [], _ => by simp [zipD]
  | _ :: _, [] => by simp [zipD]
  | x :: xs, y :: ys => by simp only [zipD, List.length_cons, zip_len]; omega
theorem zip_get : ∀ {xs ys : List D} {i : Nat} {d : D}, (zipD xs ys)[i]? = some d → ∃ x y, xs[i]? = some x ∧ ys[i]? = some y ∧ d = .tuple [x, y]
  | [], _, _, _, h => by simp [zipD] at h
  | _ :: _, [], _, _, h => by simp [zipD] at h
  | x :: xs, y :: ys, 0, d, h => by simp only [zipD, List.getElem?_cons_zero, Option.some.injEq] at h; exact ⟨x, y, rfl, rfl, h.symm⟩
  | x :: xs, y :: ys, i + 1, d, h => by simp only [zipD, List.getElem?_cons_succ] at h ⊢; exact zip_get h
theorem si_zip (C : Ctx X P N sc) {p tpos : Pos} {elts : List Expr} {kk : Nat} (hg : X.env.kindOf "zip" = some .globalImplicit) (hm : X.mg "zip" = none) (ha : PA X [a, b] (lifts P 2 (evs Φ [A, B]))) (hs : starEach [a, b] X.env = (false, eval a X.env) :: starEach [b] X.env := by rfl) (hpl : (backTo pos (starEach [b] X.env)).any (·.1) = false := by rfl) :
    PI X (.Tuple elts kk tpos) (.Call (.Name "zip" p) [a, b] [] pos) (liftI P (srcs Φ .zip [A, B])) := by
  refine PI.imp (RZ.pi_zipA hg hm ha hs hpl) fun σ H Q ⟨e, R, p⟩ => ⟨e, R, ?_⟩
  refine Posts.weaken (bindZs (m := 2) (gdI) R p) fun vs H1 ⟨xs, hx, s1, R1, d1, p1⟩ => ?_
  have hlen := evs_len hx
  match xs, hlen with
  | [x, y], _ =>
    match vs, d1 with
    | [v, w], d1 =>
      have fin : ∀ {T : Addr} {H' : Hp} {x1 y1 : V} {x2 y2 : D}, H' T = none → Den P.K (fun a => avo P e σ a ∨ H1 a = none) H' x1 x2 → Den P.K (fun a => avo P e σ a ∨ H1 a = none) H' y1 y2 → Same H' (upd H' T (.tup [x1, y1])) ∧ Den P.K (fun a => avo P e σ a ∨ H1 a = none) (upd H' T (.tup [x1, y1])) (.ref T) (.tuple [x2, y2]) := fun {T H' x1 y1 x2 y2} nT hx hy =>
        ⟨same_upd nT, .tuple (.inl (.inl upd_same)) (.cons (hx.same (same_upd nT)) (.cons (hy.same (same_upd nT)) .nil))⟩
      cases x with
      | list xs =>
        cases y with
        | list ys =>
          obtain ⟨l, us, rfl, h1, h2, h3⟩ := d1.1
          obtain ⟨k, ws, rfl, g1, g2, g3⟩ := d1.2.1
          suffices io : ItOk P.K (avo P e σ) (Owns e σ) H1 (Itz P.K l k) (zipD xs ys) from ⟨l, k, us, ws, rfl, .inl ⟨by rw [C.hK]; exact h1, by rw [C.hK]; exact g1, by rw [C.hK]; exact p1 _ H1 (Same.refl _) io⟩⟩
          intro i H' kp
          have h' : SqL P.K H' l us := h2.elim (fun n => h1.imp (rd_keep kp fun z => n (.inr z)) id) .inr
          have g' : SqL P.K H' k ws := g2.elim (fun n => g1.imp (rd_keep kp fun z => n (.inr z)) id) .inr
          have hl := h3.length
          have gl := g3.length
          refine ⟨fun hi => ?_, fun hi => ?_, fun x H'' y d hdd => ?_⟩
          · rw [zip_len] at hi
            exact ⟨us, ws, us[i], ws[i], h', g', List.getElem?_eq_getElem (by omega), List.getElem?_eq_getElem (by omega)⟩
          · rw [zip_len] at hi
            exact ⟨us, ws, h', g', by omega⟩
          · obtain ⟨T, x1, y1, rfl, nT, rfl, f1, f2⟩ := y
            obtain ⟨x2, y2, e1, e2, rfl⟩ := zip_get hdd
            obtain ⟨x2', r1, r2⟩ := h3.get (f1 us h')
            obtain ⟨y2', q1, q2⟩ := g3.get (f2 ws g')
            rw [e1] at r1; cases r1
            rw [e2] at q1; cases q1
            exact fin nT (r2.keep ow_av R1.kinds kp) (q2.keep ow_av R1.kinds kp)
        | _ => exact p1.elim
      | tuple xs =>
        cases y with
        | tuple ys =>
          obtain ⟨l, us, rfl, h1, h3⟩ := d2_tup d1.1
          obtain ⟨k, ws, rfl, g1, g3⟩ := d2_tup d1.2.1
          suffices io : ItOk P.K (avo P e σ) (Owns e σ) H1 (RZ.ItzT P.K l k) (zipD xs ys) from ⟨l, k, us, ws, rfl, .inr ⟨by rw [C.hK]; exact h1, by rw [C.hK]; exact g1, by rw [C.hK]; exact p1 _ H1 (Same.refl _) io⟩⟩
          intro i H' kp
          have h' := sqt_keep R1.kinds kp h1
          have g' := sqt_keep R1.kinds kp g1
          have hl := h3.length
          have gl := g3.length
          refine ⟨fun hi => ?_, fun hi => ?_, fun x H'' y d hdd => ?_⟩
          · rw [zip_len] at hi
            exact ⟨us, ws, us[i], ws[i], h', g', List.getElem?_eq_getElem (by omega), List.getElem?_eq_getElem (by omega)⟩
          · rw [zip_len] at hi
            exact ⟨us, ws, h', g', by omega⟩
          · obtain ⟨T, x1, y1, rfl, nT, rfl, f1, f2⟩ := y
            obtain ⟨x2, y2, e1, e2, rfl⟩ := zip_get hdd
            obtain ⟨x2', r1, r2⟩ := h3.get (f1 us h')
            obtain ⟨y2', q1, q2⟩ := g3.get (f2 ws g')
            rw [e1] at r1; cases r1
            rw [e2] at q1; cases q1
            exact fin nT (r2.keep ow_av R1.kinds kp) (q2.keep ow_av R1.kinds kp)
        | _ => exact p1.elim
      | _ => exact p1.elim

/-! ### comprehensions -/
/-- the pack of a block: Av more, no exception -/
@[reducible] def Pk.blk (P : Pk) (av : Addr → Prop) (h0 : Hp) (hav : ∀ a, av a → h0 a ≠ none) : Pk := { K := P.K, H0 := h0, Av := av, avok := hav, W := fun _ _ _ _ => False, ca := P.ca }
def liftTs (P : Pk) (f : Sl → Res Bool) : L2.TT := fun σ H Q => ∃ e, Rel P e σ H ∧ match f e with
  | .ok b => ∀ H', Same H H' → Q b H'
  | .ex c => ∀ H', Same H H' → P.W (.ref (P.ca c)) none σ H'
  | .stuck => False
theorem sf_nil : PTs X [] (liftTs P (evt Φ [])) := ⟨fun pins s σ H Q I ⟨e, R, p⟩ => by
  simp only [evt] at p
  exact (pts_nil (X := X)).run pins s σ H Q I (p H (Same.refl _))⟩
theorem sf_one (ha : PT X a (liftT P (ev Φ A))) : PTs X [a] (liftTs P (evt Φ [A])) := ⟨fun pins s σ H Q I ⟨e, R, p⟩ => (pts_one ha).run pins s σ H Q I ⟨e, R, by
  simp only [evt] at p
  cases q : ev Φ A e with
  | ok d =>
    simp only [q, Res.bind_ok] at p
    cases d with
    | bool k => cases k <;> exact p
    | _ => exact p.elim
  | ex c => simp only [q, Res.bind_ex] at p; exact p
  | stuck => simp only [q, Res.bind_stuck] at p⟩⟩
theorem compL_len {f : Sl → Res D} {g : Sl → Res Bool} {t : Tgt} {e : Sl} : ∀ {its zs : List D}, compL f g t its e = .ok zs → zs.length ≤ its.length
  | [], zs, h => by simp only [compL, Res.ok.injEq] at h; subst h; exact Nat.le_refl _
  | x :: its, zs, h => by
    simp only [compL] at h
    cases q1 : bindT t x e with
    | none => simp [q1] at h
    | some e1 =>
      simp only [q1] at h
      cases q2 : g e1 with
      | ok b =>
        simp only [q2, Res.bind_ok] at h
        cases b with
        | true =>
          rw [if_pos rfl] at h
          cases q3 : f e1 with
          | ok y =>
            simp only [q3, Res.bind_ok] at h
            cases q4 : compL f g t its e with
            | ok ys => simp only [q4, Res.bind_ok, Res.ok.injEq] at h; subst h; have := compL_len q4; simp only [List.length_cons]; omega
            | ex c => simp [q4] at h
            | stuck => simp [q4] at h
          | ex c => simp [q3] at h
          | stuck => simp [q3] at h
        | false => rw [if_neg (by decide)] at h; have := compL_len h; simp only [List.length_cons]; omega
      | ex c => simp [q2] at h
      | stuck => simp [q2] at h
/-- one turn -/
theorem compL_cons {f : Sl → Res D} {g : Sl → Res Bool} {t : Tgt} {e : Sl} {x : D} {its zs : List D} (h : compL f g t (x :: its) e = .ok zs) :
    ∃ e1 b, bindT t x e = some e1 ∧ g e1 = .ok b ∧ ((b = true ∧ ∃ y ys, f e1 = .ok y ∧ compL f g t its e = .ok ys ∧ zs = y :: ys) ∨ (b = false ∧ compL f g t its e = .ok zs)) := by
  simp only [compL] at h
  cases q1 : bindT t x e with
  | none => simp [q1] at h
  | some e1 =>
    simp only [q1] at h
    cases q2 : g e1 with
    | ok b =>
      simp only [q2, Res.bind_ok] at h
      cases b with
      | true =>
        rw [if_pos rfl] at h
        cases q3 : f e1 with
        | ok y =>
          simp only [q3, Res.bind_ok] at h
          cases q4 : compL f g t its e with
          | ok ys => simp only [q4, Res.bind_ok, Res.ok.injEq] at h; exact ⟨e1, true, rfl, q2, .inl ⟨rfl, y, ys, q3, rfl, h.symm⟩⟩
          | ex c => simp [q4] at h
          | stuck => simp [q4] at h
        | ex c => simp [q3] at h
        | stuck => simp [q3] at h
      | false => rw [if_neg (by decide)] at h; exact ⟨e1, false, rfl, q2, .inr ⟨rfl, h⟩⟩
    | ex c => simp [q2] at h
    | stuck => simp [q2] at h
theorem Dens.mono {K : PySem.W.Frag} {a1 b1 : Addr → Prop} {H : Hp} {vs : List V} {ds : List D} (h : Dens K a1 H vs ds) (f : ∀ a, H a ≠ none → b1 a → a1 a) : Dens K b1 H vs ds := h.imp (fun _ _ z => z) f
theorem tLc_of {own : List Nat} {t : Tgt} {k : SrcK} {IFS : List Exp} (hown : own = t.ix) {σ : L2.St} {H : Hp} {Q : VK} (h : liftN P 2 (ev Φ (.comp E t k ES IFS)) σ H Q) :
    tLc (liftI P (srcs Φ k ES)) (liftG P.K t) (fun σ H Q => ∃ i : ((av : Addr → Prop) ×' (h0 : Hp) ×' (∀ a, av a → h0 a ≠ none)), liftTs (P.blk i.1 i.2.1 i.2.2) (evt Φ IFS) σ H Q) (fun σ H Q => ∃ i : ((av : Addr → Prop) ×' (h0 : Hp) ×' (∀ a, av a → h0 a ≠ none)), lift (P.blk i.1 i.2.1 i.2.2) 2 (ev Φ E) σ H Q) own σ H Q := by
  subst hown
  obtain ⟨e, R, p⟩ := h
  refine ⟨e, R, ?_⟩
  simp only [ev] at p
  have p : PostN P e σ 2 H Q ((srcs Φ k ES e).bind fun its => if (freeOf e t.ix && decide (its.length ≤ line)) = true then (noEx (compL (fun e' => ev Φ E e') (fun e' => evt Φ IFS e') t its (wipeS e t.ix))).bind fun ys => .ok (.list ys) else .stuck) := by
    unfold srcs
    cases q : evs Φ ES e with
    | ok xs => simpa only [q, Res.bind_ok] using p
    | ex c => simpa only [q, Res.bind_ex] using p
    | stuck => simpa only [q, Res.bind_stuck] using p
  cases q : srcs Φ k ES e with
  | ex c => rw [q] at p; exact p
  | stuck => rw [q] at p; exact p
  | ok its =>
    rw [q] at p
    simp only [Res.bind_ok] at p
    intro J H1 s1 io D nD
    have R1 := R.same s1
    cases hf : (freeOf e t.ix && decide (its.length ≤ line)) with
    | false => rw [hf, if_neg (by decide)] at p; exact p.elim
    | true =>
      rw [hf, if_pos rfl] at p
      simp only [Bool.and_eq_true, decide_eq_true_eq] at hf
      cases hz : compL (fun e' => ev Φ E e') (fun e' => evt Φ IFS e') t its (wipeS e t.ix) with
      | ex c => rw [hz] at p; exact p.elim
      | stuck => rw [hz] at p; exact p.elim
      | ok zs =>
        rw [hz] at p
        simp only [noEx, Res.bind_ok] at p
        have zl : zs.length ≤ its.length := compL_len hz
        -- the block's relation, at any later heap
        let avD : Addr → Prop := fun a => P.Av a ∨ a = D
        refine ⟨fun i m H2 => m = its.length - i ∧ i ≤ its.length ∧ Same H1 H2 ∧ ∃ acc ys zs', H2 D = some (.lst acc) ∧ Dens P.K (fun a => avo P e σ a ∨ a = D) H2 acc ys ∧ compL (fun e' => ev Φ E e') (fun e' => evt Φ IFS e') t (its.drop i) (wipeS e t.ix) = .ok zs' ∧ zs = ys ++ zs',
          ⟨its.length, by omega, Nat.zero_le _, same_upd nD, [], [], zs, upd_same, .nil, by simpa using hz, rfl⟩, ?_⟩
        rintro i m H2 ⟨rfl, hi, s2, acc, ys, zs', hD, dn, hc, hzs⟩
        obtain ⟨hgo, hstop, hy⟩ := io i H2 fun b o q _ => s2 _ _ q
        by_cases hlt : i < its.length
        · refine .inr ⟨hgo hlt, fun H' => Same H1 H' ∧ ∃ acc ys zs', H' D = some (.lst acc) ∧ Dens P.K (fun a => avo P e σ a ∨ a = D) H' acc ys ∧ compL (fun e' => ev Φ E e') (fun e' => evt Φ IFS e') t (its.drop (i + 1)) (wipeS e t.ix) = .ok zs' ∧ zs = ys ++ zs', fun H' hN => ⟨its.length - (i + 1), by omega, rfl, by omega, hN⟩, fun x H3 y => ?_⟩
          rw [List.drop_eq_getElem_cons hlt] at hc
          obtain ⟨e1, b, hb, hg, hrest⟩ := compL_cons hc
          obtain ⟨s3, dx⟩ := hy x H3 y _ (List.getElem?_eq_getElem hlt)
          -- the relation in the block
          have noD : ¬ Owns (wipeS e t.ix) (L2.wipe σ t.ix) D := fun z => (R1.wipe t.ix).own_ne z nD
          have s13 : Same H1 H3 := s2.trans s3
          have hD3 : H3 D = some (.lst acc) := s3 _ _ hD
          have hav : ∀ a, avD a → lessOwn (wipeS e t.ix) (L2.wipe σ t.ix) H3 a ≠ none := fun a z => by
            unfold lessOwn
            rcases z with z | rfl
            · rw [if_neg fun w => (R1.wipe t.ix).own_av w z]
              exact ((R1.wipe t.ix).same s13).av_ne (.inl z)
            · rw [if_neg noD, hD3]
              exact fun z => nomatch z
          have RB : Rel (P.blk avD (lessOwn (wipeS e t.ix) (L2.wipe σ t.ix) H3) hav) (wipeS e t.ix) (L2.wipe σ t.ix) H3 := by
            have R3 := (R1.wipe t.ix)
            refine ⟨R3.len, fun j s o q1 q2 => ((R3.slot j s o q1 q2).imp fun a ha z => ?_).same s13, R3.inj, fun b o q => ?_, fun a z => ?_⟩
            · rcases z with (z | rfl) | z
              · exact .inl z
              · exact absurd nD ha
              · exact .inr z
            · have q : lessOwn (wipeS e t.ix) (L2.wipe σ t.ix) H3 b = some o := q
              unfold lessOwn at q
              split at q
              · cases q
              · exact q
            · show lessOwn (wipeS e t.ix) (L2.wipe σ t.ix) H3 a = none
              unfold lessOwn
              rw [if_pos z]
          have ownsub : ∀ b, Owns (wipeS e t.ix) (L2.wipe σ t.ix) b → Owns e σ b := fun b ⟨j, s, q1, q2, q3⟩ => by
            have : ∀ {vs : List Nat} {j : Nat} {s : Slot}, (wipeS e vs)[j]? = some s → isOwn s = true → e[j]? = some s := by
              intro vs
              induction vs with
              | nil => intro j s h _; exact h
              | cons v vs ih =>
                intro j s h hs
                unfold wipeS at h
                by_cases hv : v = j
                · subst hv
                  rw [List.getElem?_set_self'] at h
                  cases q : (wipeS e vs)[v]? with
                  | none => rw [q] at h; simp at h
                  | some w => rw [q] at h; simp only [Option.map_eq_map, Option.map_some, Function.const_apply, Option.some.injEq] at h; subst h; cases hs
                · rw [List.getElem?_set_ne hv] at h
                  exact ih h hs
            exact ⟨j, s, this q1 q2, q2, (wipe_some q3).1⟩
          refine ⟨P.blk avD _ hav, wipeS e t.ix, _, e1, rfl, RB, dx.imp (fun _ _ z => z) (fun b _ z => ?_), hb, fun σ2 R2 g2 => ⟨?_, ⟨avD, _, hav⟩, e1, R2, ?_⟩⟩
          · rcases z with (z | rfl) | z
            · exact .inl (.inl z)
            · exact .inr nD
            · exact .inl (.inr (ownsub b z))
          · rw [g2.wipe]
            apply List.ext_getElem?
            intro j
            by_cases hj : j ∈ t.ix
            · rw [wipe_in hj, wipe_in hj, wipe_length]
            · rw [wipe_out hj]
          · rw [hg]
            intro H4 s4
            rcases hrest with ⟨rfl, y', ys', hfy, hc', rfl⟩ | ⟨rfl, hc'⟩
            · rw [if_pos rfl]
              refine ⟨⟨avD, _, hav⟩, e1, R2.same s4, ?_⟩
              rw [hfy]
              intro v H5 s5 hv
              have s15 : Same H1 H5 := (s13.trans s4).trans s5
              have hD5 : H5 D = some (.lst acc) := s5 _ _ (s4 _ _ hD3)
              have sm := bindT_out hb
              have d5 : Den P.K (fun a => avo P e σ a ∨ a = D) H5 v y' := hv.d2.imp (fun _ _ z => z) fun a _ z => by
                rcases z with (z | z) | rfl
                · exact .inl (.inl z)
                · obtain ⟨j, s, q1, q2, q3⟩ := z
                  obtain ⟨r1, r2⟩ := wipeS_own (σ := σ) q1 q2 hf.1
                  have hj : j ∉ t.ix := fun hj => by
                    obtain ⟨x0, r⟩ := (sm j).2 hj
                    have := hf.1
                    unfold freeOf at this
                    rw [List.all_eq_true] at this
                    have := this j hj
                    rw [q1] at this
                    simp only [q2] at this
                    exact absurd this (by decide)
                  exact .inr ⟨j, s, by rw [(sm j).1 hj]; exact r1, q2, by rw [g2.2 j hj, r2]; exact q3⟩
                · exact .inl (.inr rfl)
              have hk5 : (∀ ys, H5 D ≠ some (.tup ys)) ∧ ∀ o u, H5 D ≠ some (.frz o u) := ⟨fun _ z => by (rw [hD5] at z; cases z), fun _ _ z => by (rw [hD5] at z; cases z)⟩
              have acl : acc.length < sizeLine := by
                have h1 := dn.length
                have h2 : zs.length = ys.length + (ys'.length + 1) := by rw [hzs, List.length_append, List.length_cons]
                exact line_lt (by have := hf.2; omega)
              refine ⟨acc, hD5, acl, fun b o q => ?_, acc ++ [v], ys ++ [y'], ys', upd_same, ?_, hc', by rw [hzs, List.append_assoc]; rfl⟩
              · rw [upd_ne (fun z => by rw [z, nD] at q; cases q)]
                exact s15 _ _ q
              · have d6 := ((dn.same s3).same s4).same s5
                exact (d6.append (.cons d5 .nil)).upd hk5.1 hk5.2 (.inr rfl)
            · rw [if_neg (by decide)]
              exact ⟨s13.trans s4, acc, ys, zs', s4 _ _ hD3, (dn.same s3).same s4, hc', hzs⟩
        · refine .inl ⟨hstop (by omega), ?_⟩
          rw [List.drop_of_length_le (by omega)] at hc
          simp only [compL, Res.ok.injEq] at hc
          subst hc
          rw [List.append_nil] at hzs
          subst hzs
          have nD0 : H D = none := by
            cases q : H D with
            | none => rfl
            | some o => rw [s1 _ _ q] at nD; cases nD
          exact p _ H2 (fun b o q => s2 _ _ (s1 _ _ q)) ⟨D, acc, rfl, nD0, hD, dn⟩
end
end Rf

set_option Elab.async false
set_option linter.all false
set_option maxRecDepth 100000
set_option maxHeartbeats 1000000
/-! Rf, part H: statements. -/
namespace Rf
open PySem PySem.Spec PyProof.Rows L2
section
variable {X : Cx} {P : Pk} {N : List Str} {sc : Scope} {m : Nat} {Φ : FT} {F : Nat} {A B E : Exp} {ES IFS : List Exp} {a b c tg : Expr} {es : List Expr} {pos : Pos}
theorem Ctx.at (C : Ctx X P N sc) (h0 : Hp) (hav : ∀ a, P.Av a → h0 a ≠ none) : Ctx X (P.at h0 hav) N sc := ⟨C.hK, C.hN, C.nd, C.hs, C.calm, C.un, C.tk, C.po⟩
theorem Ctx.blk (C : Ctx X P N sc) {scope : Scope} (av : Addr → Prop) (h0 : Hp) (hav : ∀ a, av a → h0 a ≠ none) (s : Shared) (H : Hp) (Cl : Addr) (cl : List (Str × Addr)) (fp : List Addr) : Ctx (X.blk s H scope (compEnvC scope cl Cl X.env) fp) (P.blk av h0 hav) N (relS scope sc) :=
  ⟨C.hK, C.hN, C.nd, by rw [← C.hs]; rfl, C.calm, C.un, takes0, PassesOwn.never⟩
/-- a comprehension -/
theorem se_comp (C : Ctx X P N sc) {scope : Scope} {own : List (Str × Nat)} {t : Tgt} {k : SrcK} {ifs : List Expr} {iter : Expr} (hi : PI X tg iter (liftI P (srcs Φ k ES))) (hown : own.map (·.2) = t.ix) (ok : BlkOk N sc scope own)
    (hg : ∀ (s : Shared) (H : Hp) (Cl : Addr) (cl : List (Str × Addr)) (fp : List Addr) (Pb : Pk), Ctx (X.blk s H scope (compEnvC scope cl Cl X.env) fp) Pb N (relS scope sc) → PG (X.blk s H scope (compEnvC scope cl Cl X.env) fp) tg (liftG P.K t))
    (ht : ∀ (s : Shared) (H : Hp) (Cl : Addr) (cl : List (Str × Addr)) (fp : List Addr) (av : Addr → Prop) (h0 : Hp) (hav : ∀ a, av a → h0 a ≠ none), Ctx (X.blk s H scope (compEnvC scope cl Cl X.env) fp) (P.blk av h0 hav) N (relS scope sc) → PTs (X.blk s H scope (compEnvC scope cl Cl X.env) fp) ifs (liftTs (P.blk av h0 hav) (evt Φ IFS)))
    (he : ∀ (s : Shared) (H : Hp) (Cl : Addr) (cl : List (Str × Addr)) (fp : List Addr) (av : Addr → Prop) (h0 : Hp) (hav : ∀ a, av a → h0 a ≠ none), Ctx (X.blk s H scope (compEnvC scope cl Cl X.env) fp) (P.blk av h0 hav) N (relS scope sc) → PE (X.blk s H scope (compEnvC scope cl Cl X.env) fp) a (lift (P.blk av h0 hav) 2 (ev Φ E)))
    (hs : ∀ x, foldedSetIterable iter X.env x = pure x := by intro _; rfl) :
    PE X (.ListComp a [⟨tg, iter, ifs, 0⟩] scope pos) (liftN P 2 (ev Φ (.comp E t k ES IFS))) :=
  PE.imp (pe_lc C.calm (by rw [C.hN]; exact C.nd) hi (by rw [C.hN, C.hs]; exact ok)
    (fun s H Cl cl fp => hg s H Cl cl fp (P.blk (fun _ => False) (fun _ => none) (fun _ z => z.elim)) (C.blk _ _ _ s H Cl cl fp))
    (fun s H Cl cl fp => PTs.ofAll fun i => ht s H Cl cl fp i.1 i.2.1 i.2.2 (C.blk _ _ _ s H Cl cl fp))
    (fun s H Cl cl fp => PE.ofAll fun i => he s H Cl cl fp i.1 i.2.1 i.2.2 (C.blk _ _ _ s H Cl cl fp)) hs) fun σ H Q h => tLc_of hown h
/-- name = a comprehension, in one row -/
theorem ss_lc {f : Sl → Out} (C : Ctx X P N sc) {y : Str} {py cpos : Pos} {i : Nat} {scope : Scope} {own : List (Str × Nat)} {t : Tgt} {k : SrcK} {ifs : List Expr} {iter : Expr} (hy : N[i]? = some y) (hyl : sc.names.lookup y = some .local)
    (hsw : swapsWith (.ListComp a [⟨tg, iter, ifs, 0⟩] scope cpos) (some (.Name y py)) pos.line X.env = pure true)
    (hi : PI X tg iter (liftI P (srcs Φ k ES))) (hown : own.map (·.2) = t.ix) (ok : BlkOk N sc scope own)
    (hg : ∀ (s : Shared) (H : Hp) (Cl : Addr) (cl : List (Str × Addr)) (fp : List Addr) (Pb : Pk), Ctx (X.blk s H scope (compEnvC scope cl Cl X.env) fp) Pb N (relS scope sc) → PG (X.blk s H scope (compEnvC scope cl Cl X.env) fp) tg (liftG P.K t))
    (ht : ∀ (s : Shared) (H : Hp) (Cl : Addr) (cl : List (Str × Addr)) (fp : List Addr) (av : Addr → Prop) (h0 : Hp) (hav : ∀ a, av a → h0 a ≠ none), Ctx (X.blk s H scope (compEnvC scope cl Cl X.env) fp) (P.blk av h0 hav) N (relS scope sc) → PTs (X.blk s H scope (compEnvC scope cl Cl X.env) fp) ifs (liftTs (P.blk av h0 hav) (evt Φ IFS)))
    (he : ∀ (s : Shared) (H : Hp) (Cl : Addr) (cl : List (Str × Addr)) (fp : List Addr) (av : Addr → Prop) (h0 : Hp) (hav : ∀ a, av a → h0 a ≠ none), Ctx (X.blk s H scope (compEnvC scope cl Cl X.env) fp) (P.blk av h0 hav) N (relS scope sc) → PE (X.blk s H scope (compEnvC scope cl Cl X.env) fp) a (lift (P.blk av h0 hav) 2 (ev Φ E)))
    (hf : ∀ D σ H, liftS P f D σ H → tAsg (liftN P 2 (ev Φ (.comp E t k ES IFS))) (gName i) D σ H)
    (hs : ∀ x, foldedSetIterable iter X.env x = pure x := by intro _; rfl) :
    PS X (.Assign [.Name y py] (.ListComp a [⟨tg, iter, ifs, 0⟩] scope cpos) pos) (liftS P f) :=
  PS.imp (ps_setLc C.calm (by rw [C.hN]; exact C.nd) (by rw [C.hN]; exact hy) (by rw [C.hs]; exact hyl) hsw hi (by rw [C.hN, C.hs]; exact ok)
    (fun s H Cl cl fp => hg s H Cl cl fp (P.blk (fun _ => False) (fun _ => none) (fun _ z => z.elim)) (C.blk _ _ _ s H Cl cl fp))
    (fun s H Cl cl fp => PTs.ofAll fun i => ht s H Cl cl fp i.1 i.2.1 i.2.2 (C.blk _ _ _ s H Cl cl fp))
    (fun s H Cl cl fp => PE.ofAll fun i => he s H Cl cl fp i.1 i.2.1 i.2.2 (C.blk _ _ _ s H Cl cl fp)) hs) fun D σ H h => tLc_of hown (hf D σ H h)

/-! ### assignments -/
theorem bindS {e : Sl} {σ : L2.St} {H : Hp} (R : Rel P e σ H) {D : Ends} {r : Res Rf.D} {G : Rf.D → Out} (h : PostS P D (Out.ofR r e G)) : Post P e σ m H (fun v H1 => ∃ x, r = .ok x ∧ Same H H1 ∧ Rel P e σ H1 ∧ DenM P e σ m H1 v x ∧ PostS P D (G x)) r := by
  cases r with
  | ok x => exact fun v H1 s d => ⟨x, rfl, s, R.same s, d, h⟩
  | ex c => exact fun H1 s => h σ H1 (R.same s)
  | stuck => exact h.elim
theorem bindSN {e : Sl} {σ : L2.St} {H : Hp} (R : Rel P e σ H) {D : Ends} {r : Res Rf.D} {G : Rf.D → Out} (h : PostS P D (Out.ofR r e G)) : PostN P e σ m H (fun v H1 => ∃ x, r = .ok x ∧ Same H H1 ∧ Rel P e σ H1 ∧ Fr2 P.K (av1 P e σ m) H v H1 x ∧ PostS P D (G x)) r := by
  cases r with
  | ok x => exact fun v H1 s d => ⟨x, rfl, s, R.same s, d, h⟩
  | ex c => exact fun H1 s => h σ H1 (R.same s)
  | stuck => exact h.elim
theorem bindST {e : Sl} {σ : L2.St} {H : Hp} (R : Rel P e σ H) {D : Ends} {r : Res Rf.D} {G : Rf.D → Out} (hG : ∀ d, (∀ k, d ≠ .bool k) → G d = .stuck) (h : PostS P D (Out.ofR r e G)) : PostT P σ H (fun k H1 => Same H H1 ∧ Rel P e σ H1 ∧ PostS P D (G (.bool k))) r := by
  cases r with
  | ok d =>
    cases d with
    | bool k => exact fun H1 s => ⟨s, R.same s, h⟩
    | none => have := hG .none (fun _ z => nomatch z); rw [Out.ofR_ok, this] at h; exact h.elim
    | int i => have := hG (.int i) (fun _ z => nomatch z); rw [Out.ofR_ok, this] at h; exact h.elim
    | str i => have := hG (.str i) (fun _ z => nomatch z); rw [Out.ofR_ok, this] at h; exact h.elim
    | list i => have := hG (.list i) (fun _ z => nomatch z); rw [Out.ofR_ok, this] at h; exact h.elim
    | tuple i => have := hG (.tuple i) (fun _ z => nomatch z); rw [Out.ofR_ok, this] at h; exact h.elim
    | dict i => have := hG (.dict i) (fun _ z => nomatch z); rw [Out.ofR_ok, this] at h; exact h.elim
  | ex c => exact fun H1 s => h σ H1 (R.same s)
  | stuck => exact h.elim
theorem PostN.weaken {e : Sl} {σ : L2.St} {H : Hp} {Q Q' : VK} {r : Res Rf.D} (h : PostN P e σ m H Q r) (w : ∀ v H', Q v H' → Q' v H') : PostN P e σ m H Q' r := by
  cases r with
  | ok d => exact fun v H' s hd => w _ _ (h v H' s hd)
  | ex c => exact h
  | stuck => exact h
theorem asg_of {i : Nat} {D : Ends} {σ : L2.St} {H : Hp} (h : liftS P (exec Φ F (.asg (.nm i) A)) D σ H) : tAsg (lift P 2 (ev Φ A)) (gName i) D σ H := by
  obtain ⟨e, R, p⟩ := h
  refine ⟨e, R, ?_⟩
  simp only [exec] at p
  refine Post.weaken (bindS (m := 2) R p) fun v H1 ⟨x, _, s, R1, hd, q⟩ => ?_
  simp only [bindT] at q
  split at q
  · rename_i e' hb
    split at hb
    · simp only [Option.some.injEq] at hb; subst hb; exact q _ H1 (R1.setD hd.d2)
    · cases hb
  · exact q.elim
theorem own_of {i : Nat} {D : Ends} {σ : L2.St} {H : Hp} (h : liftS P (exec Φ F (.own i A)) D σ H) : tAsg (liftN P 2 (ev Φ A)) (gName i) D σ H := by
  obtain ⟨e, R, p⟩ := h
  refine ⟨e, R, ?_⟩
  simp only [exec] at p
  refine PostN.weaken (bindSN (m := 2) R p) fun v H1 ⟨x, _, s, R1, hd, q⟩ => ?_
  cases x with
  | list xs =>
    obtain ⟨l, us, rfl, nl, hl, hx⟩ := hd
    simp only [ownS] at q
    split at q
    · exact q _ H1 (R.setNew nl s ⟨l, us, rfl, hl, hx⟩)
    · exact q.elim
  | dict kvs =>
    obtain ⟨l, us, rfl, nl, hl, hx⟩ := hd
    simp only [ownS] at q
    by_cases hk : keysOk kvs = true
    · rw [if_pos hk] at q
      simp only [] at q
      split at q
      · exact q _ H1 (R.setNew nl s ⟨l, us, rfl, hl, hx⟩)
      · exact q.elim
    · rw [if_neg hk] at q; exact q.elim
  | _ => exact q.elim
theorem ss_set (C : Ctx X P N sc) {i : Nat} {x : Str} {px : Pos} (hi : N[i]? = some x) (hx : Loc sc x) (he : PE X a (lift P 2 (ev Φ A))) (hs : swapsWith a (some (.Name x px)) pos.line X.env = pure false := by rfl) (hf : X.fn x = true ∨ X.env.scope.names.lookup x = some .local := by first | exact .inl rfl | exact .inr rfl) :
    PS X (.Assign [.Name x px] a pos) (liftS P (exec Φ F (.asg (.nm i) A))) :=
  PS.imp (ps_set (by rw [C.hN]; exact C.nd) (by rw [C.hN]; exact hi) (by rw [C.hs]; exact hx) he hs hf) fun D σ H h => asg_of h
theorem ss_own (C : Ctx X P N sc) {i : Nat} {x : Str} {px : Pos} (hi : N[i]? = some x) (hx : Loc sc x) (he : PE X a (liftN P 2 (ev Φ A))) (hs : swapsWith a (some (.Name x px)) pos.line X.env = pure false := by rfl) (hf : X.fn x = true ∨ X.env.scope.names.lookup x = some .local := by first | exact .inl rfl | exact .inr rfl) :
    PS X (.Assign [.Name x px] a pos) (liftS P (exec Φ F (.own i A))) :=
  PS.imp (ps_set (by rw [C.hN]; exact C.nd) (by rw [C.hN]; exact hi) (by rw [C.hs]; exact hx) he hs hf) fun D σ H h => own_of h
theorem asgN_of {i : Nat} {D : Ends} {σ : L2.St} {H : Hp} (h : liftS P (exec Φ F (.asg (.nm i) A)) D σ H) : tAsg (liftN P 2 (ev Φ A)) (gName i) D σ H := by
  obtain ⟨e, R, p⟩ := asg_of h
  exact ⟨e, R, PostN.post R p⟩
theorem ss_tgt (C : Ctx X P N sc) {t : Tgt} (hg : PG X tg (liftG P.K t)) (he : PE X a (lift P 2 (ev Φ A))) (hs : swapsWithSole [tg] a pos.line X.env = pure false := by rfl) (hw : swappedStores [tg] a X.env = pure none := by rfl) (h1 : (assignEach [tg] X.env).map (·.2) = [assign tg X.env] := by rfl) :
    PS X (.Assign [tg] a pos) (liftS P (exec Φ F (.asg t A))) := by
  refine PS.imp (ps_asg he hg hs hw h1) fun D σ H ⟨e, R, p⟩ => ⟨e, R, ?_⟩
  simp only [exec] at p
  refine Post.weaken (bindS (m := 2) R p) fun v H1 ⟨x, _, s, R1, hd, q⟩ => ?_
  cases hb : bindT t x e with
  | none => rw [hb] at q; exact q.elim
  | some e' => rw [hb] at q; exact ⟨P, e, x, e', rfl, R1, hd.d2, hb, fun σ1 R2 _ => q _ _ R2⟩
theorem ss_par (C : Ctx X P N sc) {i j : Nat} {x y : Str} {px py pt : Pos} {kt k2 : Nat} {pt2 : Pos} (hi : N[i]? = some x) (hj : N[j]? = some y) (hij : i ≠ j) (hx : sc.names.lookup x = some .local) (hy : sc.names.lookup y = some .local) (ha : PA X [a, b] (lifts P 2 (evs Φ [A, B])))
    (hw : swappedStores [.Tuple [.Name x px, .Name y py] kt pt] (.Tuple [a, b] k2 pt2) X.env = pure (some [x, y])) (hs : swapsWithSole [.Tuple [.Name x px, .Name y py] kt pt] (.Tuple [a, b] k2 pt2) pos.line X.env = pure false := by rfl) :
    PS X (.Assign [.Tuple [.Name x px, .Name y py] kt pt] (.Tuple [a, b] k2 pt2) pos) (liftS P (exec Φ F (.par i j A B))) := by
  refine PS.imp (ps_par C.calm (by rw [C.hN]; exact C.nd) (by rw [C.hN]; exact hi) (by rw [C.hN]; exact hj) hij (by rw [C.hs]; exact hx) (by rw [C.hs]; exact hy) ha hw hs) fun D σ H ⟨e, R, p⟩ => ⟨e, R, ?_⟩
  simp only [exec] at p
  cases q1 : ev Φ A e with
  | ex c => simp only [evs, q1, Res.bind_ex, Out.ofR_ex] at p ⊢; exact fun H1 s => p σ H1 (R.same s)
  | stuck => simp only [q1, Out.ofR_stuck] at p; exact p.elim
  | ok x1 =>
    cases q2 : ev Φ B e with
    | ex c => simp only [evs, q1, q2, Res.bind_ex, Res.bind_ok, Out.ofR_ex, Out.ofR_ok] at p ⊢; exact fun H1 s => p σ H1 (R.same s)
    | stuck => simp only [q1, q2, Out.ofR_stuck, Out.ofR_ok] at p; exact p.elim
    | ok y1 =>
      simp only [evs, q1, q2, Res.bind_ok, Out.ofR_ok] at p ⊢
      intro vs H1 s hd
      match vs, hd with
      | [v, w], hd =>
        refine ⟨v, w, rfl, ?_⟩
        split at p
        · have R1 := R.same s
          have r2 := R1.setD (i := i) hd.1.d2
          refine p _ H1 (r2.setD (hd.2.1.d2.imp (fun _ _ z => z) fun b _ z => z.imp id (own_set_d rfl)))
        · exact p.elim
theorem ss_aug (C : Ctx X P N sc) (op : BOp) (hop : op ≠ .pow) {i : Nat} {x : Str} {px : Pos} (hi : N[i]? = some x) (hx : Loc sc x) (he : PE X a (lift P 1 (ev Φ A))) (hf : X.fn x = true ∨ X.env.scope.names.lookup x = some .local := by first | exact .inl rfl | exact .inr rfl) :
    PS X (.AugAssign (.Name x px) (bOp op) a pos) (liftS P (exec Φ F (.aug i op A))) := by
  have o : PIp X (bOp op) (RB X.K (augD op)) := op_augD op hop
  rw [C.hK] at o
  refine PS.imp (ps_aug (by rw [C.hN]; exact C.nd) (by rw [C.hN]; exact hi) (by rw [C.hs]; exact hx) he o hf) fun D σ H ⟨e, R, p⟩ => ?_
  simp only [exec] at p
  cases q : e[i]? with
  | none => rw [q] at p; exact p.elim
  | some s =>
    rw [q] at p
    cases s with
    | d x1 =>
      obtain ⟨o1, h1, v, rfl, hd⟩ := R.at q
      refine ⟨v, h1, e, R, ?_⟩
      refine Post.weaken (bindS (m := 1) R p) fun w H1 ⟨y, _, s, R1, hy, q⟩ => ?_
      cases qz : augD op x1 y with
      | none => rw [qz] at q; exact q.elim
      | some z =>
        rw [qz] at q
        have R1 := R.same s
        refine ⟨_, _, _, x1, y, z, (hd.same s).mm (m := 1), hy, qz, fun u H2 s2 hz => q _ H2 ((R1.same s2).setD ?_)⟩
        exact (hz.two (c0 := avo P e σ) fun a z => R1.av_ne z).one
    | _ => exact p.elim

/-! ### own lists and dicts -/
theorem ss_app (C : Ctx X P N sc) {i : Nat} {x : Str} {px apos cpos : Pos} (hi : N[i]? = some x) (hv : Vis sc x) (he : PE X a (lift P 2 (ev Φ A)))
    (h1 : (((backTo cpos (starEach [a] X.env)).all fun x => !x.1) && (backToKw cpos (keywordEach [] X.env)).all (fun x => x.1.isSome) && decide (([a] : List Expr).length + ([] : List Keyword).length + (if ([] : List Keyword).isEmpty then 0 else 1) < 30)) = true := by rfl)
    (h2 : (apos.endLine == cpos.line) = true := by rfl) (h3 : starEach [a] X.env = (false, eval a X.env) :: starEach [] X.env := by rfl) (h4 : ((backTo cpos (starEach [] X.env)).any fun x => x.1) = false := by rfl) (hd : (x == ("__debug__" : Str)) = false := by decide) (hcd : (x == ("__classdict__" : Str)) = false := by decide)
    (hb : attributeBase (.Name x px) "append" X.env (eval (.Name x px) X.env) = eval (.Name x px) X.env := by rfl) (hs : swapsWith (.Call (.Attribute (.Name x px) "append" apos) [a] [] cpos) none pos.line X.env = pure false := by rfl) :
    PS X (.Expr (.Call (.Attribute (.Name x px) "append" apos) [a] [] cpos) pos) (liftS P (exec Φ F (.app i A))) := by
  refine PS.imp (ps_expr (pe_bm PySem.F.plainAttrs_list PySem.F.slot_list_append PySem.F.type_list_append mt_append (pe_var (i := i) (by rw [C.hN]; exact hi) (by rw [C.hs]; exact hv) hd hcd) (pa_cons he pa_nil h3) hb h1 h2 h3 h4) hs) fun D σ H ⟨e, R, p⟩ => ?_
  simp only [exec] at p
  cases q : e[i]? with
  | none => rw [q] at p; exact p.elim
  | some s =>
    rw [q] at p
    cases s with
    | ol xs =>
      obtain ⟨o1, h1, l, us, rfl, hl, dd⟩ := R.at q
      refine ⟨_, h1, .inl ⟨rfl, us, .inl (.inl hl)⟩, e, R, ?_⟩
      refine Post.weaken (bindS (m := 2) R p) fun w H1 ⟨y, _, s, R1, hy, p⟩ => ?_
      split at p
      · rename_i hz
        refine ⟨l, us, w, rfl, rfl, s _ _ hl, by rw [dd.length]; exact line_lt hz, p σ _ (R1.updOwn q rfl rfl h1 ⟨l, us ++ [w], rfl, upd_same, ?_⟩)⟩
        exact ((dd.same s).append (.cons hy.d2 .nil)).upd (R1.kinds _ ⟨i, _, q, rfl, h1⟩).1 (R1.kinds _ ⟨i, _, q, rfl, h1⟩).2 (.inr ⟨i, _, q, rfl, h1⟩)
      · exact p.elim
    | _ => exact p.elim
theorem ss_setl (C : Ctx X P N sc) {i : Nat} {x : Str} {px tp : Pos} (hi : N[i]? = some x) (hv : Vis sc x) (he : PE X a (lift P 2 (ev Φ A))) (hk : PE X b (lift P 0 (ev Φ B))) (hd : (x == ("__debug__" : Str)) = false := by decide) (hcd : (x == ("__classdict__" : Str)) = false := by decide)
    (ha : ∀ v, assign (.Subscript (.Name x px) b tp) X.env v = (do
      let ov ← holding [v] (eval (.Name x px) X.env)
      let iv ← holding [v, ov] (eval b X.env)
      standAt tp
      holding [v, ov, iv] (setItem ov iv v)
      release [v, ov, iv] []) := by intro _; rfl) (hs : swapsWithSole [.Subscript (.Name x px) b tp] a pos.line X.env = pure false := by rfl) (hw : swappedStores [.Subscript (.Name x px) b tp] a X.env = pure none := by rfl) (h1 : (assignEach [.Subscript (.Name x px) b tp] X.env).map (·.2) = [assign (.Subscript (.Name x px) b tp) X.env] := by rfl) :
    PS X (.Assign [.Subscript (.Name x px) b tp] a pos) (liftS P (exec Φ F (.setl i B A))) := by
  refine PS.imp (ps_asg he (pg_sub (pe_var (i := i) (by rw [C.hN]; exact hi) (by rw [C.hs]; exact hv) hd hcd) hk set_list ha) hs hw h1) fun D σ H ⟨e, R, p⟩ => ⟨e, R, ?_⟩
  simp only [exec] at p
  cases q : e[i]? with
  | none => rw [q] at p; exact p.elim
  | some s =>
    rw [q] at p
    cases s with
    | ol xs =>
      obtain ⟨o1, h1, l, us, rfl, hl, dd⟩ := R.at q
      refine Post.weaken (bindS (m := 2) R p) fun w H1 ⟨y, _, s, R1, hy, p⟩ => ⟨_, h1, e, R1, ?_⟩
      refine Post.weaken (bindS (m := 0) R1 p) fun k H2 ⟨k', _, s2, R2, hk', p⟩ => ?_
      cases k' with
      | int k' =>
        obtain rfl := d2_int hk'
        simp only [] at p
        cases qj : ixN xs.length k' with
        | none => rw [qj] at p; exact p.elim
        | some j =>
          rw [qj] at p
          refine ⟨l, us, k', j, rfl, rfl, s2 _ _ (s _ _ hl), by rw [dd.length]; exact qj, p σ _ (R2.updOwn q rfl rfl h1 ⟨l, us.set j w, rfl, upd_same, ?_⟩)⟩
          exact (((dd.same s).same s2).set j (hy.d2.same s2)).upd (R2.kinds _ ⟨i, _, q, rfl, h1⟩).1 (R2.kinds _ ⟨i, _, q, rfl, h1⟩).2 (.inr ⟨i, _, q, rfl, h1⟩)
      | _ => exact p.elim
    | _ => exact p.elim
theorem ss_setd (C : Ctx X P N sc) {i : Nat} {x : Str} {px tp : Pos} (hi : N[i]? = some x) (hv : Vis sc x) (he : PE X a (lift P 2 (ev Φ A))) (hk : PE X b (lift P 0 (ev Φ B))) (hd : (x == ("__debug__" : Str)) = false := by decide) (hcd : (x == ("__classdict__" : Str)) = false := by decide)
    (hs : swapsWith a (some (.Subscript (.Name x px) b tp)) pos.line X.env = pure false := by rfl) :
    PS X (.Assign [.Subscript (.Name x px) b tp] a pos) (liftS P (exec Φ F (.setd i B A))) := by
  refine PS.imp (ps_dput C.u1 (pe_var (i := i) (by rw [C.hN]; exact hi) (by rw [C.hs]; exact hv) hd hcd) hk he hs) fun D σ H ⟨e, R, p⟩ => ⟨e, R, ?_⟩
  simp only [exec] at p
  cases q : e[i]? with
  | none => rw [q] at p; exact p.elim
  | some s =>
    rw [q] at p
    cases s with
    | od xs =>
      obtain ⟨o1, h1, l, us, rfl, hl, dd⟩ := R.at q
      refine Post.weaken (bindS (m := 2) R p) fun w H1 ⟨y, _, s, R1, hy, p⟩ => ⟨_, h1, e, R1, ?_⟩
      refine Post.weaken (bindS (m := 0) R1 p) fun k H2 ⟨k', _, s2, R2, hk', p⟩ => ?_
      split at p
      · rename_i hz
        obtain ⟨hz1, hz2⟩ := hz
        obtain ⟨c, hc⟩ := Option.isSome_iff_exists.mp hz1
        obtain rfl := keyD_of hc
        obtain rfl := keyV hk'
        refine ⟨l, _, rfl, DPut.k (s2 _ _ (s _ _ hl)) (by rw [dd.length]; exact line_lt hz2), p σ _ (R2.updOwn q rfl rfl h1 ⟨l, _, rfl, upd_same, ?_⟩)⟩
        exact (put_of c (hy.d2.same s2) ((dd.same s).same s2)).upd (R2.kinds _ ⟨i, _, q, rfl, h1⟩).1 (R2.kinds _ ⟨i, _, q, rfl, h1⟩).2 (.inr ⟨i, _, q, rfl, h1⟩)
      · exact p.elim
    | _ => exact p.elim
theorem pop_of {i : Nat} {σ : L2.St} {H : Hp} {e : Sl} {xs : List D} {x : D} {Q : VK} (R : Rel P e σ H) (q : e[i]? = some (.ol xs)) (hx : xs[xs.length - 1]? = some x)
    (h : ∀ v H', Rel P (e.set i (.ol xs.dropLast)) σ H' → Den P.K (avo P (e.set i (.ol xs.dropLast)) σ) H' v x → Q v H') : tBM0 P.K "list" rPop (tVar i) σ H Q := by
  obtain ⟨o1, h1, l, us, rfl, hl, dd⟩ := R.at q
  have hlen := dd.length
  obtain ⟨v, hv, dv⟩ := dd.getD hx
  have ow : Owns e σ l := ⟨i, _, q, rfl, h1⟩
  refine ⟨_, h1, .inl ⟨rfl, us, .inl (.inl hl)⟩, l, us, v, rfl, rfl, hl, by rw [hlen]; exact hv, h _ _ ?_ ?_⟩
  · exact R.updOwn q rfl rfl h1 ⟨l, _, rfl, upd_same, dd.dropLast.upd (R.kinds _ ow).1 (R.kinds _ ow).2 (.inr ow)⟩
  · refine (dv.upd (R.kinds _ ow).1 (R.kinds _ ow).2 (.inr ow)).imp (fun _ _ z => z) fun b _ z => z.imp id fun ⟨j, t, q1, q2, q3⟩ => ?_
    by_cases hj : i = j
    · subst hj; exact ⟨i, _, q, rfl, q3⟩
    · rw [List.getElem?_set_ne hj] at q1; exact ⟨j, t, q1, q2, q3⟩
theorem ss_pop (C : Ctx X P N sc) {i : Nat} {x : Str} {px apos cpos : Pos} (hi : N[i]? = some x) (hv : Vis sc x)
    (h2 : (apos.endLine == cpos.line) = true := by rfl) (hd : (x == ("__debug__" : Str)) = false := by decide) (hcd : (x == ("__classdict__" : Str)) = false := by decide)
    (hb : attributeBase (.Name x px) "pop" X.env (eval (.Name x px) X.env) = eval (.Name x px) X.env := by rfl) (hs : swapsWith (.Call (.Attribute (.Name x px) "pop" apos) [] [] cpos) none pos.line X.env = pure false := by rfl) :
    PS X (.Expr (.Call (.Attribute (.Name x px) "pop" apos) [] [] cpos) pos) (liftS P (exec Φ F (.pop i))) := by
  refine PS.imp (ps_expr (pe_bm0 PySem.F.plainAttrs_list PySem.F.slot_list_pop PySem.F.type_list_pop mt_pop (pe_var (i := i) (by rw [C.hN]; exact hi) (by rw [C.hs]; exact hv) hd hcd) hb h2) hs) fun D σ H ⟨e, R, p⟩ => ?_
  simp only [exec] at p
  cases q : e[i]? with
  | none => rw [q] at p; exact p.elim
  | some s =>
    rw [q] at p
    cases s with
    | ol xs =>
      simp only [] at p
      split at p
      · exact p.elim
      · rename_i hx
        have hx : xs.length - 1 < xs.length := by
          cases xs with
          | nil => exact absurd rfl hx
          | cons _ _ => simp
        unfold tDrop
        rw [C.hK]
        exact pop_of R q (List.getElem?_eq_getElem hx) fun v H' R' _ => p σ H' R'
    | _ => exact p.elim
theorem ss_popto (C : Ctx X P N sc) {i t : Nat} {x y : Str} {px py apos cpos : Pos} (hi : N[i]? = some x) (hv : Vis sc x) (hy : N[t]? = some y) (hyl : Loc sc y)
    (h2 : (apos.endLine == cpos.line) = true := by rfl) (hd : (x == ("__debug__" : Str)) = false := by decide) (hcd : (x == ("__classdict__" : Str)) = false := by decide)
    (hb : attributeBase (.Name x px) "pop" X.env (eval (.Name x px) X.env) = eval (.Name x px) X.env := by rfl) (hs : swapsWith (.Call (.Attribute (.Name x px) "pop" apos) [] [] cpos) (some (.Name y py)) pos.line X.env = pure false := by rfl) (hf : X.fn y = true ∨ X.env.scope.names.lookup y = some .local := by first | exact .inl rfl | exact .inr rfl) :
    PS X (.Assign [.Name y py] (.Call (.Attribute (.Name x px) "pop" apos) [] [] cpos) pos) (liftS P (exec Φ F (.popto t i))) := by
  refine PS.imp (ps_set (i := t) (by rw [C.hN]; exact C.nd) (by rw [C.hN]; exact hy) (by rw [C.hs]; exact hyl) (pe_bm0 PySem.F.plainAttrs_list PySem.F.slot_list_pop PySem.F.type_list_pop mt_pop (pe_var (i := i) (by rw [C.hN]; exact hi) (by rw [C.hs]; exact hv) hd hcd) hb h2) hs hf) fun D σ H ⟨e, R, p⟩ => ?_
  simp only [exec] at p
  cases q : e[i]? with
  | none => rw [q] at p; exact p.elim
  | some s =>
    rw [q] at p
    cases s with
    | ol xs =>
      simp only [] at p
      cases hx : xs[xs.length - 1]? with
      | none => rw [hx] at p; exact p.elim
      | some x1 =>
        rw [hx] at p
        simp only [] at p
        split at p
        · unfold tAsg
          rw [C.hK]
          exact pop_of R q hx fun v H' R' dv => p _ H' (R'.setD dv)
        · exact p.elim
    | _ => exact p.elim

/-! ### flow -/
theorem ss_expr (he : PE X a (lift P 0 (ev Φ A))) (hs : swapsWith a none pos.line X.env = pure false := by rfl) : PS X (.Expr a pos) (liftS P (exec Φ F (.expr A))) := by
  refine PS.imp (ps_expr he hs) fun D σ H ⟨e, R, p⟩ => ⟨e, R, ?_⟩
  simp only [exec] at p
  exact Post.weaken (bindS (m := 0) R p) fun v H1 ⟨x, _, s, R1, hd, q⟩ => q σ H1 R1
theorem ss_ret (he : PE X a (lift P 0 (ev Φ A))) : PS X (.Return (some a) pos) (liftS P (exec Φ F (.ret A))) := by
  refine PS.imp (ps_ret he) fun D σ H ⟨e, R, p⟩ => ⟨e, R, ?_⟩
  simp only [exec] at p
  exact Post.weaken (bindS (m := 0) R p) fun v H1 ⟨x, _, s, R1, hd, q⟩ => q v H1 R1.fr hd.weak
theorem ss_retn : PS X (.Return none pos) (liftS P (exec Φ F .retn)) := PS.imp ps_retN fun D σ H ⟨e, R, p⟩ => by
  simp only [exec] at p
  exact p .non H R.fr .none
theorem ss_if {ba bb : List Stmt} {BA BB : List Stm} (hc : PT X c (liftT P (ev Φ E))) (ha : PSs X ba (liftS P (execs Φ F BA))) (hb : PSs X bb (liftS P (execs Φ F BB))) : PS X (.If c ba bb pos) (liftS P (exec Φ F (.ifs E BA BB))) := by
  refine PS.imp (ps_if hc ha hb) fun D σ H ⟨e, R, p⟩ => ⟨e, R, ?_⟩
  simp only [exec] at p
  refine PostT.weaken (bindST R (fun d hd => ?_) p) fun k H1 ⟨s, R1, q⟩ => ?_
  · cases d with
    | bool k => exact absurd rfl (hd k)
    | _ => rfl
  · cases k with
    | true => exact ⟨e, R1, q⟩
    | false => exact ⟨e, R1, q⟩
theorem ss_pass : PS X (.Pass pos) (liftS P (exec Φ F .pas)) := PS.imp ps_pass fun D σ H ⟨e, R, p⟩ => by
  simp only [exec] at p
  exact p σ H R
theorem ss_brk : PS X (.Break pos) (liftS P (exec Φ F .brk)) := PS.imp ps_break fun D σ H ⟨e, R, p⟩ => by
  simp only [exec] at p
  exact p σ H R
theorem ss_cnt : PS X (.Continue pos) (liftS P (exec Φ F .cnt)) := PS.imp ps_continue fun D σ H ⟨e, R, p⟩ => by
  simp only [exec] at p
  exact p σ H R
theorem sss_nil : PSs X [] (liftS P (execs Φ F [])) := PSs.imp pss_nil fun D σ H ⟨e, R, p⟩ => by
  simp only [execs] at p
  exact p σ H R
theorem sss_cons {st : Stmt} {r : List Stmt} {S1 : Stm} {SR : List Stm} (h1 : PS X st (liftS P (exec Φ F S1))) (h2 : PSs X r (liftS P (execs Φ F SR))) : PSs X (st :: r) (liftS P (execs Φ F (S1 :: SR))) := by
  refine PSs.imp (pss_cons h1 h2) fun D σ H ⟨e, R, p⟩ => ⟨e, R, ?_⟩
  simp only [execs] at p
  cases q : exec Φ F S1 e with
  | nx e' => rw [q] at p; exact fun σ' H' R' => ⟨e', R', p⟩
  | ret x => rw [q] at p; exact p
  | bk e' => rw [q] at p; exact p
  | ct e' => rw [q] at p; exact p
  | ex c e' => rw [q] at p; exact p
  | stuck => rw [q] at p; exact p
theorem sss_give {r : List Stmt} {SR : List Stm} {i : Nat} (h2 : PSs X r (liftS P (execs Φ F SR))) : PSs X r (liftS P (execs Φ F (.give i :: SR))) := PSs.imp h2 fun D σ H ⟨e, R, p⟩ => by
  simp only [execs, exec] at p
  cases q : e[i]? with
  | none => rw [q] at p; exact p.elim
  | some s =>
    rw [q] at p
    cases s with
    | ol xs => exact ⟨_, R.give q, p⟩
    | _ => exact p.elim
/-- a turn's end -/
theorem PostS.turn {D : Ends} {N : L2.St → Hp → Prop} {G : Sl → Out} (hN : ∀ e' σ' H', Rel P e' σ' H' → PostS P D (G e') → N σ' H') : ∀ {o : Out}, PostS P D (o.turn G) → PostS P { D with nx := N, ct := N, bk := D.nx } o
  | .nx e', h => fun σ' H' R => hN e' σ' H' R h
  | .ct e', h => fun σ' H' R => hN e' σ' H' R h
  | .bk _, h => h
  | .ret _, h => h
  | .ex _ _, h => h
  | .stuck, h => h
theorem ss_while {body : List Stmt} {BD : List Stm} (C : Ctx X P N sc) (hc : PT X c (liftT P (ev Φ E))) (hb : PSs X body (liftS P (execs Φ F BD))) : PS X (.While c body [] pos) (liftS P (exec Φ F (.whl E BD))) := by
  refine PS.imp (ps_while C.po hc hb) fun D σ H ⟨e, R, p⟩ => ?_
  simp only [exec] at p
  refine ⟨fun n σ H => ∃ e, Rel P e σ H ∧ PostS P D (whileF (fun e' => ev Φ E e') (fun e' => execs Φ F BD e') n e), ⟨F, e, R, p⟩, ?_⟩
  rintro n σ1 H1 ⟨e1, R1, p1⟩
  cases n with
  | zero => exact p1.elim
  | succ n =>
    refine ⟨e1, R1, ?_⟩
    simp only [whileF] at p1
    refine PostT.weaken (bindST R1 (fun d hd => ?_) p1) fun k H2 ⟨s, R2, q⟩ => ?_
    · cases d with
      | bool k => exact absurd rfl (hd k)
      | _ => rfl
    · cases k with
      | true =>
        rw [if_pos rfl]
        exact ⟨fun σ' H' => ∃ e, Rel P e σ' H' ∧ PostS P D (whileF (fun e' => ev Φ E e') (fun e' => execs Φ F BD e') n e), fun σ' H' z => ⟨n, Nat.lt_succ_self n, z⟩, e1, R2, PostS.turn (fun e' σ' H' R' z => ⟨e', R', z⟩) q⟩
      | false => rw [if_neg (by decide)]; exact q σ1 H2 R2
theorem ss_for {body : List Stmt} {BD : List Stm} {iter : Expr} {t : Tgt} {k : SrcK} (C : Ctx X P N sc) (hi : PI X tg iter (liftI P (srcs Φ k ES))) (hg : PG X tg (liftG P.K t)) (hb : ∀ (h0 : Hp) (hav : ∀ a, P.Av a → h0 a ≠ none), Ctx X (P.at h0 hav) N sc → PSs X body (liftS (P.at h0 hav) (execs Φ F BD)))
    (hs : ∀ x, foldedSetIterable iter X.env x = pure x := by intro _; rfl) : PS X (.For tg iter body [] pos) (liftS P (exec Φ F (.for t k ES BD))) := by
  refine PS.imp (ps_for C.po C.calm hi hg (PSs.ofAll (ι := { h0 : Hp // ∀ a, P.Av a → h0 a ≠ none }) fun i => hb i.1 i.2 (C.at i.1 i.2)) hs) fun D σ H ⟨e, R, p⟩ => ⟨e, R, ?_⟩
  simp only [exec] at p
  unfold srcs
  cases qx : evs Φ ES e with
  | ex c => rw [qx] at p; exact fun H1 s => p σ H1 (R.same s)
  | stuck => rw [qx] at p; exact p.elim
  | ok xs =>
    rw [qx] at p
    simp only [Out.ofR_ok] at p
    simp only [Res.bind_ok]
    cases qs : srcD k xs with
    | none => rw [qs] at p; exact p.elim
    | some its =>
      rw [qs] at p
      simp only [] at p
      intro J H1 s1 io
      have R1 := R.same s1
      refine ⟨fun i m σ2 H2 => m = its.length - i ∧ i ≤ its.length ∧ ∃ e2, Rel (P.at (lessOwn e σ H1) (lessOwn_av R1)) e2 σ2 H2 ∧ PostS (P.at (lessOwn e σ H1) (lessOwn_av R1)) D (forL (fun e' => execs Φ F BD e') t (its.drop i) e2), ⟨its.length, by omega, Nat.zero_le _, e, R1.into, PostS.into R1 (by simpa using p)⟩, ?_⟩
      rintro i m σ2 H2 ⟨rfl, hi, e2, R2, p2⟩
      obtain ⟨hgo, hstop, hy⟩ := io i H2 fun b o q n => R2.fr _ _ (show lessOwn e σ H1 b = some o by unfold lessOwn; rw [if_neg n]; exact q)
      by_cases hlt : i < its.length
      · refine .inr ⟨hgo hlt, fun σ' H' => ∃ e3, Rel (P.at (lessOwn e σ H1) (lessOwn_av R1)) e3 σ' H' ∧ PostS (P.at (lessOwn e σ H1) (lessOwn_av R1)) D (forL (fun e' => execs Φ F BD e') t (its.drop (i + 1)) e3), fun σ' H' z => ⟨its.length - (i + 1), by omega, rfl, by omega, z⟩, fun x H' y => ?_⟩
        rw [List.drop_eq_getElem_cons hlt] at p2
        simp only [forL] at p2
        cases qb : bindT t its[i] e2 with
        | none => rw [qb] at p2; exact p2.elim
        | some e3 =>
          rw [qb] at p2
          obtain ⟨s3, dx⟩ := hy x H' y _ (List.getElem?_eq_getElem hlt)
          have R3 := R2.same s3
          refine ⟨P.at (lessOwn e σ H1) (lessOwn_av R1), e2, _, e3, rfl, R3, dx.imp (fun _ _ z => z) (fun b _ z => ?_), qb, fun σ3 R4 _ => ⟨⟨lessOwn e σ H1, lessOwn_av R1⟩, e3, R4, PostS.turn (fun e' σ' H' R' z => ⟨e', R', z⟩) p2⟩⟩
          rcases z with z | z
          · exact .inl (.inl z)
          · have q := R2.new b z
            have q : lessOwn e σ H1 b = none := q
            unfold lessOwn at q
            split at q
            · rename_i w; exact .inl (.inr w)
            · exact .inr q
      · refine .inl ⟨hstop (by omega), ?_⟩
        rw [List.drop_of_length_le (by omega)] at p2
        simp only [forL] at p2
        exact p2 σ2 H2 R2
end
end Rf

set_option Elab.async false
set_option linter.all false
set_option maxRecDepth 100000
set_option maxHeartbeats 1000000
/-! Rf, part I: a def's promise; the program. -/
namespace Rf
open PySem PySem.Spec PyProof.Rows L2
section
variable {pr : Program} {w : World} {K : PySem.W.Frag} {mg : Str → Option Value} {base : Heap} {ca : Nat → Addr}
/-- what the top has written of a def -/
structure Txt (K : PySem.W.Frag) (mg : Str → Option Value) (x : Str) (st : Stmt) (ps : List Str) : Prop where
  ex : ∃ f fd, Fun K x x st f fd ∧ mg x = some (.ref f) ∧ Binds K fd ps []
/-- the def i, called n deep -/
structure Good (pr : Program) (w : World) (K : PySem.W.Frag) (mg : Str → Option Value) (base : Heap) (ca : Nat → Addr) (T : List Fdef) (F : Nat) (x : Str) (i n : Nat) : Prop where
  ex : ∃ f fd ps, FnOk pr w K mg base (L2.CX pr w) n f fd ps (spP K ca (phi T F n) i) ∧ mg x = some (.ref f) ∧ PySem.W.keepIn K (.ref f) = true ∧ Binds K fd ps []
theorem Good.fn {T : List Fdef} {F : Nat} {x : Str} {i n : Nat} {A : Around} (g : Good pr w K mg base ca T F x i n) (hr : Room n A) : Fn1 pr w K mg base A ca (phi T F n) x i := by
  obtain ⟨f, fd, ps, ok, h1, h2, h3⟩ := g.ex
  exact ⟨n, f, fd, ps, ok, hr, h1, h2, h3⟩
theorem good_zero {T : List Fdef} {F : Nat} {x : Str} {i : Nat} {st : Stmt} {ps : List Str} (t : Txt K mg x st ps) : Good pr w K mg base ca T F x i 0 := by
  obtain ⟨f, fd, fn, h1, h2⟩ := t.ex
  refine ⟨f, fd, ps, ⟨fun vs H Q E h => ?_, fun A outer s H args us vs Q E hr he hb hv h => ?_⟩, h1, fn.kp, h2⟩ <;> (obtain ⟨av, ds, _, _, h⟩ := h; exact h.elim)
theorem start_get {N : List Str} {vs : List V} {i : Nat} {v : V} (h : vs[i]? = some v) : (L2.start N vs)[i]? = some (some v) := by
  unfold L2.start
  rw [List.getElem?_append_left (by rw [List.length_map]; exact (List.getElem?_eq_some_iff.mp h).1), List.getElem?_map, h]
  rfl
theorem rel_start {P : Pk} {N : List Str} {vs : List V} {ds : List D} (hd : Dens P.K P.Av P.H0 vs ds) (hl : ds.length ≤ N.length) : Rel P (ds.map .d ++ List.replicate (N.length - ds.length) .un) (L2.start N vs) P.H0 := by
  have hlen := hd.length
  have noOwn : ∀ (i : Nat) (s : Slot), (ds.map Slot.d ++ List.replicate (N.length - ds.length) Slot.un)[i]? = some s → isOwn s = false := fun i s h => by
    by_cases hi : i < ds.length
    · rw [List.getElem?_append_left (by rw [List.length_map]; exact hi), List.getElem?_map, List.getElem?_eq_getElem hi] at h
      simp only [Option.map_some, Option.some.injEq] at h
      subst h; rfl
    · rw [List.getElem?_append_right (by rw [List.length_map]; omega), List.getElem?_replicate] at h
      split at h
      · simp only [Option.some.injEq] at h; subst h; rfl
      · cases h
  have no : ∀ a, ¬ Owns (ds.map Slot.d ++ List.replicate (N.length - ds.length) Slot.un) (L2.start N vs) a := fun a ⟨i, s, h1, h2, _⟩ => by
    rw [noOwn i s h1] at h2; cases h2
  refine ⟨?_, fun i s o h1 h2 => ?_, fun i j s t a h1 h2 => ?_, Same.refl _, fun a h => absurd h (no a)⟩
  · unfold L2.start
    simp only [List.length_append, List.length_map, List.length_replicate]
    omega
  · by_cases hi : i < ds.length
    · rw [List.getElem?_append_left (by rw [List.length_map]; exact hi), List.getElem?_map, List.getElem?_eq_getElem hi] at h1
      simp only [Option.map_some, Option.some.injEq] at h1
      subst h1
      obtain ⟨v, hv, dv⟩ := hd.getD (List.getElem?_eq_getElem hi)
      rw [start_get hv] at h2
      simp only [Option.some.injEq] at h2
      subst h2
      exact ⟨v, rfl, dv.imp (fun _ _ z => z) fun a _ z => z.elim id fun z => absurd z (no a)⟩
    · rw [List.getElem?_append_right (by rw [List.length_map]; omega), List.getElem?_replicate] at h1
      split at h1
      · simp only [Option.some.injEq] at h1; subst h1; trivial
      · cases h1
  · rw [noOwn i s h1] at h2; cases h2
/-- the reading of a body, at the entry -/
theorem entry {P : Pk} {N : List Str} {vs : List V} {ds : List D} {fn : Fdef} {Φ : FT} {F : Nat} {Q : VK} {E : XK} (hd : Dens P.K P.Av P.H0 vs ds) (hns : fn.ns = N.length) (hnp : fn.np ≤ N.length) (hW : P.W = fun cls d _ H => E cls d H)
    (h : match fn.run Φ F ds with
      | .ok d => ∀ v H', Same P.H0 H' → Den P.K P.Av H' v d → Q v H'
      | .ex c => ∀ H', Same P.H0 H' → E (.ref (P.ca c)) none H'
      | .stuck => False) : liftS P (execs Φ F fn.body) { nx := fun _ H' => Q .non H', rt := Q } (L2.start N vs) P.H0 := by
  unfold Fdef.run at h
  by_cases hl : ds.length = fn.np
  · rw [if_pos hl, hns, ← hl] at h
    refine ⟨_, rel_start hd (by omega), ?_⟩
    cases q : execs Φ F fn.body (ds.map .d ++ List.replicate (N.length - ds.length) .un) with
    | ret x => rw [q] at h; exact h
    | nx e' => rw [q] at h; exact fun σ' H' R => h .non H' R.fr .none
    | ex c e' => rw [q] at h; exact fun σ' H' R => by rw [hW]; exact h H' R.fr
    | bk e' => rw [q] at h; exact h.elim
    | ct e' => rw [q] at h; exact h.elim
    | stuck => rw [q] at h; exact h.elim
  · rw [if_neg hl] at h; exact h.elim
/-- a body's context -/
@[reducible] def cxG (pr : Program) (w : World) (K : PySem.W.Frag) (mg : Str → Option Value) (base : Heap) (N : List Str) (x : Str) (st : Stmt) (A : Around) (s0 : Shared) (H0 : Hp) (a f : Addr) (cdv : Value) (outer : List Env) (xe : Value → Shared → Prop) : Cx :=
  { prog := pr, w := w, K := K, mg := mg, base := base, A := A, N := N, s_0 := s0, H_0 := H0, env := envOfC x (defScope st) a f cdv, outer := outer, stack := envOfC x (defScope st) a f cdv :: outer, ex := [], calm := true, fn := fun _ => true, pn := [], xe := xe }
/-- a body's walk -/
def Walk (pr : Program) (w : World) (K : PySem.W.Frag) (mg : Str → Option Value) (base : Heap) (ca : Nat → Addr) (N : List Str) (x : Str) (st : Stmt) (n : Nat) (f : Sl → Out) : Prop :=
  ∀ (A : Around) (s0 : Shared) (H0 : Hp) (a fA : Addr) (cdv : Value) (outer : List Env) (xe : Value → Shared → Prop) (h0 : Hp) (av : Addr → Prop) (avok : ∀ a, av a → h0 a ≠ none) (W : WX), Room n A →
    Ctx (cxG pr w K mg base N x st A s0 H0 a fA cdv outer xe) ⟨K, h0, av, avok, W, ca⟩ N (defScope st) → PSs (cxG pr w K mg base N x st A s0 H0 a fA cdv outer xe) (defBody st) (liftS ⟨K, h0, av, avok, W, ca⟩ f)
/-- a def keeps its promise -/
theorem good_succ {T : List Fdef} {F : Nat} {x : Str} {i n : Nat} {st : Stmt} {N ps : List Str} {fn : Fdef} (t : Txt K mg x st ps) (S : FnScope N ps (defScope st)) (hT : T[i]? = some fn) (hnp : fn.np = ps.length) (hns : fn.ns = N.length) (hle : ps.length ≤ N.length)
    (hb : Walk pr w K mg base ca N x st n (execs (phi T F n) F fn.body)) :
    Good pr w K mg base ca T F x i (n + 1) := by
  obtain ⟨f, fd, F0, h1, h2⟩ := t.ex
  refine ⟨f, fd, ps, F0.okX S (fun vs H Q E h => ?_) (fun cdv A outer s H vs Q E hr h => ?_), h1, F0.kp, h2⟩
  · obtain ⟨av, ds, _, hd, h⟩ := h
    simp only [phi, hT] at h
    unfold Fdef.run at h
    by_cases hl : ds.length = fn.np
    · rw [hd.length, hl, hnp]
    · rw [if_neg hl] at h; exact h.elim
  · obtain ⟨av, ds, hav, hd, h⟩ := h
    simp only [phi, hT] at h
    refine ⟨_, hb (A.deeper (envOfC x (defScope st) s.heap.objs.size f cdv)) s H _ f cdv outer _ H av hav (fun cls d _ H => E cls d H) hr ⟨rfl, rfl, S.nd, rfl, rfl, ?_, takes_of rfl rfl rfl rfl, passes_of rfl⟩, entry hd hns (by rw [hnp]; exact hle) rfl h⟩
    have := hr.un
    show (A.deeper (envOfC x (defScope st) s.heap.objs.size f cdv)).units + 190 < cLine
    omega
/-- a def out of which no exception comes -/
theorem calm_ok {T : List Fdef} {F : Nat} {x : Str} {i n : Nat} {st : Stmt} {N ps : List Str} {fn : Fdef} {f : Addr} {fd : FuncData} {sp : Sp} (F0 : Fun K x x st f fd) (S : FnScope N ps (defScope st)) (hT : T[i]? = some fn) (hnp : fn.np = ps.length) (hns : fn.ns = N.length) (hle : ps.length ≤ N.length)
    (hb : Walk pr w K mg base ca N x st n (execs (phi T F n) F fn.body))
    (hsp : ∀ vs H Q E, sp vs H Q E → ∃ ds d, Dens K (fun _ => False) H vs ds ∧ phi T F (n + 1) i ds = .ok d ∧ ∀ v H', Same H H' → Den K (fun _ => False) H' v d → Q v H') : FnOk pr w K mg base L2.CX0 (n + 1) f fd ps sp := by
  refine F0.ok S (fun vs H Q E h => ?_) (fun cdv A outer s H vs Q E hr h => ?_)
  · obtain ⟨ds, d, hd, h, _⟩ := hsp vs H Q E h
    simp only [phi, hT] at h
    unfold Fdef.run at h
    by_cases hl : ds.length = fn.np
    · rw [hd.length, hl, hnp]
    · rw [if_neg hl] at h; cases h
  · obtain ⟨ds, d, hd, h, q⟩ := hsp vs H Q E h
    simp only [phi, hT] at h
    refine ⟨_, hb (A.deeper (envOfC x (defScope st) s.heap.objs.size f cdv)) s H _ f cdv outer (fun _ _ => False) H (fun _ => False) (fun _ z => z.elim) (fun _ _ _ _ => False) hr ⟨rfl, rfl, S.nd, rfl, rfl, ?_, takes0, PassesOwn.never⟩, entry (E := fun _ _ _ => False) hd hns (by rw [hnp]; exact hle) rfl (by rw [h]; exact q)⟩
    have := hr.un
    show (A.deeper (envOfC x (defScope st) s.heap.objs.size f cdv)).units + 190 < cLine
    omega
/-- the law's own promise: at every script of at most k ints it answers True -/
def spLaw (k : Nat) (K : PySem.W.Frag) : Sp := fun vs H Q _ => ∃ (a : Addr) (ns : List Int), vs = [.ref a] ∧ SqL K H a (ns.map V.int) ∧ ns.length ≤ k ∧ ∀ H', Q (.bl true) H'
theorem law_ok {T : List Fdef} {F k : Nat} {x p : Str} {i n : Nat} {st : Stmt} {N : List Str} {fn : Fdef} {f : Addr} {fd : FuncData} (F0 : Fun K x x st f fd) (S : FnScope N [p] (defScope st)) (hT : T[i]? = some fn) (hnp : fn.np = 1) (hns : fn.ns = N.length) (hle : 1 ≤ N.length)
    (hb : Walk pr w K mg base ca N x st n (execs (phi T F n) F fn.body))
    (hm : ∀ ns : List Int, ns.length ≤ k → phi T F (n + 1) i [.list (ns.map .int)] = .ok (.bool true)) : FnOk pr w K mg base L2.CX0 (n + 1) f fd [p] (spLaw k K) :=
  calm_ok F0 S hT hnp hns hle hb fun vs H Q E ⟨a, ns, hv, hS, hl, q⟩ => ⟨[.list (ns.map .int)], .bool true, by rw [hv]; exact .cons (.list hS (.inl fun z => z) (dens_ints ns)) .nil, hm ns hl, fun v H' _ hd => by cases hd; exact q H'⟩
end
end Rf

set_option Elab.async false
set_option linter.all false
set_option maxRecDepth 100000
set_option maxHeartbeats 1000000
/-! Rf, part J: backwards. -/
namespace Rf
open PySem PySem.Spec PyProof.Rows L2
theorem rev_text (z : Str) (u : Tok) : Txt.sliceBy z none none (-1, u) = S z.cps.toList.reverse := by
  have h := step_rev_list z u
  have e : (Txt.sliceBy z none none (-1, u)).cps.toList = z.cps.toList.reverse := by
    rw [h]
    apply List.ext_getElem
    · simp [Str.length]
    · intro i h1 h2
      simp only [List.length_map, List.length_range] at h1
      simp only [List.getElem_map, List.getElem_range, List.getElem_reverse, Array.getElem_toList, Array.length_toList]
      have : z.length - 1 - i < z.cps.size := by show _ < z.length; omega
      rw [Array.getD_eq_getD_getElem?, Array.getElem?_eq_getElem this]
      rfl
  cases q : Txt.sliceBy z none none (-1, u) with
  | mk c =>
    rw [q] at e
    simp only at e
    rw [← e]
section
variable {X : Cx} {P : Pk} {N : List Str} {sc : Scope} {m : Nat} {Φ : FT} {A : Exp} {a : Expr} {pos : Pos}
theorem pe_revS {e : Expr} {te : L2.TE} {k : Nat} {p1 p2 p3 : Pos} (he : PE X e te) : PE X (.Subscript e (.Slice none none (some (.UnaryOp .USub (.Constant (.int 1) k p1) p2)) p3) pos) (fun σ H Q => te σ H fun x H1 => ∃ z, x = .str z ∧ z.length ≤ sizeLine ∧ Q (.str (S z.cps.toList.reverse)) H1) := by
  refine ⟨fun pins s σ H Q I h => ?_⟩
  refine Subscript_ (thn (he.run pins s σ H _ I h) fun v s1 ⟨x, H1, I1, r1, q1⟩ => ?_)
  obtain ⟨z, rfl, hz, q⟩ := q1
  obtain ⟨t, rfl⟩ := r1
  have third : PO X (some (.UnaryOp .USub (.Constant (.int 1) k p1) p2)) (tPart (tUn (rU fun i => .int (-i)) (tC (.int 1)))) := po_some (pe_un un_neg pe_int)
  refine wpAny_Slice (thn (po_none.run pins s1 σ H1 (fun o H2 => o = none ∧ H2 = H1) I1 ⟨rfl, rfl⟩) fun vl s2 ⟨l, H2, I2, pl, w1, w2⟩ => ?_)
  subst w1 w2
  refine thn (po_none.run pins s2 σ H2 (fun o H3 => o = none ∧ H3 = H2) I2 ⟨rfl, rfl⟩) fun vu s3 ⟨u, H3, I3, pu, w1, w2⟩ => ?_
  subst w1 w2
  refine thn (third.run pins s3 σ H3 (fun o H4 => o = some (-1) ∧ H4 = H3) I3 ⟨1, rfl, -1, rfl, rfl, rfl⟩) fun vs s4 ⟨o, H4, I4, ps, w1, w2⟩ => ?_
  subst w1 w2
  obtain ⟨l, rfl, hl⟩ := IsPart.raw pl
  obtain ⟨u, rfl, hu⟩ := IsPart.raw pu
  obtain ⟨st, rfl, hst⟩ := IsPart.raw ps
  have e1 : l = none := by cases l with | none => rfl | some _ => cases hl
  have e2 : u = none := by cases u with | none => rfl | some _ => cases hu
  subst e1 e2
  obtain ⟨tk, rfl⟩ : ∃ tk, st = some (-1, tk) := by
    cases st with
    | none => cases hst
    | some p => obtain ⟨i, tk⟩ := p; cases hst; exact ⟨tk, rfl⟩
  have I5 : Inv X pins σ H4 { s4 with heap := s4.heap.push { cls := .type "slice", data := .fields #[partValue none, partValue none, partValue (some (-1, tk))] } } := I4.kept (t' := s4.toks) fun b ob q => Heap.get?_push_of_some _ q
  show wpAny (model X.prog X.w) X.A (subscriptTail e (.Slice none none (some (.UnaryOp .USub (.Constant (.int 1) k p1) p2)) p3) (.str z t) (.ref s4.heap.objs.size)) (EP X pins σ Q) X.xe { s4 with heap := s4.heap.push { cls := .type "slice", data := .fields #[partValue none, partValue none, partValue (some (-1, tk))] } }
  refine tail_any (ops := [.ref s4.heap.objs.size, .str z t]) (typeIs_str _ z t) (PySem.F.slot_str_getitem.lookup) ?_ (by with_unfolding_all rfl)
  refine wpAny_getItem_str_slice (l := none) (u := none) (st := some (-1, tk)) ⟨_, Heap.get?_push_size _ rfl, rfl, rfl⟩ rfl ?_
  have c : ¬ (((((some ((-1 : Int), tk)).map (·.1)).getD 1 == 1) && ((slicePicked z none none (some (-1, tk))).length == z.length)) = true) := by
    have : ((((some ((-1 : Int), tk)).map (·.1)).getD 1 == 1)) = false := rfl
    rw [this]; simp
  have hs : sliceMade z t none none (some (-1, tk)) = .str (S z.cps.toList.reverse) := by
    rw [← rev_text z tk]
    unfold sliceMade Txt.sliceBy
    rw [if_neg c, if_neg c]
  rw [hs]
  refine ⟨?_, .str _, _, I5.tok _, ⟨_, rfl⟩, q⟩
  show (S z.cps.toList.reverse).cps.size ≤ sizeLine
  simpa [Str.length] using hz
theorem se_revS {k : Nat} {p1 p2 p3 : Pos} (ha : PE X a (lift P 0 (ev Φ A))) : PE X (.Subscript a (.Slice none none (some (.UnaryOp .USub (.Constant (.int 1) k p1) p2)) p3) pos) (lift P m (ev Φ (.revs A))) := by
  refine PE.imp (pe_revS ha) fun σ H Q ⟨e, R, p⟩ => ⟨e, R, ?_⟩
  simp only [ev] at p
  refine Post.weaken (bindZ (α := D) (m := 0) gdPost R p) fun v H1 ⟨x, _, s1, R1, d1, p1⟩ => ?_
  cases x with
  | str z =>
    obtain rfl := d2_str d1
    simp only [revsD] at p1
    split at p1
    · rename_i hz
      exact ⟨z, rfl, line_le hz, p1 _ H1 (Same.refl _) (DenM.up (.str _))⟩
    · exact p1.elim
  | _ => exact p1.elim
theorem se_revL (C : Ctx X P N sc) {k : Nat} {p1 p2 p3 : Pos} (ha : PE X a (lift P (sub m) (ev Φ A))) : PE X (.Subscript a (.Slice none none (some (.UnaryOp .USub (.Constant (.int 1) k p1) p2)) p3) pos) (liftN P m (ev Φ (.rev A))) := by
  refine PE.imp (pe_revL ha) fun σ H Q ⟨e, R, p⟩ => ⟨e, R, ?_⟩
  simp only [ev] at p
  refine Post.weaken (bindZ (α := D) (m := sub m) gdPostN R p) fun v H1 ⟨x, _, s1, R1, d1, p1⟩ => ?_
  cases x with
  | list xs =>
    unfold DenM at d1
    rw [av1_sub] at d1
    obtain ⟨l, us, rfl, h1, h2⟩ := d2_lst d1
    exact ⟨l, us, rfl, by rw [C.hK]; exact h1, fun p np => p1 _ _ (same_upd np) (new_lst np h2.reverse)⟩
  | _ => exact p1.elim
theorem Fr2.mono {K : PySem.W.Frag} {a1 b1 : Addr → Prop} {H H' : Hp} {z : V} {d : D} (f : ∀ a, b1 a → a1 a) (h : Fr2 K a1 H z H' d) : Fr2 K b1 H z H' d := by
  cases d with
  | list ds => obtain ⟨p, xs, e1, n, e, t⟩ := h; exact ⟨p, xs, e1, n, e, t.imp (fun _ _ z => z) fun a _ z => z.imp (f a) id⟩
  | dict ds => obtain ⟨p, xs, e1, n, e, t⟩ := h; exact ⟨p, xs, e1, n, e, t.imp (fun _ _ z => z) fun a _ z => z.imp (f a) id⟩
  | none => exact Den.imp (fun _ _ z => z) (fun a _ => f a) h
  | bool _ => exact Den.imp (fun _ _ z => z) (fun a _ => f a) h
  | int _ => exact Den.imp (fun _ _ z => z) (fun a _ => f a) h
  | str _ => exact Den.imp (fun _ _ z => z) (fun a _ => f a) h
  | tuple _ => exact Den.imp (fun _ _ z => z) (fun a _ => f a) h
theorem PE.modeN {f : Sl → Res D} (h : PE X a (liftN P 2 f)) : PE X a (liftN P m f) := Rf.PE.imp h fun σ H Q ⟨e, R, p⟩ => ⟨e, R, by
  cases q : f e with
  | ok d => rw [q] at p; exact fun v H' s hd => p v H' s (hd.mono fun a z => by
      match m with
      | 0 => exact .inl z
      | _ + 1 => exact z)
  | ex c => rw [q] at p; exact p
  | stuck => rw [q] at p; exact p⟩
theorem se_globI {x : Str} {i : Int} {t : Tok} (hg : X.env.kindOf x = some .globalImplicit) (hm : X.mg x = some (.int i t)) (hdb : (x == ("__debug__" : Str)) = false := by decide) : PE X (.Name x pos) (lift P m (ev Φ (.con (.int i)))) := se_glob (v := .int i) hg hm ⟨_, rfl⟩ (fun _ _ => .int i) hdb
theorem se_globS {x i : Str} {t : Tok} (hg : X.env.kindOf x = some .globalImplicit) (hm : X.mg x = some (.str i t)) (hdb : (x == ("__debug__" : Str)) = false := by decide) : PE X (.Name x pos) (lift P m (ev Φ (.con (.str i)))) := se_glob (v := .str i) hg hm ⟨_, rfl⟩ (fun _ _ => .str i) hdb
theorem se_globB {x : Str} {i : Bool} (hg : X.env.kindOf x = some .globalImplicit) (hm : X.mg x = some (.bool i)) (hdb : (x == ("__debug__" : Str)) = false := by decide) : PE X (.Name x pos) (lift P m (ev Φ (.con (.bool i)))) := se_glob (v := .bl i) hg hm rfl (fun _ _ => .bool i) hdb
end
end Rf

set_option Elab.async false
set_option linter.all false
set_option maxRecDepth 100000
set_option maxHeartbeats 1000000
/-! Rf, part K: tools for the evaluator. -/
namespace Rf
open PySem
section
variable {Φ : FT} {F : Nat} {e : Sl}
@[simp] theorem e_nop : ev Φ .nop e = .ok .none := by simp only [ev]
@[simp] theorem e_con {x : D} : ev Φ (.con x) e = .ok x := by simp only [ev]
def varK : Option Slot → Res D
  | some (.d x) => .ok x
  | _ => .stuck
def vwK : Option Slot → Res D
  | some (.d x) => .ok x
  | some (.ol xs) => .ok (.list xs)
  | some (.od kvs) => .ok (.dict kvs)
  | _ => .stuck
@[simp] theorem varK_d {x : D} : varK (some (.d x)) = .ok x := id rfl
@[simp] theorem vwK_d {x : D} : vwK (some (.d x)) = .ok x := id rfl
@[simp] theorem vwK_l {x : List D} : vwK (some (.ol x)) = .ok (.list x) := id rfl
@[simp] theorem vwK_k {x : List (D × D)} : vwK (some (.od x)) = .ok (.dict x) := id rfl
@[simp] theorem e_var {i : Nat} : ev Φ (.var i) e = varK e[i]? := by simp only [ev]; cases e[i]? with
  | none => rfl
  | some s => cases s <;> rfl
@[simp] theorem e_vw {i : Nat} : ev Φ (.vw i) e = vwK e[i]? := by simp only [ev]; cases e[i]? with
  | none => rfl
  | some s => cases s <;> rfl
def binK (op : BOp) (x y : D) : Res D := .of (binD op x y)
def cmpK (op : COp) (x y : D) : Res D := .of ((cmpD op x y).map .bool)
def andK (Φ : FT) (b : Exp) (e : Sl) : D → Res D
  | .bool true => ev Φ b e
  | .bool false => .ok (.bool false)
  | _ => .stuck
def orK (Φ : FT) (b : Exp) (e : Sl) : D → Res D
  | .bool true => .ok (.bool true)
  | .bool false => ev Φ b e
  | _ => .stuck
def notK : D → Res D
  | .bool k => .ok (.bool (!k))
  | _ => .stuck
def negK : D → Res D
  | .int k => .ok (.int (-k))
  | _ => .stuck
def iteK (Φ : FT) (a b : Exp) (e : Sl) : D → Res D
  | .bool true => ev Φ a e
  | .bool false => ev Φ b e
  | _ => .stuck
def chK2 (o2 : COp) (y z : D) : Res D := .of ((cmpD o2 y z).map .bool)
def chK (Φ : FT) (o2 : COp) (c : Exp) (e : Sl) (y : D) : Bool → Res D
  | true => (ev Φ c e).bind (chK2 o2 y)
  | false => .ok (.bool false)
@[simp] theorem andK_t {b : Exp} : andK Φ b e (.bool true) = ev Φ b e := id rfl
@[simp] theorem andK_f {b : Exp} : andK Φ b e (.bool false) = .ok (.bool false) := id rfl
@[simp] theorem orK_t {b : Exp} : orK Φ b e (.bool true) = .ok (.bool true) := id rfl
@[simp] theorem orK_f {b : Exp} : orK Φ b e (.bool false) = ev Φ b e := id rfl
@[simp] theorem notK_b {b : Bool} : notK (.bool b) = .ok (.bool (!b)) := id rfl
@[simp] theorem negK_i {b : Int} : negK (.int b) = .ok (.int (-b)) := id rfl
@[simp] theorem iteK_t {a b : Exp} : iteK Φ a b e (.bool true) = ev Φ a e := id rfl
@[simp] theorem iteK_f {a b : Exp} : iteK Φ a b e (.bool false) = ev Φ b e := id rfl
@[simp] theorem chK_t {o2 : COp} {c : Exp} {y : D} : chK Φ o2 c e y true = (ev Φ c e).bind (chK2 o2 y) := id rfl
@[simp] theorem chK_f {o2 : COp} {c : Exp} {y : D} : chK Φ o2 c e y false = .ok (.bool false) := id rfl
@[simp] theorem e_bin {op : BOp} {a b : Exp} : ev Φ (.bin op a b) e = (ev Φ a e).bind fun x => (ev Φ b e).bind (binK op x) := by simp only [ev]; rfl
@[simp] theorem e_cmp {op : COp} {a b : Exp} : ev Φ (.cmp op a b) e = (ev Φ a e).bind fun x => (ev Φ b e).bind (cmpK op x) := by simp only [ev]; rfl
@[simp] theorem e_chain {o1 o2 : COp} {a b c : Exp} : ev Φ (.chain o1 o2 a b c) e = (ev Φ a e).bind fun x => (ev Φ b e).bind fun y => (Res.of (cmpD o1 x y)).bind (chK Φ o2 c e y) := by
  simp only [ev]
  congr 1; funext x; congr 1; funext y; congr 1; funext k
  cases k <;> rfl
@[simp] theorem e_and {a b : Exp} : ev Φ (.and a b) e = (ev Φ a e).bind (andK Φ b e) := by simp only [ev]; rfl
@[simp] theorem e_or {a b : Exp} : ev Φ (.or a b) e = (ev Φ a e).bind (orK Φ b e) := by simp only [ev]; rfl
@[simp] theorem e_not {a : Exp} : ev Φ (.not a) e = (ev Φ a e).bind notK := by simp only [ev]; rfl
@[simp] theorem e_neg {a : Exp} : ev Φ (.neg a) e = (ev Φ a e).bind negK := by simp only [ev]; rfl
@[simp] theorem e_ite {c a b : Exp} : ev Φ (.ite c a b) e = (ev Φ c e).bind (iteK Φ a b e) := by simp only [ev]; rfl
@[simp] theorem e_tup {es : List Exp} : ev Φ (.tup es) e = (evs Φ es e).bind fun xs => .ok (.tuple xs) := by simp only [ev]
@[simp] theorem e_lst {es : List Exp} : ev Φ (.lst es) e = (evs Φ es e).bind fun xs => .ok (.list xs) := by simp only [ev]
@[simp] theorem e_emp : ev Φ .emp e = .ok (.dict []) := by simp only [ev]
def idxK (x y : D) : Res D := .of (idxD x y)
@[simp] theorem e_idx {a b : Exp} : ev Φ (.idx a b) e = (ev Φ a e).bind fun x => (ev Φ b e).bind (idxK x) := by simp only [ev]; rfl
def slK (x : D) (l h : Option Int) : Res D := .of (sliceD x l h)
@[simp] theorem e_sl {a l h : Exp} : ev Φ (.sl a l h) e = (ev Φ a e).bind fun x => (evo Φ l e).bind fun l => (evo Φ h e).bind (slK x l) := by simp only [ev]; rfl
@[simp] theorem evo_nop : evo Φ .nop e = .ok none := id rfl
theorem evo_of {a : Exp} {i : Int} (h : a.isNop = false) (h2 : ev Φ a e = .ok (.int i)) : evo Φ a e = .ok (some i) := by unfold evo; rw [h, if_neg (by decide), h2]; rfl
def partK : D → Res (Option Int) := partD
@[simp] theorem partK_i {i : Int} : partK (.int i) = .ok (some i) := id rfl
@[simp] theorem evo_con {x : D} : evo Φ (.con x) e = partK x := id rfl
@[simp] theorem evo_var {i : Nat} : evo Φ (.var i) e = (varK e[i]?).bind partK := by rw [← e_var (Φ := Φ)]; rfl
@[simp] theorem evo_bin {op : BOp} {a b : Exp} : evo Φ (.bin op a b) e = (ev Φ (.bin op a b) e).bind partK := id rfl
@[simp] theorem evo_idx {a b : Exp} : evo Φ (.idx a b) e = (ev Φ (.idx a b) e).bind partK := id rfl
@[simp] theorem evo_neg {a : Exp} : evo Φ (.neg a) e = (ev Φ (.neg a) e).bind partK := id rfl
@[simp] theorem evo_call {f : Nat} {a : List Exp} : evo Φ (.call f a) e = (ev Φ (.call f a) e).bind partK := id rfl
@[simp] theorem evo_blt {f : Blt} {a : List Exp} : evo Φ (.blt f a) e = (ev Φ (.blt f a) e).bind partK := id rfl
@[simp] theorem e_rev {a : Exp} : ev Φ (.rev a) e = (ev Φ a e).bind fun x => .of (revD x) := by simp only [ev]
@[simp] theorem e_revs {a : Exp} : ev Φ (.revs a) e = (ev Φ a e).bind fun x => .of (revsD x) := by simp only [ev]
@[simp] theorem e_call {f : Nat} {es : List Exp} : ev Φ (.call f es) e = (evs Φ es e).bind (Φ f) := by simp only [ev]
def flK (y : D) : Res D := if noLst y then .ok y else .stuck
@[simp] theorem e_callv {f : Nat} {es : List Exp} : ev Φ (.callv f es) e = (evs Φ es e).bind fun xs => (Φ f xs).bind flK := by simp only [ev]; rfl
@[simp] theorem flK_i {i : Int} : flK (.int i) = .ok (.int i) := id rfl
@[simp] theorem flK_b {i : Bool} : flK (.bool i) = .ok (.bool i) := id rfl
@[simp] theorem flK_s {i : Str} : flK (.str i) = .ok (.str i) := id rfl
@[simp] theorem flK_n : flK .none = .ok .none := id rfl
def bltK (b : Blt) (xs : List D) : Res D := .of (bltD b xs)
@[simp] theorem e_blt {b : Blt} {es : List Exp} : ev Φ (.blt b es) e = (evs Φ es e).bind (bltK b) := by simp only [ev]; rfl
def mthK (m : Mth) (x : D) (xs : List D) : Res D := .of (mthD m x xs)
@[simp] theorem e_mth {m : Mth} {o : Exp} {es : List Exp} : ev Φ (.mth m o es) e = (ev Φ o e).bind fun x => (evs Φ es e).bind (mthK m x) := by simp only [ev]; rfl
def compK (Φ : FT) (elt : Exp) (t : Tgt) (ifs : List Exp) (e : Sl) (its : List D) : Res D :=
  if freeOf e t.ix && decide (its.length ≤ line) then (noEx (compL (ev Φ elt) (evt Φ ifs) t its (wipeS e t.ix))).bind fun ys => .ok (.list ys) else .stuck
def srcK (k : SrcK) (xs : List D) : Res (List D) := .of (srcD k xs)
@[simp] theorem e_comp {elt : Exp} {t : Tgt} {k : SrcK} {es ifs : List Exp} : ev Φ (.comp elt t k es ifs) e = (evs Φ es e).bind fun xs => (srcK k xs).bind (compK Φ elt t ifs e) := by simp only [ev]; rfl
@[simp] theorem srcK_l {xs : List D} : srcK .lst [.list xs] = .ok xs := id rfl
@[simp] theorem srcK_t {xs : List D} : srcK .tup [.tuple xs] = .ok xs := id rfl
@[simp] theorem srcK_s {z : Str} : srcK .str [.str z] = .ok (z.cps.toList.map fun c => .str (S [c])) := id rfl
theorem srcK_r1 {n : Int} (h : n ≤ 4611686018427387903) (h0 : 0 ≤ n) : srcK .rng [.int n] = .ok (rngD 0 n.toNat) := by
  have h1 : -(2 ^ 62) ≤ n ∧ n < 2 ^ 62 := ⟨by omega, by omega⟩
  simp only [srcK, srcD, if_pos h1, Res.of_some]
theorem srcK_rn {n : Nat} (h : n ≤ 1000000) : srcK .rng [.int (n : Int)] = .ok (rngD 0 n) := srcK_r1 (by omega) (by omega)
@[simp] theorem srcK_z {xs ys : List D} : srcK .zip [.list xs, .list ys] = .ok (zipD xs ys) := id rfl
@[simp] theorem srcK_zt {xs ys : List D} : srcK .zip [.tuple xs, .tuple ys] = .ok (zipD xs ys) := id rfl
@[simp] theorem es_nil : evs Φ [] e = .ok [] := by simp only [evs]
@[simp] theorem es_cons {a : Exp} {r : List Exp} : evs Φ (a :: r) e = (ev Φ a e).bind fun x => (evs Φ r e).bind fun xs => .ok (x :: xs) := by simp only [evs]
@[simp] theorem et_nil : evt Φ [] e = .ok true := by simp only [evt]
/-! what the operations give -/
@[simp] theorem binK_add {i j : Int} : binK .add (.int i) (.int j) = .ok (.int (i + j)) := id rfl
@[simp] theorem binK_sub {i j : Int} : binK .sub (.int i) (.int j) = .ok (.int (i - j)) := id rfl
theorem binK_mul {i j : Int} (h : i.natAbs < 18446744073709551616 ∨ j.natAbs < 18446744073709551616) : binK .mul (.int i) (.int j) = .ok (.int (i * j)) := by
  have h1 : i.natAbs < 2 ^ 64 ∨ j.natAbs < 2 ^ 64 := h
  simp only [binK, binD, if_pos h1, Res.of_some]
@[simp] theorem binK_mulr {i j : Int} (h : j.natAbs < 18446744073709551616) : binK .mul (.int i) (.int j) = .ok (.int (i * j)) := binK_mul (.inr h)
@[simp] theorem binK_mull {i j : Int} (h : i.natAbs < 18446744073709551616) : binK .mul (.int i) (.int j) = .ok (.int (i * j)) := binK_mul (.inl h)
@[simp] theorem binK_div {i j : Int} (h : 0 < j) (h2 : j < 1073741824) : binK .fdiv (.int i) (.int j) = .ok (.int (i / j)) := by simp only [binK, binD, if_pos (And.intro h h2), Res.of_some]
@[simp] theorem binK_mod {i j : Int} (h : 0 < j) : binK .mod (.int i) (.int j) = .ok (.int (i % j)) := by simp only [binK, binD, if_pos h, Res.of_some]
@[simp] theorem binK_pow {i j : Int} (h : 0 ≤ j) (h2 : j ≤ 1000000) (h3 : i.natAbs < 18446744073709551616) : binK .pow (.int i) (.int j) = .ok (.int (i ^ j.toNat)) := by
  have h1 : 0 ≤ j ∧ j ≤ 1000000 ∧ i.natAbs < 2 ^ 64 := ⟨h, h2, h3⟩
  simp only [binK, binD, if_pos h1, Res.of_some]
theorem binK_str {x y : Str} (h : x.length + y.length ≤ 1000000) : binK .add (.str x) (.str y) = .ok (.str (x ++ y)) := by
  simp only [binK, binD]
  rw [if_pos (show _ ≤ line from h)]
  rfl
theorem binK_lst {x y : List D} (h : x.length + y.length ≤ 1000000) : binK .add (.list x) (.list y) = .ok (.list (x ++ y)) := by
  simp only [binK, binD]
  rw [if_pos (show _ ≤ line from h)]
  rfl
@[simp] theorem cmpK_lt {i j : Int} : cmpK .lt (.int i) (.int j) = .ok (.bool (decide (i < j))) := id rfl
@[simp] theorem cmpK_le {i j : Int} : cmpK .le (.int i) (.int j) = .ok (.bool (decide (i ≤ j))) := id rfl
@[simp] theorem cmpK_gt {i j : Int} : cmpK .gt (.int i) (.int j) = .ok (.bool (decide (j < i))) := id rfl
@[simp] theorem cmpK_ge {i j : Int} : cmpK .ge (.int i) (.int j) = .ok (.bool (decide (j ≤ i))) := id rfl
@[simp] theorem cmpK_eqI {i j : Int} : cmpK .eq (.int i) (.int j) = .ok (.bool (decide (i = j))) := by
  simp [cmpK, cmpD, eqOk, PyData.canLay0, PyData.depth, PyData.eqv, Bool.beq_eq_decide_eq]
@[simp] theorem cmpK_neI {i j : Int} : cmpK .ne (.int i) (.int j) = .ok (.bool (!decide (i = j))) := by
  simp [cmpK, cmpD, eqOk, PyData.canLay0, PyData.depth, PyData.eqv, Bool.beq_eq_decide_eq]
@[simp] theorem cmpK_eqS {i j : Str} (h : PyData.strOk i = true) (h2 : PyData.strOk j = true) : cmpK .eq (.str i) (.str j) = .ok (.bool (i == j)) := by
  simp [cmpK, cmpD, eqOk, PyData.canLay0, PyData.depth, PyData.eqv, h, h2]
@[simp] theorem cmpK_neS {i j : Str} (h : PyData.strOk i = true) (h2 : PyData.strOk j = true) : cmpK .ne (.str i) (.str j) = .ok (.bool (!(i == j))) := by
  simp [cmpK, cmpD, eqOk, PyData.canLay0, PyData.depth, PyData.eqv, h, h2]
@[simp] theorem cmpK_eqB {i j : Bool} : cmpK .eq (.bool i) (.bool j) = .ok (.bool (decide (i = j))) := by
  cases i <;> cases j <;> rfl
@[simp] theorem cmpK_neB {i j : Bool} : cmpK .ne (.bool i) (.bool j) = .ok (.bool (!decide (i = j))) := by
  cases i <;> cases j <;> rfl
@[simp] theorem cmpK_isB {i j : Bool} : cmpK .is (.bool i) (.bool j) = .ok (.bool (decide (i = j))) := id rfl
@[simp] theorem bltK_lenL {xs : List D} : bltK .len [.list xs] = .ok (.int xs.length) := id rfl
@[simp] theorem bltK_lenT {xs : List D} : bltK .len [.tuple xs] = .ok (.int xs.length) := id rfl
@[simp] theorem bltK_lenD {xs : List (D × D)} : bltK .len [.dict xs] = .ok (.int xs.length) := id rfl
theorem bltK_lenS {z : Str} (h : z.length ≤ 1000000) : bltK .len [.str z] = .ok (.int z.length) := by
  simp only [bltK, bltD]
  rw [if_pos (show _ ≤ line from h)]
  rfl
@[simp] theorem bltK_int {i : Int} : bltK .int [.int i] = .ok (.int i) := id rfl
@[simp] theorem bltK_intB {b : Bool} : bltK .int [.bool b] = .ok (.int (if b then 1 else 0)) := id rfl
@[simp] theorem bltK_abs {i : Int} : bltK .abs [.int i] = .ok (.int (if i < 0 then -i else i)) := id rfl
@[simp] theorem bltK_max {i j : Int} : bltK .max [.int i, .int j] = .ok (.int (if j > i then j else i)) := id rfl
@[simp] theorem bltK_min {i j : Int} : bltK .min [.int i, .int j] = .ok (.int (if j < i then j else i)) := id rfl
@[simp] theorem bltK_tupL {xs : List D} : bltK .tuple [.list xs] = .ok (.tuple xs) := id rfl
@[simp] theorem bltK_tupT {xs : List D} : bltK .tuple [.tuple xs] = .ok (.tuple xs) := id rfl
@[simp] theorem bltK_lstL {xs : List D} : bltK .list [.list xs] = .ok (.list xs) := id rfl
@[simp] theorem bltK_isi {T : Nat} {x : D} : bltK (.isi T) [x] = .of ((isiD T x).map .bool) := by unfold bltK bltD; cases x <;> rfl
@[simp] theorem isi_i {T : Nat} {i : Int} : isiD T (.int i) = some (T == 0) := id rfl
@[simp] theorem isi_b {T : Nat} {i : Bool} : isiD T (.bool i) = some (T == 0 || T == 1) := id rfl
@[simp] theorem isi_s {T : Nat} {i : Str} : isiD T (.str i) = some (T == 2) := id rfl
@[simp] theorem isi_t {T : Nat} {i : List D} : isiD T (.tuple i) = some (T == 3) := id rfl
@[simp] theorem isi_l {T : Nat} {i : List D} : isiD T (.list i) = some (T == 4) := id rfl
/-! statements -/
def asgK (t : Tgt) (e : Sl) (x : D) : Out := match bindT t x e with
  | some e' => .nx e'
  | none => .stuck
def ifK (Φ : FT) (F : Nat) (a b : List Stm) (e : Sl) : D → Out
  | .bool true => execs Φ F a e
  | .bool false => execs Φ F b e
  | _ => .stuck
@[simp] theorem ifK_t {a b : List Stm} : ifK Φ F a b e (.bool true) = execs Φ F a e := id rfl
@[simp] theorem ifK_f {a b : List Stm} : ifK Φ F a b e (.bool false) = execs Φ F b e := id rfl
@[simp] theorem asgK_nm {i : Nat} {x : D} (h : i < e.length) : asgK (.nm i) e x = .nx (e.set i (.d x)) := by unfold asgK bindT; rw [if_pos h]
@[simp] theorem x_nil : execs Φ F [] e = .nx e := by simp only [execs]
@[simp] theorem x_cons {s : Stm} {r : List Stm} : execs Φ F (s :: r) e = (exec Φ F s e).seq (execs Φ F r) := by simp only [execs]
@[simp] theorem seq_nil {o : Out} : o.seq (execs Φ F []) = o := by cases o <;> first | rfl | exact x_nil
@[simp] theorem slK_l {xs : List D} {lo hi : Option Int} : slK (.list xs) lo hi = .ok (.list (cutD xs lo hi)) := id rfl
@[simp] theorem slK_t {xs : List D} {lo hi : Option Int} : slK (.tuple xs) lo hi = .ok (.tuple (cutD xs lo hi)) := id rfl
theorem slK_s {z : Str} {lo hi : Option Int} (h : z.length ≤ line) : slK (.str z) lo hi = .ok (.str (S (cutD z.cps.toList lo hi))) := by
  simp only [slK, sliceD]
  rw [if_pos h]
  rfl
theorem cut_to {α : Type} {xs : List α} {n : Nat} : cutD xs none (some (n : Int)) = xs.take n := by
  unfold cutD
  rw [HT.sIx_none, HT.sIx_nat, Nat.sub_zero, List.drop_zero]
  by_cases h : n ≤ xs.length
  · rw [Nat.min_eq_left h]
  · rw [Nat.min_eq_right (by omega), List.take_length, List.take_of_length_le (by omega)]
theorem cut_from {α : Type} {xs : List α} {n : Nat} : cutD xs (some (n : Int)) none = xs.drop n := by
  unfold cutD
  rw [HT.sIx_none, HT.sIx_nat]
  by_cases h : n ≤ xs.length
  · rw [Nat.min_eq_left h, List.take_of_length_le (by rw [List.length_drop]; omega)]
  · rw [Nat.min_eq_right (by omega), Nat.sub_self, List.take_zero, List.drop_of_length_le (by omega)]
theorem cut_mid {α : Type} {xs : List α} {n m : Nat} (h : n ≤ m) (h2 : m ≤ xs.length) : cutD xs (some (n : Int)) (some (m : Int)) = (xs.drop n).take (m - n) := by
  unfold cutD
  rw [HT.sIx_nat, HT.sIx_nat, Nat.min_eq_left h2, Nat.min_eq_left (by omega)]
@[simp] theorem x_asg {t : Tgt} {a : Exp} : exec Φ F (.asg t a) e = Out.ofR (ev Φ a e) e (asgK t e) := by simp only [exec]; rfl
@[simp] theorem x_ifs {c : Exp} {a b : List Stm} : exec Φ F (.ifs c a b) e = Out.ofR (ev Φ c e) e (ifK Φ F a b e) := by simp only [exec]; rfl
@[simp] theorem x_ret {a : Exp} : exec Φ F (.ret a) e = Out.ofR (ev Φ a e) e .ret := by simp only [exec]
@[simp] theorem x_retn : exec Φ F .retn e = .ret .none := by simp only [exec]
@[simp] theorem x_brk : exec Φ F .brk e = .bk e := by simp only [exec]
@[simp] theorem x_cnt : exec Φ F .cnt e = .ct e := by simp only [exec]
@[simp] theorem x_pas : exec Φ F .pas e = .nx e := by simp only [exec]
def ownK (i : Nat) (e : Sl) (x : D) : Out := match ownS x with
  | some s => if i < e.length then .nx (e.set i s) else .stuck
  | none => .stuck
@[simp] theorem ownK_l {i : Nat} {xs : List D} (h : i < e.length) : ownK i e (.list xs) = .nx (e.set i (.ol xs)) := by simp only [ownK, ownS, if_pos h]
@[simp] theorem ownK_e {i : Nat} (h : i < e.length) : ownK i e (.dict []) = .nx (e.set i (.od [])) := by simp only [ownK, ownS, keysOk, if_pos h, if_true]
@[simp] theorem x_own {i : Nat} {a : Exp} : exec Φ F (.own i a) e = Out.ofR (ev Φ a e) e (ownK i e) := by simp only [exec]; rfl
def appK (Φ : FT) (i : Nat) (a : Exp) (e : Sl) : Option Slot → Out
  | some (.ol xs) => Out.ofR (ev Φ a e) e fun x => if xs.length < line then .nx (e.set i (.ol (xs ++ [x]))) else .stuck
  | _ => .stuck
theorem appK_l {i : Nat} {a : Exp} {xs : List D} : appK Φ i a e (some (.ol xs)) = Out.ofR (ev Φ a e) e fun x => if xs.length < line then .nx (e.set i (.ol (xs ++ [x]))) else .stuck := rfl
@[simp] theorem appK_ok {i : Nat} {a : Exp} {xs : List D} (h : xs.length < line) : appK Φ i a e (some (.ol xs)) = Out.ofR (ev Φ a e) e fun x => .nx (e.set i (.ol (xs ++ [x]))) := by
  rw [appK_l]; congr 1; funext x; rw [if_pos h]
@[simp] theorem x_app {i : Nat} {a : Exp} : exec Φ F (.app i a) e = appK Φ i a e e[i]? := by simp only [exec]; cases e[i]? with
  | none => rfl
  | some s => cases s <;> rfl
@[simp] theorem x_for {t : Tgt} {k : SrcK} {es : List Exp} {b : List Stm} : exec Φ F (.for t k es b) e = Out.ofR ((evs Φ es e).bind (srcK k)) e fun its => forL (execs Φ F b) t its e := by
  simp only [exec]
  cases evs Φ es e with
  | ok xs =>
    simp only [Out.ofR_ok, Res.bind_ok]
    unfold srcK
    cases srcD k xs <;> rfl
  | ex c => rfl
  | stuck => rfl
def giveK (i : Nat) (e : Sl) : Option Slot → Out
  | some (.ol xs) => .nx (e.set i (.d (.list xs)))
  | _ => .stuck
@[simp] theorem giveK_l {i : Nat} {xs : List D} : giveK i e (some (.ol xs)) = .nx (e.set i (.d (.list xs))) := id rfl
@[simp] theorem x_give {i : Nat} : exec Φ F (.give i) e = giveK i e e[i]? := by simp only [exec]; cases e[i]? with
  | none => rfl
  | some s => cases s <;> rfl
@[simp] theorem x_par {i j : Nat} {a b : Exp} : exec Φ F (.par i j a b) e = Out.ofR (ev Φ a e) e fun x => Out.ofR (ev Φ b e) e fun y => if i < e.length ∧ j < e.length then .nx ((e.set i (.d x)).set j (.d y)) else .stuck := by simp only [exec]
theorem forL_nil {b : Sl → Out} {t : Tgt} : forL b t [] e = .nx e := by simp only [forL]
theorem forL_cons {b : Sl → Out} {t : Tgt} {x : D} {xs : List D} {e1 : Sl} (h : bindT t x e = some e1) : forL b t (x :: xs) e = (b e1).turn fun e2 => forL b t xs e2 := by simp only [forL, h]
/-- a loop that only goes on -/
theorem forL_inv {b : Sl → Out} {t : Tgt} (I : Nat → Sl → Prop) : ∀ (its : List D) (e : Sl) (k : Nat), I k e → (∀ i x e, its[i]? = some x → I (k + i) e → ∃ e1 e2, bindT t x e = some e1 ∧ (b e1 = .nx e2 ∨ b e1 = .ct e2) ∧ I (k + i + 1) e2) → ∃ e', forL b t its e = .nx e' ∧ I (k + its.length) e'
  | [], e, k, h0, _ => ⟨e, forL_nil, h0⟩
  | x :: xs, e, k, h0, hs => by
    obtain ⟨e1, e2, h1, h2, h3⟩ := hs 0 x e rfl h0
    obtain ⟨e', q1, q2⟩ := forL_inv I xs e2 (k + 1) h3 fun i x e hi h => by
      have := hs (i + 1) x e (by simpa using hi) (by rw [show k + (i + 1) = k + 1 + i by omega]; exact h)
      rw [show k + (i + 1) + 1 = k + 1 + i + 1 by omega] at this
      exact this
    refine ⟨e', ?_, by rw [show k + (x :: xs).length = k + 1 + xs.length by simp only [List.length_cons]; omega]; exact q2⟩
    rw [forL_cons h1]
    rcases h2 with h2 | h2 <;> rw [h2] <;> exact q1
/-- a loop whose turns may also break or return; what is asked of the end -/
theorem forL_post {b : Sl → Out} {t : Tgt} (I : Nat → Sl → Prop) (Q : Out → Prop) : ∀ (its : List D) (e : Sl) (k : Nat), I k e → (∀ i x e, its[i]? = some x → I (k + i) e → ∃ e1, bindT t x e = some e1 ∧ ((∃ e2, (b e1 = .nx e2 ∨ b e1 = .ct e2) ∧ I (k + i + 1) e2) ∨ (∃ e2, b e1 = .bk e2 ∧ Q (.nx e2)) ∨ (∃ x, b e1 = .ret x ∧ Q (.ret x)))) → (∀ e, I (k + its.length) e → Q (.nx e)) → Q (forL b t its e)
  | [], e, k, h0, _, hd => by rw [forL_nil]; exact hd e h0
  | x :: xs, e, k, h0, hs, hd => by
    obtain ⟨e1, h1, h2⟩ := hs 0 x e rfl h0
    rw [forL_cons h1]
    rcases h2 with ⟨e2, h2, h3⟩ | ⟨e2, h2, h3⟩ | ⟨r, h2, h3⟩
    · have := forL_post I Q xs e2 (k + 1) h3 (fun i x e hi h => by
        have := hs (i + 1) x e (by simpa using hi) (by rw [show k + (i + 1) = k + 1 + i by omega]; exact h)
        rw [show k + (i + 1) + 1 = k + 1 + i + 1 by omega] at this
        exact this) (fun e h => hd e (by rw [show k + (x :: xs).length = k + 1 + xs.length by simp only [List.length_cons]; omega]; exact h))
      rcases h2 with h2 | h2 <;> rw [h2] <;> exact this
    · rw [h2]; exact h3
    · rw [h2]; exact h3
theorem compL_all {f : Sl → Res D} {g : Sl → Res Bool} {t : Tgt} {h : D → D} (hg : ∀ e, g e = .ok true) : ∀ (its : List D), (∀ x ∈ its, ∃ e1, bindT t x e = some e1 ∧ f e1 = .ok (h x)) → compL f g t its e = .ok (its.map h)
  | [], _ => by simp only [compL, List.map_nil]
  | x :: xs, hs => by
    obtain ⟨e1, h1, h2⟩ := hs x (List.mem_cons_self ..)
    have ih := compL_all hg xs fun y hy => hs y (List.mem_cons_of_mem _ hy)
    simp only [compL, h1, hg, Res.bind_ok, if_pos, h2, ih, List.map_cons]
theorem rng_get {lo : Int} {n i : Nat} {x : D} (h : (rngD lo n)[i]? = some x) : i < n ∧ x = .int (lo + i) := by
  unfold rngD at h
  rw [List.getElem?_map] at h
  cases q : (List.range n)[i]? with
  | none => rw [q] at h; cases h
  | some j =>
    rw [q] at h
    obtain ⟨hi, e⟩ := List.getElem?_eq_some_iff.mp q
    rw [List.getElem_range] at e
    subst e
    simp only [Option.map_some, Option.some.injEq] at h
    exact ⟨by simpa using hi, h.symm⟩
@[simp] theorem rng_len {lo : Int} {n : Nat} : (rngD lo n).length = n := by simp [rngD]
/-- a list's item at a nat -/
theorem atI_at {α : Type} {xs : List α} {i : Int} {x : α} (h0 : 0 ≤ i) (h : xs[i.toNat]? = some x) : L2.atI xs i = some x := by
  obtain ⟨n, rfl⟩ := Int.eq_ofNat_of_zero_le h0
  exact L2.atI_nat (by simpa using h)
theorem get_ints {l : List Int} {i : Nat} (h : i < l.length) : (l.map PyData.int)[i]? = some (.int l[i]) := by rw [List.getElem?_map, List.getElem?_eq_getElem h]; rfl
end
/-! ### what is asked of an end -/
structure Is (Q : Out → Prop) (o : Out) : Prop where
  mk :: (out : Q o)
theorem is_eq {Q : Out → Prop} {o : Out} : Is Q o = Q o := propext ⟨fun h => h.out, fun h => ⟨h⟩⟩
/-- a loop's turn -/
def turnB (b : Sl → Out) (t : Tgt) (x : D) (e : Sl) : Out := match bindT t x e with
  | some e1 => b e1
  | none => .stuck
/-- what a turn is to reach -/
def Turn (Q : Out → Prop) (I : Sl → Prop) (f : Sl → Out) : Out → Prop
  | .nx e => I e
  | .ct e => I e
  | .bk e => Is Q (f e)
  | .ret x => Q (.ret x)
  | _ => False
@[simp] theorem Turn_nx {Q : Out → Prop} {I : Sl → Prop} {f : Sl → Out} {e : Sl} : Is (Turn Q I f) (.nx e) = I e := is_eq
@[simp] theorem Turn_ct {Q : Out → Prop} {I : Sl → Prop} {f : Sl → Out} {e : Sl} : Is (Turn Q I f) (.ct e) = I e := is_eq
@[simp] theorem Turn_bk {Q : Out → Prop} {I : Sl → Prop} {f : Sl → Out} {e : Sl} : Is (Turn Q I f) (.bk e) = Is Q (f e) := is_eq
@[simp] theorem Turn_ret {Q : Out → Prop} {I : Sl → Prop} {f : Sl → Out} {x : D} : Is (Turn Q I f) (.ret x) = Q (.ret x) := is_eq
theorem Is.for {Q : Out → Prop} {b : Sl → Out} {t : Tgt} {its : List D} {e : Sl} {f : Sl → Out} (I : Nat → Sl → Prop) (h0 : I 0 e) (hs : ∀ i x e, its[i]? = some x → I i e → Is (Turn Q (I (i + 1)) f) (turnB b t x e)) (hd : ∀ e, I its.length e → Is Q (f e)) : Is Q ((forL b t its e).seq f) := by
  refine forL_post (fun i e => I i e) (fun o => Is Q (o.seq f)) its e 0 h0 (fun i x e hx hi => ?_) (fun e h => hd e (by rw [Nat.zero_add] at h; exact h))
  rw [Nat.zero_add] at hi ⊢
  have h := (hs i x e hx hi).out
  unfold turnB at h
  cases q : bindT t x e with
  | none => rw [q] at h; exact h.elim
  | some e1 =>
    rw [q] at h
    refine ⟨e1, rfl, ?_⟩
    simp only [] at h
    cases q2 : b e1 with
    | nx e2 => rw [q2] at h; exact .inl ⟨e2, .inl rfl, h⟩
    | ct e2 => rw [q2] at h; exact .inl ⟨e2, .inr rfl, h⟩
    | bk e2 => rw [q2] at h; exact .inr (.inl ⟨e2, rfl, h⟩)
    | ret x => rw [q2] at h; exact .inr (.inr ⟨x, rfl, ⟨h⟩⟩)
    | ex c e2 => rw [q2] at h; exact h.elim
    | stuck => rw [q2] at h; exact h.elim
/-- a loop that stands last -/
theorem Is.forE {Q : Out → Prop} {b : Sl → Out} {t : Tgt} {its : List D} {e : Sl} (I : Nat → Sl → Prop) (h0 : I 0 e) (hs : ∀ i x e, its[i]? = some x → I i e → Is (Turn Q (I (i + 1)) .nx) (turnB b t x e)) (hd : ∀ e, I its.length e → Is Q (.nx e)) : Is Q (forL b t its e) := by
  have := Is.for (f := .nx) I h0 hs hd
  have e2 : ∀ o : Out, o.seq .nx = o := fun o => by cases o <;> rfl
  rw [e2] at this
  exact this
theorem Is.run {fn : Fdef} {Φ : FT} {F : Nat} {args : List D} {Q : Res D → Prop} (hl : args.length = fn.np) (h : Is (fun o => match o with | .ret x => Q (.ok x) | .nx _ => Q (.ok .none) | .ex c _ => Q (.ex c) | _ => False) (execs Φ F fn.body (args.map .d ++ List.replicate (fn.ns - fn.np) .un))) : Q (fn.run Φ F args) := by
  unfold Fdef.run
  rw [if_pos hl]
  replace h := h.out
  cases q : execs Φ F fn.body (args.map .d ++ List.replicate (fn.ns - fn.np) .un) <;> rw [q] at h <;> first | exact h | exact h.elim
def Ret (Q : D → Prop) : Out → Prop
  | .ret x => Q x
  | _ => False
@[simp] theorem Ret_ret {Q : D → Prop} {x : D} : Is (Ret Q) (.ret x) = Q x := is_eq
/-- a def that ends with return -/
theorem run_of {fn : Fdef} {Φ : FT} {F : Nat} {args : List D} {Q : D → Prop} (hl : args.length = fn.np) (h : Is (Ret Q) (execs Φ F fn.body (args.map .d ++ List.replicate (fn.ns - fn.np) .un))) : ∃ x, fn.run Φ F args = .ok x ∧ Q x := by
  unfold Fdef.run
  rw [if_pos hl]
  replace h := h.out
  cases q : execs Φ F fn.body (args.map .d ++ List.replicate (fn.ns - fn.np) .un) with
  | ret x => rw [q] at h; exact ⟨x, rfl, h⟩
  | _ => rw [q] at h; exact h.elim
/-- the run of a def -/
theorem phi_succ {T : List Fdef} {F n i : Nat} {fn : Fdef} {args : List D} (h : T[i]? = some fn) : phi T F (n + 1) i args = fn.run (phi T F n) F args := by simp only [phi, h]
theorem run_ret {fn : Fdef} {Φ : FT} {F : Nat} {args : List D} {x : D} (hl : args.length = fn.np) (h : execs Φ F fn.body (args.map .d ++ List.replicate (fn.ns - fn.np) .un) = .ret x) : fn.run Φ F args = .ok x := by
  unfold Fdef.run
  rw [if_pos hl, h]
end Rf

set_option maxRecDepth 100000
set_option maxHeartbeats 2000000
namespace My
open PySem PySem.Spec PyProof.Rows L2 Rf
/-! ### the text of the law -/
def topS (i : Nat) : Stmt := PySem.Challenge.pw_sandreckoner_k44_words.main.body.getD i (.Pass ⟨0, 0, 0, 0⟩)
abbrev s0 : Stmt := topS 2
abbrev N0 : List Str := ["letters", "word", "letter"]
abbrev p0 : List Str := ["letters", "word"]
def x0_1 : Exp := (.and (.mth .isalpha (.var 2) []) (.cmp .isin (.mth .lower (.var 2) []) (.var 0)))
/-- is_word -/
def b0 : List Stm := [(.ifs (.cmp .gt (.blt .len [(.var 1)]) (.con (.int 40))) [(.ret (.con (.bool false)))] []), (.ret (.blt .all [(.comp x0_1 (.nm 2) .str [(.var 1)] [])]))]
abbrev s1 : Stmt := topS 3
abbrev N1 : List Str := ["word"]
abbrev p1 : List Str := ["word"]
/-- inverse_word -/
def b1 : List Stm := [(.ret (.mth .swapcase (.revs (.var 0)) []))]
abbrev s2 : Stmt := topS 5
abbrev N2 : List Str := ["_law_script", "_law_many", "_law_numbers_here", "_law_k", "_law_cell", "_law_j", "_law_mixed", "_law_base", "_law_last"]
abbrev p2 : List Str := ["_law_script", "_law_many"]
def b2_1 : List Stm := [(.ifs (.and (.cmp .gt (.var 4) (.con (.int 0))) (.cmp .lt (.blt .len [(.vw 2)]) (.var 1))) [(.app 2 (.bin .mod (.var 4) (.con (.int 10007)))), (.asg (.nm 4) (.bin .fdiv (.var 4) (.con (.int 10007))))] [])]
def b2_2 : List Stm := [(.asg (.nm 4) (.blt .abs [(.blt .int [(.idx (.var 0) (.var 3))])])), (.ifs (.cmp .ge (.var 4) (.bin .pow (.con (.int 10)) (.con (.int 18)))) [(.for (.nm 5) .rng [(.con (.int 60))] b2_1)] [(.ifs (.cmp .lt (.blt .len [(.vw 2)]) (.var 1)) [(.asg (.nm 6) (.bin .mod (.blt .int [(.bin .add (.bin .add (.bin .mul (.var 4) (.con (.int 48271))) (.bin .mul (.var 3) (.con (.int 69621)))) (.con (.int 11)))]) (.con (.int 2147483647)))), (.app 2 (.bin .fdiv (.bin .mod (.blt .int [(.bin .add (.bin .add (.bin .mul (.var 6) (.con (.int 16807))) (.bin .mul (.con (.int 7)) (.var 3))) (.con (.int 3)))]) (.con (.int 2147483647))) (.con (.int 3))))] [])])]
def b2_3 : List Stm := [(.ifs (.cmp .gt (.var 7) (.con (.int 0))) [(.asg (.nm 8) (.bin .add (.var 8) (.idx (.vw 2) (.bin .mod (.var 3) (.var 7)))))] []), (.asg (.nm 8) (.bin .mod (.blt .int [(.bin .add (.bin .mul (.var 8) (.con (.int 48271))) (.var 3))]) (.con (.int 2147483647)))), (.app 2 (.bin .fdiv (.var 8) (.con (.int 7))))]
/-- numbers -/
def b2 : List Stm := [(.own 2 (.lst [])), (.for (.nm 3) .rng [(.blt .len [(.var 0)])] b2_2), (.asg (.nm 7) (.blt .len [(.vw 2)])), (.asg (.nm 8) (.bin .add (.con (.int 5381)) (.blt .len [(.var 0)]))), (.for (.nm 3) .rng [(.blt .max [(.con (.int 0)), (.bin .sub (.var 1) (.var 7))])] b2_3), (.ret (.sl (.vw 2) .nop (.var 1)))]
abbrev s3 : Stmt := topS 6
abbrev N3 : List Str := ["_law_letters", "_law_numbers_here", "_law_size", "_law_word_here", "_law_k"]
abbrev p3 : List Str := ["_law_letters", "_law_numbers_here", "_law_size"]
def b3_1 : List Stm := [(.asg (.nm 3) (.bin .add (.var 3) (.idx (.var 0) (.bin .mod (.bin .fdiv (.idx (.var 1) (.bin .mod (.blt .int [(.var 4)]) (.blt .len [(.var 1)]))) (.bin .add (.con (.int 1)) (.bin .fdiv (.var 4) (.blt .len [(.var 1)])))) (.blt .len [(.var 0)])))))]
/-- word -/
def b3 : List Stm := [(.asg (.nm 3) (.con (.str ""))), (.for (.nm 4) .rng [(.var 2)] b3_1), (.ret (.var 3))]
abbrev s4 : Stmt := topS 7
abbrev N4 : List Str := ["_law_word_here", "_law_turned_here", "_law_letter"]
abbrev p4 : List Str := ["_law_word_here"]
def b4_1 : List Stm := [(.asg (.nm 1) (.bin .add (.idx (.lst [(.mth .upper (.var 2) []), (.mth .lower (.var 2) [])]) (.blt .int [(.cmp .eq (.var 2) (.mth .upper (.var 2) []))])) (.var 1)))]
/-- turned -/
def b4 : List Stm := [(.asg (.nm 1) (.con (.str ""))), (.for (.nm 2) .str [(.var 0)] b4_1), (.ret (.var 1))]
abbrev s5 : Stmt := topS 8
abbrev N5 : List Str := ["_law_script", "_law_numbers_here", "_law_k", "_law_alphabet", "_law_size", "_law_word_here", "_law_at", "_law_due", "_law_letter", "_law_told", "_law_letters", "_law_turned_here"]
abbrev p5 : List Str := ["_law_script"]
def b5_1 : List Stm := [(.asg (.nm 7) (.and (.var 7) (.cmp .isin (.var 8) (.bin .add (.var 3) (.mth .upper (.var 3) [])))))]
def b5_2 : List Stm := [(.ifs (.mth .isalpha (.var 8) []) [(.asg (.nm 10) (.bin .add (.var 10) (.var 8)))] [])]
def b5_3 : List Stm := [(.asg (.nm 3) (.idx (.lst [(.con (.str "ab")), (.con (.str "abcd")), (.con (.str "a")), (.con (.str "cd")), (.con (.str "bc"))]) (.bin .mod (.idx (.var 1) (.var 2)) (.con (.int 5))))), (.asg (.nm 4) (.idx (.lst [(.bin .mod (.idx (.var 1) (.bin .add (.con (.int 4)) (.var 2))) (.con (.int 12))), (.bin .add (.con (.int 38)) (.bin .mod (.idx (.var 1) (.bin .add (.con (.int 4)) (.var 2))) (.con (.int 6))))]) (.blt .int [(.cmp .eq (.bin .mod (.idx (.var 1) (.bin .add (.con (.int 8)) (.var 2))) (.con (.int 5))) (.con (.int 0)))]))), (.asg (.nm 5) (.call 3 [(.bin .add (.var 3) (.mth .upper (.var 3) [])), (.sl (.var 1) (.bin .add (.con (.int 12)) (.bin .mul (.con (.int 3)) (.var 2))) (.bin .add (.con (.int 40)) (.bin .mul (.con (.int 3)) (.var 2)))), (.var 4)])), (.ifs (.cmp .eq (.bin .mod (.bin .fdiv (.idx (.var 1) (.bin .add (.con (.int 8)) (.var 2))) (.con (.int 5))) (.con (.int 3))) (.con (.int 0))) [(.asg (.nm 6) (.bin .mod (.bin .fdiv (.idx (.var 1) (.bin .add (.con (.int 4)) (.var 2))) (.con (.int 12))) (.bin .add (.var 4) (.con (.int 1))))), (.asg (.nm 5) (.bin .add (.bin .add (.sl (.var 5) .nop (.var 6)) (.idx (.con (.str "1 xZ-d_AE")) (.bin .mod (.bin .fdiv (.idx (.var 1) (.bin .add (.con (.int 4)) (.var 2))) (.con (.int 7))) (.con (.int 9))))) (.sl (.var 5) (.var 6) .nop)))] []), (.asg (.nm 7) (.cmp .le (.blt .len [(.var 5)]) (.con (.int 40)))), (.for (.nm 8) .str [(.var 5)] b5_1), (.asg (.nm 9) (.call 0 [(.var 3), (.var 5)])), (.ifs (.or (.not (.blt (.isi 1) [(.var 9)])) (.cmp .ne (.var 9) (.var 7))) [(.ret (.con (.bool false)))] []), (.asg (.nm 10) (.con (.str ""))), (.for (.nm 8) .str [(.var 5)] b5_2), (.asg (.nm 11) (.call 1 [(.var 10)])), (.ifs (.or (.not (.blt (.isi 2) [(.var 11)])) (.or (.cmp .ne (.var 11) (.call 4 [(.var 10)])) (.cmp .ne (.call 1 [(.var 11)]) (.var 10)))) [(.ret (.con (.bool false)))] [])]
/-- law -/
def b5 : List Stm := [(.asg (.nm 1) (.call 2 [(.var 0), (.con (.int 60))])), (.for (.nm 2) .rng [(.con (.int 4))] b5_3), (.ret (.and (.cmp .eq (.con (.int 40)) (.con (.int 40))) (.and (.cmp .is (.call 0 [(.con (.str "ab")), (.con (.str ""))]) (.con (.bool true))) (.cmp .eq (.call 1 [(.con (.str ""))]) (.con (.str ""))))))]
def TB : List Fdef := [⟨2, 3, b0⟩, ⟨1, 1, b1⟩, ⟨2, 9, b2⟩, ⟨3, 5, b3⟩, ⟨1, 3, b4⟩, ⟨1, 12, b5⟩]
end My

set_option maxRecDepth 100000
set_option maxHeartbeats 2000000
namespace My
open PySem PySem.Spec PyProof.Rows L2 Rf
theorem n0_1 : N0[1]? = some ("word" : Str) := by decide +kernel
theorem l0_1 : (defScope s0).names.lookup ("word" : Str) = some .local := by decide +kernel
theorem g0_len : (defScope s0).names.lookup ("len" : Str) = some .globalImplicit := by decide +kernel
theorem g0_MAX_WORD : (defScope s0).names.lookup ("MAX_WORD" : Str) = some .globalImplicit := by decide +kernel
theorem n0_2 : N0[2]? = some ("letter" : Str) := by decide +kernel
theorem n0_0 : N0[0]? = some ("letters" : Str) := by decide +kernel
theorem g0_all : (defScope s0).names.lookup ("all" : Str) = some .globalImplicit := by decide +kernel
theorem sc0 : FnScope N0 p0 (defScope s0) := ⟨rfl, rfl, rfl, by decide +kernel, rfl, by decide +kernel, by decide +kernel⟩
theorem n1_0 : N1[0]? = some ("word" : Str) := by decide +kernel
theorem l1_0 : (defScope s1).names.lookup ("word" : Str) = some .local := by decide +kernel
theorem sc1 : FnScope N1 p1 (defScope s1) := ⟨rfl, rfl, rfl, by decide +kernel, rfl, by decide +kernel, by decide +kernel⟩
theorem n2_2 : N2[2]? = some ("_law_numbers_here" : Str) := by decide +kernel
theorem l2_2 : (defScope s2).names.lookup ("_law_numbers_here" : Str) = some .local := by decide +kernel
theorem n2_0 : N2[0]? = some ("_law_script" : Str) := by decide +kernel
theorem l2_0 : (defScope s2).names.lookup ("_law_script" : Str) = some .local := by decide +kernel
theorem g2_len : (defScope s2).names.lookup ("len" : Str) = some .globalImplicit := by decide +kernel
theorem g2_range : (defScope s2).names.lookup ("range" : Str) = some .globalImplicit := by decide +kernel
theorem n2_3 : N2[3]? = some ("_law_k" : Str) := by decide +kernel
theorem l2_3 : (defScope s2).names.lookup ("_law_k" : Str) = some .local := by decide +kernel
theorem g2_int : (defScope s2).names.lookup ("int" : Str) = some .globalImplicit := by decide +kernel
theorem g2_abs : (defScope s2).names.lookup ("abs" : Str) = some .globalImplicit := by decide +kernel
theorem n2_4 : N2[4]? = some ("_law_cell" : Str) := by decide +kernel
theorem l2_4 : (defScope s2).names.lookup ("_law_cell" : Str) = some .local := by decide +kernel
theorem n2_5 : N2[5]? = some ("_law_j" : Str) := by decide +kernel
theorem l2_5 : (defScope s2).names.lookup ("_law_j" : Str) = some .local := by decide +kernel
theorem n2_1 : N2[1]? = some ("_law_many" : Str) := by decide +kernel
theorem l2_1 : (defScope s2).names.lookup ("_law_many" : Str) = some .local := by decide +kernel
theorem n2_6 : N2[6]? = some ("_law_mixed" : Str) := by decide +kernel
theorem l2_6 : (defScope s2).names.lookup ("_law_mixed" : Str) = some .local := by decide +kernel
theorem n2_7 : N2[7]? = some ("_law_base" : Str) := by decide +kernel
theorem l2_7 : (defScope s2).names.lookup ("_law_base" : Str) = some .local := by decide +kernel
theorem n2_8 : N2[8]? = some ("_law_last" : Str) := by decide +kernel
theorem l2_8 : (defScope s2).names.lookup ("_law_last" : Str) = some .local := by decide +kernel
theorem g2_max : (defScope s2).names.lookup ("max" : Str) = some .globalImplicit := by decide +kernel
theorem sc2 : FnScope N2 p2 (defScope s2) := ⟨rfl, rfl, rfl, by decide +kernel, rfl, by decide +kernel, by decide +kernel⟩
theorem n3_3 : N3[3]? = some ("_law_word_here" : Str) := by decide +kernel
theorem l3_3 : (defScope s3).names.lookup ("_law_word_here" : Str) = some .local := by decide +kernel
theorem n3_2 : N3[2]? = some ("_law_size" : Str) := by decide +kernel
theorem l3_2 : (defScope s3).names.lookup ("_law_size" : Str) = some .local := by decide +kernel
theorem g3_range : (defScope s3).names.lookup ("range" : Str) = some .globalImplicit := by decide +kernel
theorem n3_4 : N3[4]? = some ("_law_k" : Str) := by decide +kernel
theorem l3_4 : (defScope s3).names.lookup ("_law_k" : Str) = some .local := by decide +kernel
theorem n3_0 : N3[0]? = some ("_law_letters" : Str) := by decide +kernel
theorem l3_0 : (defScope s3).names.lookup ("_law_letters" : Str) = some .local := by decide +kernel
theorem n3_1 : N3[1]? = some ("_law_numbers_here" : Str) := by decide +kernel
theorem l3_1 : (defScope s3).names.lookup ("_law_numbers_here" : Str) = some .local := by decide +kernel
theorem g3_int : (defScope s3).names.lookup ("int" : Str) = some .globalImplicit := by decide +kernel
theorem g3_len : (defScope s3).names.lookup ("len" : Str) = some .globalImplicit := by decide +kernel
theorem sc3 : FnScope N3 p3 (defScope s3) := ⟨rfl, rfl, rfl, by decide +kernel, rfl, by decide +kernel, by decide +kernel⟩
theorem n4_1 : N4[1]? = some ("_law_turned_here" : Str) := by decide +kernel
theorem l4_1 : (defScope s4).names.lookup ("_law_turned_here" : Str) = some .local := by decide +kernel
theorem n4_0 : N4[0]? = some ("_law_word_here" : Str) := by decide +kernel
theorem l4_0 : (defScope s4).names.lookup ("_law_word_here" : Str) = some .local := by decide +kernel
theorem n4_2 : N4[2]? = some ("_law_letter" : Str) := by decide +kernel
theorem l4_2 : (defScope s4).names.lookup ("_law_letter" : Str) = some .local := by decide +kernel
theorem g4_int : (defScope s4).names.lookup ("int" : Str) = some .globalImplicit := by decide +kernel
theorem sc4 : FnScope N4 p4 (defScope s4) := ⟨rfl, rfl, rfl, by decide +kernel, rfl, by decide +kernel, by decide +kernel⟩
theorem n5_0 : N5[0]? = some ("_law_script" : Str) := by decide +kernel
theorem l5_0 : (defScope s5).names.lookup ("_law_script" : Str) = some .local := by decide +kernel
theorem g5__law_numbers : (defScope s5).names.lookup ("_law_numbers" : Str) = some .globalImplicit := by decide +kernel
theorem n5_1 : N5[1]? = some ("_law_numbers_here" : Str) := by decide +kernel
theorem l5_1 : (defScope s5).names.lookup ("_law_numbers_here" : Str) = some .local := by decide +kernel
theorem g5_range : (defScope s5).names.lookup ("range" : Str) = some .globalImplicit := by decide +kernel
theorem n5_2 : N5[2]? = some ("_law_k" : Str) := by decide +kernel
theorem l5_2 : (defScope s5).names.lookup ("_law_k" : Str) = some .local := by decide +kernel
theorem n5_3 : N5[3]? = some ("_law_alphabet" : Str) := by decide +kernel
theorem l5_3 : (defScope s5).names.lookup ("_law_alphabet" : Str) = some .local := by decide +kernel
theorem g5_int : (defScope s5).names.lookup ("int" : Str) = some .globalImplicit := by decide +kernel
theorem n5_4 : N5[4]? = some ("_law_size" : Str) := by decide +kernel
theorem l5_4 : (defScope s5).names.lookup ("_law_size" : Str) = some .local := by decide +kernel
theorem g5__law_word : (defScope s5).names.lookup ("_law_word" : Str) = some .globalImplicit := by decide +kernel
theorem n5_5 : N5[5]? = some ("_law_word_here" : Str) := by decide +kernel
theorem l5_5 : (defScope s5).names.lookup ("_law_word_here" : Str) = some .local := by decide +kernel
theorem n5_6 : N5[6]? = some ("_law_at" : Str) := by decide +kernel
theorem l5_6 : (defScope s5).names.lookup ("_law_at" : Str) = some .local := by decide +kernel
theorem g5_len : (defScope s5).names.lookup ("len" : Str) = some .globalImplicit := by decide +kernel
theorem n5_7 : N5[7]? = some ("_law_due" : Str) := by decide +kernel
theorem l5_7 : (defScope s5).names.lookup ("_law_due" : Str) = some .local := by decide +kernel
theorem n5_8 : N5[8]? = some ("_law_letter" : Str) := by decide +kernel
theorem l5_8 : (defScope s5).names.lookup ("_law_letter" : Str) = some .local := by decide +kernel
theorem g5_is_word : (defScope s5).names.lookup ("is_word" : Str) = some .globalImplicit := by decide +kernel
theorem n5_9 : N5[9]? = some ("_law_told" : Str) := by decide +kernel
theorem l5_9 : (defScope s5).names.lookup ("_law_told" : Str) = some .local := by decide +kernel
theorem g5_isinstance : (defScope s5).names.lookup ("isinstance" : Str) = some .globalImplicit := by decide +kernel
theorem g5_bool : (defScope s5).names.lookup ("bool" : Str) = some .globalImplicit := by decide +kernel
theorem n5_10 : N5[10]? = some ("_law_letters" : Str) := by decide +kernel
theorem l5_10 : (defScope s5).names.lookup ("_law_letters" : Str) = some .local := by decide +kernel
theorem g5_inverse_word : (defScope s5).names.lookup ("inverse_word" : Str) = some .globalImplicit := by decide +kernel
theorem n5_11 : N5[11]? = some ("_law_turned_here" : Str) := by decide +kernel
theorem l5_11 : (defScope s5).names.lookup ("_law_turned_here" : Str) = some .local := by decide +kernel
theorem g5_str : (defScope s5).names.lookup ("str" : Str) = some .globalImplicit := by decide +kernel
theorem g5__law_turned : (defScope s5).names.lookup ("_law_turned" : Str) = some .globalImplicit := by decide +kernel
theorem g5_MAX_WORD : (defScope s5).names.lookup ("MAX_WORD" : Str) = some .globalImplicit := by decide +kernel
theorem sc5 : FnScope N5 p5 (defScope s5) := ⟨rfl, rfl, rfl, by decide +kernel, rfl, by decide +kernel, by decide +kernel⟩
section
variable {pr : Program} {w : World} {K : PySem.W.Frag} {mg : Str → Option Value} {base : Heap} {ca : Nat → Addr} {F n : Nat}
theorem w0 {k_MAX_WORD : Tok} (c_MAX_WORD : mg "MAX_WORD" = some (.int 40 k_MAX_WORD)) (z_all : mg "all" = none) (z_len : mg "len" = none) : Walk pr w K mg base ca N0 "is_word" s0 n (execs (phi TB F n) F b0) := fun A sA HA a fA cdv outer xe h0 av avok W hr C =>
    (sss_cons (ss_if (st_cmp C .gt (se_flat rfl (se_bltB C (cl_len C.calm) g0_len z_len (by decide +kernel) (ses_cons (se_var C n0_1 (Or.inl l0_1)) ses_nil))) (se_globI g0_MAX_WORD c_MAX_WORD) (by first | rfl | with_unfolding_all rfl)) (sss_cons (ss_ret se_bl)
      sss_nil) sss_nil)
      (sss_cons (ss_ret (se_flat rfl (se_bltB C (cl_all C.calm) g0_all z_all (by decide +kernel) (ses_cons (Rf.PE.new (Rf.PE.modeN (se_comp C (own := [("letter", 2)]) (si_str (se_var C n0_1 (Or.inl l0_1))) rfl (blkOk_by (N := N0) (sc := defScope s0) (by decide +kernel)) (fun _ _ _ _ _ _ C => (sg_nm C.hN C.nd n0_2 (by first | exact Or.inl rfl | exact Or.inr rfl) (by first | exact .inl rfl | exact .inr rfl))) (fun _ _ _ _ _ _ _ _ C => sf_nil) (fun _ _ _ _ _ _ _ _ C => (se_and (se_m0 C .isalpha ⟨nofun, nofun, nofun⟩ (se_var C n0_2 (by first | exact Or.inl rfl | exact Or.inr (Or.inl rfl) | exact Or.inr (Or.inr rfl)))) (se_one (se_cmp C .isin (se_m0 C .lower ⟨nofun, nofun, nofun⟩ (se_var C n0_2 (by first | exact Or.inl rfl | exact Or.inr (Or.inl rfl) | exact Or.inr (Or.inr rfl)))) (se_var C n0_0 (by first | exact Or.inl rfl | exact Or.inr (Or.inl rfl) | exact Or.inr (Or.inr rfl))) (by first | rfl | with_unfolding_all rfl)))))))) ses_nil))))
      sss_nil))
theorem w1  : Walk pr w K mg base ca N1 "inverse_word" s1 n (execs (phi TB F n) F b1) := fun A sA HA a fA cdv outer xe h0 av avok W hr C =>
    (sss_cons (ss_ret (se_m0 C .swapcase ⟨nofun, nofun, nofun⟩ (se_revS (se_var C n1_0 (Or.inl l1_0)))))
      sss_nil)
theorem w2 (z_abs : mg "abs" = none) (z_int : mg "int" = none) (z_len : mg "len" = none) (z_max : mg "max" = none) (z_range : mg "range" = none) : Walk pr w K mg base ca N2 "_law_numbers" s2 n (execs (phi TB F n) F b2) := fun A sA HA a fA cdv outer xe h0 av avok W hr C =>
    (sss_cons (ss_own C n2_2 (Or.inl l2_2) (se_lst (by decide) ses_nil))
      (sss_cons (ss_for C (si_rng1 g2_range z_range (ses_cons (se_flat rfl (se_bltB C (cl_len C.calm) g2_len z_len (by decide +kernel) (ses_cons (se_var C n2_0 (Or.inl l2_0)) ses_nil))) ses_nil)) (sg_nm C.hN C.nd n2_3 (Or.inl l2_3) (by first | exact .inl rfl | exact .inr rfl)) (fun _ _ C => (sss_cons (ss_set C n2_4 (Or.inl l2_4) (se_flat rfl (se_bltB C (cl_abs) g2_abs z_abs (by decide +kernel) (ses_cons (se_flat rfl (se_bltT C (cl_int) g2_int z_int (by decide +kernel) (ses_cons (se_idx C (se_var C n2_0 (Or.inl l2_0)) (se_var C n2_3 (Or.inl l2_3)) (fun _ _ => rfl)) ses_nil))) ses_nil))))
      (sss_cons (ss_if (st_cmp C .ge (se_var C n2_4 (Or.inl l2_4)) (Rf.PE.new (se_bin C .pow se_int se_int)) (by first | rfl | with_unfolding_all rfl)) (sss_cons (ss_for C (si_rng1 g2_range z_range (ses_cons se_int ses_nil)) (sg_nm C.hN C.nd n2_5 (Or.inl l2_5) (by first | exact .inl rfl | exact .inr rfl)) (fun _ _ C => (sss_cons (ss_if (PW.pt (st_and (st_cmp C .gt (se_var C n2_4 (Or.inl l2_4)) se_int (by first | rfl | with_unfolding_all rfl)) (st_and1 (st_cmp C .lt (se_flat rfl (se_bltB C (cl_len C.calm) g2_len z_len (by decide +kernel) (ses_cons (se_vw C n2_2 (Or.inl l2_2) (by decide)) ses_nil))) (se_var C n2_1 (Or.inl l2_1)) (by first | rfl | with_unfolding_all rfl))))) (sss_cons (ss_app C n2_2 (Or.inl l2_2) (Rf.PE.new (se_bin C .mod (se_var C n2_4 (Or.inl l2_4)) se_int)))
      (sss_cons (ss_set C n2_4 (Or.inl l2_4) (Rf.PE.new (se_bin C .fdiv (se_var C n2_4 (Or.inl l2_4)) se_int)))
      sss_nil)) sss_nil)
      sss_nil)))
      sss_nil) (sss_cons (ss_if (st_cmp C .lt (se_flat rfl (se_bltB C (cl_len C.calm) g2_len z_len (by decide +kernel) (ses_cons (se_vw C n2_2 (Or.inl l2_2) (by decide)) ses_nil))) (se_var C n2_1 (Or.inl l2_1)) (by first | rfl | with_unfolding_all rfl)) (sss_cons (ss_set C n2_6 (Or.inl l2_6) (Rf.PE.new (se_bin C .mod (se_flat rfl (se_bltT C (cl_int) g2_int z_int (by decide +kernel) (ses_cons (Rf.PE.new (se_bin C .add (Rf.PE.new (se_bin C .add (Rf.PE.new (se_bin C .mul (se_var C n2_4 (Or.inl l2_4)) se_int)) (Rf.PE.new (se_bin C .mul (se_var C n2_3 (Or.inl l2_3)) se_int)))) se_int)) ses_nil))) se_int)))
      (sss_cons (ss_app C n2_2 (Or.inl l2_2) (Rf.PE.new (se_bin C .fdiv (Rf.PE.new (se_bin C .mod (se_flat rfl (se_bltT C (cl_int) g2_int z_int (by decide +kernel) (ses_cons (Rf.PE.new (se_bin C .add (Rf.PE.new (se_bin C .add (Rf.PE.new (se_bin C .mul (se_var C n2_6 (Or.inl l2_6)) se_int)) (Rf.PE.new (se_bin C .mul se_int (se_var C n2_3 (Or.inl l2_3)))))) se_int)) ses_nil))) se_int)) se_int)))
      sss_nil)) sss_nil)
      sss_nil))
      sss_nil))))
      (sss_cons (ss_set C n2_7 (Or.inl l2_7) (se_flat rfl (se_bltB C (cl_len C.calm) g2_len z_len (by decide +kernel) (ses_cons (se_vw C n2_2 (Or.inl l2_2) (by decide)) ses_nil))))
      (sss_cons (ss_set C n2_8 (Or.inl l2_8) (Rf.PE.new (se_bin C .add se_int (se_flat rfl (se_bltB C (cl_len C.calm) g2_len z_len (by decide +kernel) (ses_cons (se_var C n2_0 (Or.inl l2_0)) ses_nil))))))
      (sss_cons (ss_for C (si_rng1 g2_range z_range (ses_cons (se_flat rfl (se_bltB C (cl_max C.calm) g2_max z_max (by decide +kernel) (ses_cons se_int (ses_cons (Rf.PE.new (se_bin C .sub (se_var C n2_1 (Or.inl l2_1)) (se_var C n2_7 (Or.inl l2_7)))) ses_nil)))) ses_nil)) (sg_nm C.hN C.nd n2_3 (Or.inl l2_3) (by first | exact .inl rfl | exact .inr rfl)) (fun _ _ C => (sss_cons (ss_if (st_cmp C .gt (se_var C n2_7 (Or.inl l2_7)) se_int (by first | rfl | with_unfolding_all rfl)) (sss_cons (ss_set C n2_8 (Or.inl l2_8) (Rf.PE.new (se_bin C .add (se_var C n2_8 (Or.inl l2_8)) (se_idx C (se_vw C n2_2 (Or.inl l2_2) (by decide)) (Rf.PE.new (se_bin C .mod (se_var C n2_3 (Or.inl l2_3)) (se_var C n2_7 (Or.inl l2_7)))) (fun _ _ => rfl)))))
      sss_nil) sss_nil)
      (sss_cons (ss_set C n2_8 (Or.inl l2_8) (Rf.PE.new (se_bin C .mod (se_flat rfl (se_bltT C (cl_int) g2_int z_int (by decide +kernel) (ses_cons (Rf.PE.new (se_bin C .add (Rf.PE.new (se_bin C .mul (se_var C n2_8 (Or.inl l2_8)) se_int)) (se_var C n2_3 (Or.inl l2_3)))) ses_nil))) se_int)))
      (sss_cons (ss_app C n2_2 (Or.inl l2_2) (Rf.PE.new (se_bin C .fdiv (se_var C n2_8 (Or.inl l2_8)) se_int)))
      sss_nil)))))
      (sss_cons (ss_ret (Rf.PE.new (se_sl C (se_vw C n2_2 (Or.inl l2_2) (by decide)) so_none (so_some (se_var C n2_1 (Or.inl l2_1))))))
      sss_nil))))))
theorem w3 (z_int : mg "int" = none) (z_len : mg "len" = none) (z_range : mg "range" = none) : Walk pr w K mg base ca N3 "_law_word" s3 n (execs (phi TB F n) F b3) := fun A sA HA a fA cdv outer xe h0 av avok W hr C =>
    (sss_cons (ss_set C n3_3 (Or.inl l3_3) se_str)
      (sss_cons (ss_for C (si_rng1 g3_range z_range (ses_cons (se_var C n3_2 (Or.inl l3_2)) ses_nil)) (sg_nm C.hN C.nd n3_4 (Or.inl l3_4) (by first | exact .inl rfl | exact .inr rfl)) (fun _ _ C => (sss_cons (ss_set C n3_3 (Or.inl l3_3) (Rf.PE.new (se_bin C .add (se_var C n3_3 (Or.inl l3_3)) (se_idx C (se_var C n3_0 (Or.inl l3_0)) (Rf.PE.new (se_bin C .mod (Rf.PE.new (se_bin C .fdiv (se_idx C (se_var C n3_1 (Or.inl l3_1)) (Rf.PE.new (se_bin C .mod (se_flat rfl (se_bltT C (cl_int) g3_int z_int (by decide +kernel) (ses_cons (se_var C n3_4 (Or.inl l3_4)) ses_nil))) (se_flat rfl (se_bltB C (cl_len C.calm) g3_len z_len (by decide +kernel) (ses_cons (se_var C n3_1 (Or.inl l3_1)) ses_nil))))) (fun _ _ => rfl)) (Rf.PE.new (se_bin C .add se_int (Rf.PE.new (se_bin C .fdiv (se_var C n3_4 (Or.inl l3_4)) (se_flat rfl (se_bltB C (cl_len C.calm) g3_len z_len (by decide +kernel) (ses_cons (se_var C n3_1 (Or.inl l3_1)) ses_nil))))))))) (se_flat rfl (se_bltB C (cl_len C.calm) g3_len z_len (by decide +kernel) (ses_cons (se_var C n3_0 (Or.inl l3_0)) ses_nil))))) (fun _ _ => rfl)))))
      sss_nil)))
      (sss_cons (ss_ret (se_var C n3_3 (Or.inl l3_3)))
      sss_nil)))
theorem w4 (z_int : mg "int" = none) : Walk pr w K mg base ca N4 "_law_turned" s4 n (execs (phi TB F n) F b4) := fun A sA HA a fA cdv outer xe h0 av avok W hr C =>
    (sss_cons (ss_set C n4_1 (Or.inl l4_1) se_str)
      (sss_cons (ss_for C (si_str (se_var C n4_0 (Or.inl l4_0))) (sg_nm C.hN C.nd n4_2 (Or.inl l4_2) (by first | exact .inl rfl | exact .inr rfl)) (fun _ _ C => (sss_cons (ss_set C n4_1 (Or.inl l4_1) (Rf.PE.new (se_bin C .add (se_idx C (Rf.PE.new (se_lst (by decide) (ses_cons (se_m0 C .upper ⟨nofun, nofun, nofun⟩ (se_var C n4_2 (Or.inl l4_2))) (ses_cons (se_m0 C .lower ⟨nofun, nofun, nofun⟩ (se_var C n4_2 (Or.inl l4_2))) ses_nil)))) (se_flat rfl (se_bltT C (cl_int) g4_int z_int (by decide +kernel) (ses_cons (se_cmp C .eq (se_var C n4_2 (Or.inl l4_2)) (se_m0 C .upper ⟨nofun, nofun, nofun⟩ (se_var C n4_2 (Or.inl l4_2))) (by first | rfl | with_unfolding_all rfl)) ses_nil))) (fun _ _ => rfl)) (se_var C n4_1 (Or.inl l4_1)))))
      sss_nil)))
      (sss_cons (ss_ret (se_var C n4_1 (Or.inl l4_1)))
      sss_nil)))
theorem w5 {k_MAX_WORD : Tok} (c_MAX_WORD : mg "MAX_WORD" = some (.int 40 k_MAX_WORD)) (hf__law_numbers : Good pr w K mg base ca TB F "_law_numbers" 2 n) (hf__law_turned : Good pr w K mg base ca TB F "_law_turned" 4 n) (hf__law_word : Good pr w K mg base ca TB F "_law_word" 3 n) (hf_inverse_word : Good pr w K mg base ca TB F "inverse_word" 1 n) (hf_is_word : Good pr w K mg base ca TB F "is_word" 0 n) (z_bool : mg "bool" = none) (z_int : mg "int" = none) (z_isinstance : mg "isinstance" = none) (z_len : mg "len" = none) (z_range : mg "range" = none) (z_str : mg "str" = none) : Walk pr w K mg base ca N5 "law" s5 n (execs (phi TB F n) F b5) := fun A sA HA a fA cdv outer xe h0 av avok W hr C =>
    (sss_cons (ss_set C n5_1 (Or.inl l5_1) (se_call C (hf__law_numbers.fn hr) g5__law_numbers (ses_cons (se_var C n5_0 (Or.inl l5_0)) (ses_cons se_int ses_nil))))
      (sss_cons (ss_for C (si_rng1 g5_range z_range (ses_cons se_int ses_nil)) (sg_nm C.hN C.nd n5_2 (Or.inl l5_2) (by first | exact .inl rfl | exact .inr rfl)) (fun _ _ C => (sss_cons (ss_set C n5_3 (Or.inl l5_3) (se_idx C (Rf.PE.new (se_lst (by decide) (ses_cons se_str (ses_cons se_str (ses_cons se_str (ses_cons se_str (ses_cons se_str ses_nil))))))) (Rf.PE.new (se_bin C .mod (se_idx C (se_var C n5_1 (Or.inl l5_1)) (se_var C n5_2 (Or.inl l5_2)) (fun _ _ => rfl)) se_int)) (fun _ _ => rfl)))
      (sss_cons (ss_set C n5_4 (Or.inl l5_4) (se_idx C (Rf.PE.new (se_lst (by decide) (ses_cons (Rf.PE.new (se_bin C .mod (se_idx C (se_var C n5_1 (Or.inl l5_1)) (Rf.PE.new (se_bin C .add se_int (se_var C n5_2 (Or.inl l5_2)))) (fun _ _ => rfl)) se_int)) (ses_cons (Rf.PE.new (se_bin C .add se_int (Rf.PE.new (se_bin C .mod (se_idx C (se_var C n5_1 (Or.inl l5_1)) (Rf.PE.new (se_bin C .add se_int (se_var C n5_2 (Or.inl l5_2)))) (fun _ _ => rfl)) se_int)))) ses_nil)))) (se_flat rfl (se_bltT C (cl_int) g5_int z_int (by decide +kernel) (ses_cons (se_cmp C .eq (Rf.PE.new (se_bin C .mod (se_idx C (se_var C n5_1 (Or.inl l5_1)) (Rf.PE.new (se_bin C .add se_int (se_var C n5_2 (Or.inl l5_2)))) (fun _ _ => rfl)) se_int)) se_int (by first | rfl | with_unfolding_all rfl)) ses_nil))) (fun _ _ => rfl)))
      (sss_cons (ss_set C n5_5 (Or.inl l5_5) (se_call C (hf__law_word.fn hr) g5__law_word (ses_cons (Rf.PE.new (se_bin C .add (se_var C n5_3 (Or.inl l5_3)) (se_m0 C .upper ⟨nofun, nofun, nofun⟩ (se_var C n5_3 (Or.inl l5_3))))) (ses_cons (Rf.PE.new (se_sl C (se_var C n5_1 (Or.inl l5_1)) (so_some (Rf.PE.new (se_bin C .add se_int (Rf.PE.new (se_bin C .mul se_int (se_var C n5_2 (Or.inl l5_2))))))) (so_some (Rf.PE.new (se_bin C .add se_int (Rf.PE.new (se_bin C .mul se_int (se_var C n5_2 (Or.inl l5_2))))))))) (ses_cons (se_var C n5_4 (Or.inl l5_4)) ses_nil)))))
      (sss_cons (ss_if (st_cmp C .eq (Rf.PE.new (se_bin C .mod (Rf.PE.new (se_bin C .fdiv (se_idx C (se_var C n5_1 (Or.inl l5_1)) (Rf.PE.new (se_bin C .add se_int (se_var C n5_2 (Or.inl l5_2)))) (fun _ _ => rfl)) se_int)) se_int)) se_int (by first | rfl | with_unfolding_all rfl)) (sss_cons (ss_set C n5_6 (Or.inl l5_6) (Rf.PE.new (se_bin C .mod (Rf.PE.new (se_bin C .fdiv (se_idx C (se_var C n5_1 (Or.inl l5_1)) (Rf.PE.new (se_bin C .add se_int (se_var C n5_2 (Or.inl l5_2)))) (fun _ _ => rfl)) se_int)) (Rf.PE.new (se_bin C .add (se_var C n5_4 (Or.inl l5_4)) se_int)))))
      (sss_cons (ss_set C n5_5 (Or.inl l5_5) (Rf.PE.new (se_bin C .add (Rf.PE.new (se_bin C .add (Rf.PE.new (se_sl C (se_var C n5_5 (Or.inl l5_5)) so_none (so_some (se_var C n5_6 (Or.inl l5_6))))) (se_idx C se_str (Rf.PE.new (se_bin C .mod (Rf.PE.new (se_bin C .fdiv (se_idx C (se_var C n5_1 (Or.inl l5_1)) (Rf.PE.new (se_bin C .add se_int (se_var C n5_2 (Or.inl l5_2)))) (fun _ _ => rfl)) se_int)) se_int)) (fun _ _ => rfl)))) (Rf.PE.new (se_sl C (se_var C n5_5 (Or.inl l5_5)) (so_some (se_var C n5_6 (Or.inl l5_6))) so_none)))))
      sss_nil)) sss_nil)
      (sss_cons (ss_set C n5_7 (Or.inl l5_7) (se_cmp C .le (se_flat rfl (se_bltB C (cl_len C.calm) g5_len z_len (by decide +kernel) (ses_cons (se_var C n5_5 (Or.inl l5_5)) ses_nil))) se_int (by first | rfl | with_unfolding_all rfl)))
      (sss_cons (ss_for C (si_str (se_var C n5_5 (Or.inl l5_5))) (sg_nm C.hN C.nd n5_8 (Or.inl l5_8) (by first | exact .inl rfl | exact .inr rfl)) (fun _ _ C => (sss_cons (ss_set C n5_7 (Or.inl l5_7) (se_and (se_var C n5_7 (Or.inl l5_7)) (se_one (se_cmp C .isin (se_var C n5_8 (Or.inl l5_8)) (Rf.PE.new (se_bin C .add (se_var C n5_3 (Or.inl l5_3)) (se_m0 C .upper ⟨nofun, nofun, nofun⟩ (se_var C n5_3 (Or.inl l5_3))))) (by first | rfl | with_unfolding_all rfl)))))
      sss_nil)))
      (sss_cons (ss_set C n5_9 (Or.inl l5_9) (se_call C (hf_is_word.fn hr) g5_is_word (ses_cons (se_var C n5_3 (Or.inl l5_3)) (ses_cons (se_var C n5_5 (Or.inl l5_5)) ses_nil))))
      (sss_cons (ss_if (PW.pt (st_or (st_not (st_val (se_isi C (T := 1) (by decide) rfl g5_isinstance z_isinstance g5_bool z_bool (by decide +kernel) (se_var C n5_9 (Or.inl l5_9))))) (st_or1 (st_cmp C .ne (se_var C n5_9 (Or.inl l5_9)) (se_var C n5_7 (Or.inl l5_7)) (by first | rfl | with_unfolding_all rfl))))) (sss_cons (ss_ret se_bl)
      sss_nil) sss_nil)
      (sss_cons (ss_set C n5_10 (Or.inl l5_10) se_str)
      (sss_cons (ss_for C (si_str (se_var C n5_5 (Or.inl l5_5))) (sg_nm C.hN C.nd n5_8 (Or.inl l5_8) (by first | exact .inl rfl | exact .inr rfl)) (fun _ _ C => (sss_cons (ss_if (st_val (se_m0 C .isalpha ⟨nofun, nofun, nofun⟩ (se_var C n5_8 (Or.inl l5_8)))) (sss_cons (ss_set C n5_10 (Or.inl l5_10) (Rf.PE.new (se_bin C .add (se_var C n5_10 (Or.inl l5_10)) (se_var C n5_8 (Or.inl l5_8)))))
      sss_nil) sss_nil)
      sss_nil)))
      (sss_cons (ss_set C n5_11 (Or.inl l5_11) (se_call C (hf_inverse_word.fn hr) g5_inverse_word (ses_cons (se_var C n5_10 (Or.inl l5_10)) ses_nil)))
      (sss_cons (ss_if (PW.pt (st_or (st_not (st_val (se_isi C (T := 2) (by decide) rfl g5_isinstance z_isinstance g5_str z_str (by decide +kernel) (se_var C n5_11 (Or.inl l5_11))))) (st_or (st_cmp C .ne (se_var C n5_11 (Or.inl l5_11)) (se_call C (hf__law_turned.fn hr) g5__law_turned (ses_cons (se_var C n5_10 (Or.inl l5_10)) ses_nil)) (by first | rfl | with_unfolding_all rfl)) (st_or1 (st_cmp C .ne (se_call C (hf_inverse_word.fn hr) g5_inverse_word (ses_cons (se_var C n5_11 (Or.inl l5_11)) ses_nil)) (se_var C n5_10 (Or.inl l5_10)) (by first | rfl | with_unfolding_all rfl)))))) (sss_cons (ss_ret se_bl)
      sss_nil) sss_nil)
      sss_nil))))))))))))))
      (sss_cons (ss_ret (se_and (se_cmp C .eq (se_globI g5_MAX_WORD c_MAX_WORD) se_int (by first | rfl | with_unfolding_all rfl)) (se_and (se_cmp C .is (se_call C (hf_is_word.fn hr) g5_is_word (ses_cons se_str (ses_cons se_str ses_nil))) se_bl (by first | rfl | with_unfolding_all rfl)) (se_one (se_cmp C .eq (se_call C (hf_inverse_word.fn hr) g5_inverse_word (ses_cons se_str ses_nil)) se_str (by first | rfl | with_unfolding_all rfl))))))
      sss_nil)))
/-- every def of the program, n deep -/
theorem all_good (z_abs : mg "abs" = none) (z_all : mg "all" = none) (z_bool : mg "bool" = none) (z_int : mg "int" = none) (z_isinstance : mg "isinstance" = none) (z_len : mg "len" = none) (z_max : mg "max" = none) (z_range : mg "range" = none) (z_str : mg "str" = none) {k_MAX_WORD : Tok} (c_MAX_WORD : mg "MAX_WORD" = some (.int 40 k_MAX_WORD)) (t0 : Txt K mg "is_word" s0 p0) (t1 : Txt K mg "inverse_word" s1 p1) (t2 : Txt K mg "_law_numbers" s2 p2) (t3 : Txt K mg "_law_word" s3 p3) (t4 : Txt K mg "_law_turned" s4 p4) : ∀ n, Good pr w K mg base ca TB F "is_word" 0 n ∧ Good pr w K mg base ca TB F "inverse_word" 1 n ∧ Good pr w K mg base ca TB F "_law_numbers" 2 n ∧ Good pr w K mg base ca TB F "_law_word" 3 n ∧ Good pr w K mg base ca TB F "_law_turned" 4 n
  | 0 => ⟨good_zero t0, good_zero t1, good_zero t2, good_zero t3, good_zero t4⟩
  | n + 1 => by
    obtain ⟨hf_is_word, hf_inverse_word, hf__law_numbers, hf__law_word, hf__law_turned⟩ := all_good z_abs z_all z_bool z_int z_isinstance z_len z_max z_range z_str c_MAX_WORD t0 t1 t2 t3 t4 n
    exact ⟨good_succ t0 sc0 rfl rfl rfl (by decide) (w0 c_MAX_WORD z_all z_len), good_succ t1 sc1 rfl rfl rfl (by decide) (w1 ), good_succ t2 sc2 rfl rfl rfl (by decide) (w2 z_abs z_int z_len z_max z_range), good_succ t3 sc3 rfl rfl rfl (by decide) (w3 z_int z_len z_range), good_succ t4 sc4 rfl rfl rfl (by decide) (w4 z_int)⟩
end
end My

set_option Elab.async false
set_option linter.all false
set_option maxRecDepth 100000
set_option maxHeartbeats 1000000
namespace My
open PySem PySem.Spec PyProof.Rows L2 Rf
section
variable {Φ : FT} {F : Nat}
/-! ### numbers -/
abbrev il (l : List Int) : List D := l.map .int
theorem idx_il {l : List Int} {i : Int} (h0 : 0 ≤ i) (h : i.toNat < l.length) : idxK (.list (il l)) (.int i) = .ok (.int l[i.toNat]) := by
  have e : idxD (.list (il l)) (.int i) = some (.int l[i.toNat]) := by
    show L2.atI (il l) i = _
    exact atI_at h0 (get_ints h)
  rw [idxK, e]; rfl
theorem il_snoc {l : List Int} {x : Int} : il l ++ [.int x] = il (l ++ [x]) := by simp
def J1 (ns : List Int) (k : Int) (s6 : Slot) (e : Sl) : Prop := ∃ (l' : List Int) (c' : Int) (s5' : Slot), e = [.d (.list (il ns)), .d (.int 60), .ol (il l'), .d (.int k), .d (.int c'), s5', s6, .un, .un] ∧ l'.length ≤ 60 ∧ (∀ x ∈ l', 0 ≤ x) ∧ 0 ≤ c'
theorem inner_ok {l : List Int} (hl : l.length ≤ 60) (h0 : ∀ x ∈ l, 0 ≤ x) {ns : List Int} {c k : Int} (hc : 0 ≤ c) {s5 s6 : Slot} {Q : Out → Prop}
    (hQ : ∀ l' c' s5', l'.length ≤ 60 → (∀ x ∈ l', 0 ≤ x) → Is Q (.nx [.d (.list (il ns)), .d (.int 60), .ol (il l'), .d (.int k), .d (.int c'), s5', s6, .un, .un])) :
    Is Q (forL (Rf.execs Φ F b2_1) (.nm 5) (rngD 0 60) [.d (.list (il ns)), .d (.int 60), .ol (il l), .d (.int k), .d (.int c), s5, s6, .un, .un]) := by
  refine Is.forE (fun _ e => J1 ns k s6 e) ⟨l, c, s5, rfl, hl, h0, hc⟩ ?_ ?_
  · rintro i x e hx ⟨l', c', s5', rfl, h1, h2, h3⟩
    obtain ⟨hi, rfl⟩ := rng_get hx
    by_cases hc1 : 0 < c'
    · by_cases hc2 : (l'.length : Int) < 60
      · have hz : l'.length < line := by unfold line; omega
        simp [turnB, bindT, b2_1, hc1, hc2, hz]
        refine ⟨l' ++ [c' % 10007], c' / 10007, _, by rw [il_snoc], by simp; omega, ?_, by omega⟩
        intro x hx
        rcases List.mem_append.mp hx with hx | hx
        · exact h2 x hx
        · simp at hx; omega
      · simp [turnB, bindT, b2_1, hc1, hc2]
        exact ⟨l', c', _, rfl, h1, h2, h3⟩
    · simp [turnB, bindT, b2_1, hc1]
      exact ⟨l', c', _, rfl, h1, h2, h3⟩
  · rintro e ⟨l', c', s5', rfl, h1, h2, h3⟩
    exact hQ l' c' s5' h1 h2
def J2 (ns : List Int) (e : Sl) : Prop := ∃ (l' : List Int) (s3 s4 s5 s6 : Slot), e = [.d (.list (il ns)), .d (.int 60), .ol (il l'), s3, s4, s5, s6, .un, .un] ∧ l'.length ≤ 60 ∧ (∀ x ∈ l', 0 ≤ x)
def J3 (ns : List Int) (b : Nat) (i : Nat) (e : Sl) : Prop := ∃ (l' : List Int) (s3 s4 s5 s6 : Slot) (z : Int), e = [.d (.list (il ns)), .d (.int 60), .ol (il l'), s3, s4, s5, s6, .d (.int b), .d (.int z)] ∧ l'.length = b + i ∧ (∀ x ∈ l', 0 ≤ x)
def R1 (x : D) : Prop := ∃ l : List Int, x = .list (il l) ∧ l.length = 60 ∧ ∀ x ∈ l, 0 ≤ x
theorem turn2 {ns : List Int} (hn : ns.length ≤ 63) {i : Nat} (hi : i < ns.length) {l' : List Int} {s3 s4 s5 s6 : Slot} (h1 : l'.length ≤ 60) (h2 : ∀ x ∈ l', 0 ≤ x) {Q : Out → Prop} {f : Sl → Out} : Is (Turn Q (J2 ns) f) (turnB (Rf.execs Φ F b2_2) (.nm 3) (.int i) [.d (.list (il ns)), .d (.int 60), .ol (il l'), s3, s4, s5, s6, .un, .un]) := by
  have hix := idx_il (l := ns) (i := (i : Int)) (by omega) (by simpa using hi)
  generalize ns[((i : Int)).toNat]'(by simpa using hi) = cell at hix
  have hpos : 0 ≤ (if cell < 0 then -cell else cell) := by split <;> omega
  simp only [turnB, bindT, b2_2, List.length_cons, List.length_nil, Nat.reduceAdd, Nat.reduceLT, if_true, List.set_cons_succ, List.set_cons_zero]
  simp [hix]
  generalize (if cell < 0 then -cell else cell) = c at hpos
  by_cases hb : (1000000000000000000 : Int) ≤ c
  · simp [hb]
    have hs : srcK .rng [.int 60] = .ok (rngD 0 60) := srcK_rn (n := 60) (by decide)
    rw [hs]
    simp only [Out.ofR_ok]
    refine inner_ok h1 h2 hpos fun l3 c3 s5 g1 g2 => ?_
    rw [Turn_nx]
    exact ⟨l3, _, _, _, _, rfl, g1, g2⟩
  · by_cases hc2 : (l'.length : Int) < 60
    · have hz : l'.length < line := by unfold line; omega
      simp [hb, hc2, hz]
      refine ⟨l' ++ [_], _, _, _, _, by rw [il_snoc], by simp; omega, ?_⟩
      intro x hx
      rcases List.mem_append.mp hx with hx | hx
      · exact h2 x hx
      · simp at hx; omega
    · simp [hb, hc2]
      exact ⟨l', _, _, _, _, rfl, h1, h2⟩
theorem turn3 {ns : List Int} {b i : Nat} (hb60 : b + i < 60) {l2 : List Int} {s3 s4 s5 s6 : Slot} {z : Int} (g1 : l2.length = b + i) (g2 : ∀ x ∈ l2, 0 ≤ x) {Q : Out → Prop} {f : Sl → Out} : Is (Turn Q (J3 ns b (i + 1)) f) (turnB (Rf.execs Φ F b2_3) (.nm 3) (.int i) [.d (.list (il ns)), .d (.int 60), .ol (il l2), s3, s4, s5, s6, .d (.int b), .d (.int z)]) := by
  have hz : l2.length < line := by unfold line; omega
  have fin : ∀ y : Int, J3 ns b (i + 1) [.d (.list (il ns)), .d (.int 60), .ol (il l2 ++ [.int ((y % 2147483647) / 7)]), .d (.int i), s4, s5, s6, .d (.int b), .d (.int (y % 2147483647))] := fun y => by
    refine ⟨l2 ++ [(y % 2147483647) / 7], _, _, _, _, _, by rw [il_snoc], by simp; omega, ?_⟩
    intro x hx
    rcases List.mem_append.mp hx with hx | hx
    · exact g2 x hx
    · simp at hx; omega
  by_cases hb : 0 < b
  · have hp : 0 < (b : Int) := by omega
    have hmod : 0 ≤ (i : Int) % (b : Int) := Int.emod_nonneg _ (by omega)
    have hmod2 : (i : Int) % (b : Int) < b := Int.emod_lt_of_pos _ hp
    have hix := idx_il (l := l2) (i := (i : Int) % (b : Int)) hmod (by omega)
    simp [turnB, bindT, b2_3, hb, hp, hix, hz]
    exact fin _
  · have hp : ¬ 0 < (b : Int) := by omega
    simp [turnB, bindT, b2_3, hb, hp, hz]
    exact fin _
theorem tail3 {ns : List Int} {l2 : List Int} {s3 s4 s5 s6 s7 s8 : Slot} (g1 : l2.length = 60) (g2 : ∀ x ∈ l2, 0 ≤ x) : Is (Ret R1) (Rf.execs Φ F [Stm.ret ((Exp.vw 2).sl Exp.nop (Exp.var 1))] [.d (.list (il ns)), .d (.int 60), .ol (il l2), s3, s4, s5, s6, s7, s8]) := by
  have hs : Rf.cutD (il l2) none (some (60 : Int)) = il l2 := by
    rw [show (60 : Int) = ((60 : Nat) : Int) from rfl, cut_to, List.take_of_length_le (by simp [g1])]
  simp [hs]
  exact ⟨l2, rfl, g1, g2⟩
theorem numbers_ok (ns : List Int) (hn : ns.length ≤ 63) : ∃ x, Fdef.run ⟨2, 9, b2⟩ Φ F [.list (il ns), .int 60] = .ok x ∧ R1 x := by
  refine run_of rfl ?_
  have hr : ns.length ≤ 1000000 := by omega
  have hs := srcK_rn (n := ns.length) hr
  simp only [b2, x_cons, x_own, e_lst, es_nil, Res.bind_ok, Out.ofR_ok, List.map_cons, List.map_nil, List.replicate_succ, List.replicate_zero, Nat.reduceSub, List.cons_append, List.nil_append]
  rw [ownK_l (by simp)]
  simp [hs]
  refine Is.for (fun _ e => J2 ns e) ⟨[], _, _, _, _, rfl, by simp, by simp⟩ ?_ ?_
  · rintro i x e hx ⟨l', s3, s4, s5, s6, rfl, h1, h2⟩
    obtain ⟨hi, rfl⟩ := rng_get hx
    rw [Int.zero_add]
    exact turn2 hn hi h1 h2
  · rintro e ⟨l', s3, s4, s5, s6, rfl, h1, h2⟩
    have hm : (if (l'.length : Int) < 60 then 60 - (l'.length : Int) else 0) = ((60 - l'.length : Nat) : Int) := by split <;> omega
    have hs2 := srcK_rn (n := 60 - l'.length) (by omega)
    simp
    rw [hm, hs2]
    simp only [Out.ofR_ok]
    refine Is.for (fun i e => J3 ns l'.length i e) ⟨l', _, _, _, _, _, rfl, rfl, h2⟩ ?_ ?_
    · rintro i x e hx ⟨l2, s3, s4, s5, s6, z, rfl, g1, g2⟩
      obtain ⟨hi, rfl⟩ := rng_get hx
      rw [Int.zero_add]
      exact turn3 (by omega) g1 g2
    · rintro e ⟨l2, s3, s4, s5, s6, z, rfl, g1, g2⟩
      rw [rng_len] at g1
      exact tail3 (by omega) g2
end
end My

set_option Elab.async false
set_option linter.all false
set_option maxRecDepth 100000
set_option maxHeartbeats 1000000
namespace My
open PySem PySem.Spec PyProof.Rows L2 Rf
section
variable {Φ : FT} {F : Nat}
/-! ### signs -/
def AL : List (List Nat) := [[97, 98], [97, 98, 99, 100], [97], [99, 100], [98, 99]]
def CH : List Nat := [97, 98, 99, 100, 65, 66, 67, 68, 120, 88, 122, 90, 101, 69, 49, 32, 45, 95]
def up (c : Nat) : Nat := if 97 ≤ c ∧ c ≤ 122 then c - 32 else c
def lo (c : Nat) : Nat := if 65 ≤ c ∧ c ≤ 90 then c + 32 else c
def sw (c : Nat) : Nat := if c = up c then lo c else up c
def inA (a : List Nat) (c : Nat) : Bool := (a ++ a.map up).contains c
theorem ch_up : ∀ c ∈ CH, Txt.upper (S [c]) = S [up c] := by decide +kernel
theorem ch_lo : ∀ c ∈ CH, Txt.lower (S [c]) = S [lo c] := by decide +kernel
theorem ch_ok : ∀ c ∈ CH, PyData.strOk (S [c]) = true ∧ PyData.strOk (S [up c]) = true := by decide +kernel
theorem ch_sw : ∀ c ∈ CH, sw c ∈ CH ∧ sw (sw c) = c := by decide +kernel
theorem ch_raw : ∀ c ∈ CH, (if Unicode.isUpper c then Unicode.lowerOf c else if Unicode.isLower c then Unicode.upperOf c else [c]) = [sw c] ∧ (c == 0x3A3) = false := by decide +kernel
theorem al_up : ∀ a ∈ AL, Txt.upper (S a) = S (a.map up) := by decide +kernel
theorem al_in : ∀ a ∈ AL, ∀ c ∈ CH, inD (.str (S [c])) (.str (S (a ++ a.map up))) = some (inA a c) := by decide +kernel
theorem al_lo : ∀ a ∈ AL, ∀ c ∈ CH, (Txt.isalpha (S [c]) && (inD (.str (S [lo c])) (.str (S a)) == some true)) = inA a c ∧ (inD (.str (S [lo c])) (.str (S a))).isSome = true := by decide +kernel
theorem S_len {l : List Nat} : (S l).length = l.length := by simp [Str.length]
theorem S_app {a b : List Nat} : (S a ++ S b : Str) = S (a ++ b) := by
  show (⟨a.toArray ++ b.toArray⟩ : Str) = ⟨(a ++ b).toArray⟩
  simp
theorem S_list {a : List Nat} : (S a).cps.toList = a := rfl
theorem S_ok {l : List Nat} (h : ∀ c ∈ l, c ∈ CH) : PyData.strOk (S l) = true := by
  show (l.toArray.all (· < 0x110000)) = true
  rw [List.all_toArray, List.all_eq_true]
  intro c hc
  have : ∀ c ∈ CH, decide (c < 0x110000) = true := by decide
  exact this c (h c hc)
theorem S_inj {a b : List Nat} : (S a == S b) = decide (a = b) := by
  by_cases h : a = b
  · subst h; simp
  · have : S a ≠ S b := fun e => h (by have := congrArg (fun z : Str => z.cps.toList) e; simpa using this)
    rw [decide_eq_false h]
    simpa using this
theorem flat1 : ∀ l : List Nat, (List.map (Array.toList ∘ fun c => #[sw c]) l).flatten = l.map sw
  | [] => rfl
  | c :: l => by simp only [List.map_cons, List.flatten_cons, flat1 l]; rfl
theorem swap_ok {l : List Nat} (h : ∀ c ∈ l, c ∈ CH) : Txt.swapcase (S l) = S (l.map sw) := by
  unfold Txt.swapcase placed
  congr 1
  apply Array.ext'
  rw [Array.toList_flatten]
  have : (Array.mapIdx (fun i c => (if Unicode.isUpper c = true then Unicode.lowerAt (S l).cps i else if Unicode.isLower c = true then Unicode.upperOf c else [c]).toArray) (S l).cps) = (l.map fun c => #[sw c]).toArray := by
    apply Array.ext
    · simp
    · intro i h1 h2
      simp only [Array.getElem_mapIdx, List.getElem_toArray, List.getElem_map]
      have hi : i < l.length := by simpa using h2
      have hc := ch_raw l[i] (h _ (List.getElem_mem hi))
      have e : Unicode.lowerAt (S l).cps i = Unicode.lowerOf l[i] := by
        unfold Unicode.lowerAt
        have : (S l).cps[i]? = some l[i] := by simp [List.getElem?_eq_getElem hi]
        rw [this]
        simp only [hc.2, Bool.false_and, Bool.false_eq_true, if_false]
      rw [e, hc.1]
  rw [this]
  simp
  exact flat1 l
theorem idx_S {l : List Nat} {i : Int} (h0 : 0 ≤ i) (h : i.toNat < l.length) (hz : l.length ≤ line) : idxK (.str (S l)) (.int i) = .ok (.str (S [l[i.toNat]])) := by
  have e : idxD (.str (S l)) (.int i) = some (.str (S [l[i.toNat]])) := by
    show (if (S l).length ≤ line then (L2.atI (S l).cps.toList i).map fun c => PyData.str (S [c]) else none) = _
    rw [if_pos (by rw [S_len]; exact hz), atI_at h0 (List.getElem?_eq_getElem h)]
    rfl
  rw [idxK, e]; rfl
theorem add_S {a b : List Nat} (h : a.length + b.length ≤ 1000000) : binK .add (.str (S a)) (.str (S b)) = .ok (.str (S (a ++ b))) := by
  rw [binK_str (by rw [S_len, S_len]; exact h), S_app]
theorem len_S {a : List Nat} (h : a.length ≤ 1000000) : bltK .len [.str (S a)] = .ok (.int a.length) := by
  rw [bltK_lenS (by rw [S_len]; exact h), S_len]

/-! ### the defs -/
def R3 (ls : List Nat) (n : Nat) (x : D) : Prop := ∃ cs : List Nat, x = .str (S cs) ∧ cs.length = n ∧ ∀ c ∈ cs, c ∈ ls
def J4 (ls : List Nat) (l : List Int) (n : Nat) (i : Nat) (e : Sl) : Prop := ∃ (cs : List Nat) (s4 : Slot), e = [.d (.str (S ls)), .d (.list (il l)), .d (.int n), .d (.str (S cs)), s4] ∧ cs.length = i ∧ ∀ c ∈ cs, c ∈ ls
theorem word_ok {ls : List Nat} (h1 : ls ≠ []) (h1' : ls.length ≤ 100) {l : List Int} (h2 : l ≠ []) (h2' : l.length ≤ 100) (hl : ∀ x ∈ l, 0 ≤ x) {n : Nat} (hn : n ≤ 100) : ∃ x, Fdef.run ⟨3, 5, b3⟩ Φ F [.str (S ls), .list (il l), .int n] = .ok x ∧ R3 ls n x := by
  refine run_of rfl ?_
  have hs := srcK_rn (n := n) (by omega)
  have e0 : (Str.ofString "") = S [] := by decide +kernel
  simp [b3, hs, e0]
  refine Is.for (fun i e => J4 ls l n i e) ⟨[], _, rfl, rfl, by simp⟩ ?_ ?_
  · rintro i x e hx ⟨cs, s4, rfl, g1, g2⟩
    obtain ⟨hi, rfl⟩ := rng_get hx
    rw [Int.zero_add]
    have pl : 0 < l.length := List.length_pos_iff.mpr h2
    have ps : 0 < ls.length := List.length_pos_iff.mpr h1
    have p1 : (0 : Int) < l.length := by omega
    have p2 : (0 : Int) < ls.length := by omega
    have m1 : 0 ≤ (i : Int) % (l.length : Int) := Int.emod_nonneg _ (by omega)
    have m2 : (i : Int) % (l.length : Int) < l.length := Int.emod_lt_of_pos _ p1
    have ix1 := idx_il (l := l) (i := (i : Int) % (l.length : Int)) m1 (by omega)
    generalize l[((i : Int) % (l.length : Int)).toNat]'(by omega) = v at ix1
    have d1 : (l.length : Int) < 1073741824 := by omega
    have q0 : 0 ≤ (i : Int) / (l.length : Int) := Int.ediv_nonneg (by omega) (by omega)
    have q1 : (i : Int) / (l.length : Int) ≤ i := Int.ediv_le_self _ (by omega)
    have d2 : 0 < 1 + (i : Int) / (l.length : Int) := by omega
    have d3 : 1 + (i : Int) / (l.length : Int) < 1073741824 := by omega
    have m3 : 0 ≤ v / (1 + (i : Int) / (l.length : Int)) % (ls.length : Int) := Int.emod_nonneg _ (by omega)
    have m4 : v / (1 + (i : Int) / (l.length : Int)) % (ls.length : Int) < ls.length := Int.emod_lt_of_pos _ p2
    have ix2 := idx_S (l := ls) (i := v / (1 + (i : Int) / (l.length : Int)) % (ls.length : Int)) m3 (by omega) (by unfold line; omega)
    have hm : ls[(v / (1 + (i : Int) / (l.length : Int)) % (ls.length : Int)).toNat]'(by omega) ∈ ls := List.getElem_mem _
    generalize ls[(v / (1 + (i : Int) / (l.length : Int)) % (ls.length : Int)).toNat]'(by omega) = c at ix2 hm
    have ad := add_S (a := cs) (b := [c]) (by simp; omega)
    have ln := len_S (a := ls) (by omega)
    have o1 := binK_mod (i := i) p1
    have o2 := binK_div (i := i) p1 d1
    have o3 := binK_div (i := v) d2 d3
    have o4 := binK_mod (i := v / (1 + (i : Int) / (l.length : Int))) p2
    simp [turnB, bindT, b3_1, ix1, ix2, o1, o2, o3, o4, ln, ad]
    refine ⟨cs ++ [c], _, rfl, by simp [g1], ?_⟩
    intro x hx
    rcases List.mem_append.mp hx with hx | hx
    · exact g2 x hx
    · simp at hx; subst hx; exact hm
  · rintro e ⟨cs, s4, rfl, g1, g2⟩
    simp
    exact ⟨cs, rfl, by simpa using g1, g2⟩
def J5 (ls : List Nat) (i : Nat) (e : Sl) : Prop := ∃ s2 : Slot, e = [.d (.str (S ls)), .d (.str (S ((ls.take i).map sw).reverse)), s2]
theorem turned_ok {ls : List Nat} (h1 : ls.length ≤ 100) (hc : ∀ c ∈ ls, c ∈ CH) : ∃ x, Fdef.run ⟨1, 3, b4⟩ Φ F [.str (S ls)] = .ok x ∧ x = .str (S (ls.map sw).reverse) := by
  refine run_of rfl ?_
  have e0 : (Str.ofString "") = S [] := by decide +kernel
  simp [b4, e0]
  refine Is.for (fun i e => J5 ls i e) ⟨_, rfl⟩ ?_ ?_
  · rintro i x e hx ⟨s2, rfl⟩
    rw [List.getElem?_map] at hx
    cases q : ls[i]? with
    | none => rw [q] at hx; cases hx
    | some c =>
      rw [q] at hx
      simp only [Option.map_some, Option.some.injEq] at hx
      subst hx
      have hi : i < ls.length := (List.getElem?_eq_some_iff.mp q).1
      have cc : c ∈ CH := hc c (List.mem_of_getElem? q)
      have hu : mthK .upper (.str (S [c])) [] = .ok (.str (S [up c])) := by
        have : mthD .upper (.str (S [c])) [] = some (.str (S [up c])) := by
          show (if (S [c]).length ≤ line then some (PyData.str (Txt.upper (S [c]))) else none) = _
          rw [if_pos (by rw [S_len]; exact (by decide : 1 ≤ line)), ch_up c cc]
        rw [mthK, this]; rfl
      have hl : mthK .lower (.str (S [c])) [] = .ok (.str (S [lo c])) := by
        have : mthD .lower (.str (S [c])) [] = some (.str (S [lo c])) := by
          show (if (S [c]).length ≤ line then some (PyData.str (Txt.lower (S [c]))) else none) = _
          rw [if_pos (by rw [S_len]; exact (by decide : 1 ≤ line)), ch_lo c cc]
        rw [mthK, this]; rfl
      have hq := cmpK_eqS (i := S [c]) (j := S [up c]) (ch_ok c cc).1 (ch_ok c cc).2
      rw [S_inj] at hq
      have hix : idxK (.list [.str (S [up c]), .str (S [lo c])]) (.int (if decide ([c] = [up c]) = true then 1 else 0)) = .ok (.str (S [sw c])) := by
        unfold sw
        by_cases e : c = up c
        · rw [if_pos e, decide_eq_true (by rw [← e]), if_pos rfl]; rfl
        · rw [if_neg e, decide_eq_false (by simpa using e), if_neg (by decide)]; rfl
      have ad := add_S (a := [sw c]) (b := ((ls.take i).map sw).reverse) (by simp; omega)
      simp only [turnB, bindT, b4_1, x_cons, x_asg, e_bin, e_idx, e_lst, es_cons, es_nil, e_mth, e_var, e_blt, e_cmp, List.length_cons, List.length_nil, Nat.reduceAdd, Nat.reduceLT, if_true, List.set_cons_succ, List.set_cons_zero, List.getElem?_cons_succ, List.getElem?_cons_zero, varK_d, Res.bind_ok, hu, hl, hq, bltK_intB, hix, ad, Out.ofR_ok, asgK_nm, Out.seq_nx, x_nil, Turn_nx]
      refine ⟨.d (.str (S [c])), ?_⟩
      rw [List.take_add_one, q]
      simp
  · rintro e ⟨s2, rfl⟩
    simp
theorem inverse_ok {ls : List Nat} (h1 : ls.length ≤ 100) (hc : ∀ c ∈ ls, c ∈ CH) : Fdef.run ⟨1, 1, b1⟩ Φ F [.str (S ls)] = .ok (.str (S (ls.map sw).reverse)) := by
  refine run_ret rfl ?_
  have hr : revsD (.str (S ls)) = some (.str (S ls.reverse)) := by
    show (if (S ls).length ≤ line then some (PyData.str (S (S ls).cps.toList.reverse)) else none) = _
    rw [if_pos (by rw [S_len]; unfold line; omega)]
  have hm : mthK .swapcase (.str (S ls.reverse)) [] = .ok (.str (S (ls.map sw).reverse)) := by
    have : mthD .swapcase (.str (S ls.reverse)) [] = some (.str (S (ls.map sw).reverse)) := by
      show (if (S ls.reverse).length ≤ line then some (PyData.str (Txt.swapcase (S ls.reverse))) else none) = _
      rw [if_pos (by rw [S_len]; unfold line; simp; omega), swap_ok (fun c h => hc c (by simpa using h)), List.map_reverse]
    rw [mthK, this]; rfl
  simp [b1, hr, hm]

def B0 (a cs : List Nat) : Bool := decide (cs.length ≤ 40) && cs.all (inA a)
theorem freeOf_word {a cs : List Nat} {s : Slot} (hs : isOwn s = false) : Rf.freeOf [.d (.str (S a)), .d (.str (S cs)), s] (Tgt.nm 2).ix = true := by
  simp [Rf.freeOf, Tgt.ix, isOwn]
  exact hs
theorem allB {l : List Bool} : allBools (l.map .bool) = some l := by
  induction l with
  | nil => rfl
  | cons b l ih => simp only [List.map_cons, allBools, ih, Option.map_some]
theorem is_word_ok {a cs : List Nat} (ha : a ∈ AL) (h1 : cs.length ≤ 100) (hc : ∀ c ∈ cs, c ∈ CH) : Fdef.run ⟨2, 3, b0⟩ Φ F [.str (S a), .str (S cs)] = .ok (.bool (B0 a cs)) := by
  refine run_ret rfl ?_
  have ln := len_S (a := cs) (by omega)
  by_cases hl : cs.length ≤ 40
  · have hcomp : compL (ev Φ x0_1) (evt Φ []) (.nm 2) (cs.map fun c => PyData.str (S [c])) (wipeS [.d (.str (S a)), .d (.str (S cs)), .un] (Tgt.nm 2).ix) = .ok ((cs.map fun c => PyData.str (S [c])).map fun x => match x with
        | .str z => .bool (inA a (z.cps.toList.headD 0))
        | _ => .none) := by
      refine compL_all (fun e => et_nil) _ fun x hx => ?_
      obtain ⟨c, hcc, rfl⟩ := List.mem_map.mp hx
      have cc := hc c hcc
      refine ⟨_, rfl, ?_⟩
      have hal : mthK .isalpha (.str (S [c])) [] = .ok (.bool (Txt.isalpha (S [c]))) := rfl
      have hl : mthK .lower (.str (S [c])) [] = .ok (.str (S [lo c])) := by
        have : mthD .lower (.str (S [c])) [] = some (.str (S [lo c])) := by
          show (if (S [c]).length ≤ line then some (PyData.str (Txt.lower (S [c]))) else none) = _
          rw [if_pos (by rw [S_len]; exact (by decide : 1 ≤ line)), ch_lo c cc]
        rw [mthK, this]; rfl
      obtain ⟨f1, f2⟩ := al_lo a ha c cc
      obtain ⟨k, hk⟩ := Option.isSome_iff_exists.mp f2
      have hin : cmpK .isin (.str (S [lo c])) (.str (S a)) = .ok (.bool k) := by
        show Res.of ((inD (.str (S [lo c])) (.str (S a))).map PyData.bool) = _
        rw [hk]; rfl
      rw [hk] at f1
      show ev Φ x0_1 [.d (.str (S a)), .d (.str (S cs)), .d (.str (S [c]))] = .ok (.bool (inA a c))
      rw [← f1]
      cases hA : Txt.isalpha (S [c]) with
      | true =>
        rw [hA] at hal
        simp only [x0_1, e_and, e_mth, e_var, e_cmp, es_nil, List.getElem?_cons_succ, List.getElem?_cons_zero, varK_d, Res.bind_ok, hal, andK_t, hl, hin]
        cases k <;> rfl
      | false =>
        rw [hA] at hal
        simp only [x0_1, e_and, e_mth, e_var, e_cmp, es_nil, List.getElem?_cons_succ, List.getElem?_cons_zero, varK_d, Res.bind_ok, hal, andK_f]
        rfl
    have hmap : ((cs.map fun c => PyData.str (S [c])).map fun x => match x with
        | .str z => PyData.bool (inA a (z.cps.toList.headD 0))
        | _ => .none) = (cs.map (inA a)).map .bool := by
      rw [List.map_map, List.map_map]
      rfl
    rw [hmap] at hcomp
    have hK : compK Φ x0_1 (.nm 2) [] [.d (.str (S a)), .d (.str (S cs)), .un] (cs.map fun c => PyData.str (S [c])) = .ok (.list ((cs.map (inA a)).map .bool)) := by
      unfold compK
      rw [freeOf_word rfl, hcomp, decide_eq_true (by simp [line]; omega)]
      rfl
    have hall : bltK .all [.list ((cs.map (inA a)).map .bool)] = .ok (.bool (cs.all (inA a))) := by
      have : bltD .all [.list ((cs.map (inA a)).map .bool)] = some (.bool (cs.all (inA a))) := by
        show (allBools ((cs.map (inA a)).map .bool)).map _ = _
        rw [allB]
        simp
      rw [bltK, this]; rfl
    rw [List.map_map] at hall
    have hn : ¬ (40 : Int) < cs.length := by omega
    simp [b0, ln, hn, hK, hall, B0, hl]
  · have hn : (40 : Int) < cs.length := by omega
    simp [b0, ln, hn, B0, hl]
end
/-! ### the law -/
section
variable {F n : Nat}
theorem call_numbers (ns : List Int) (hn : ns.length ≤ 63) : ∃ l : List Int, phi TB F (n + 1) 2 [.list (il ns), .int 60] = .ok (.list (il l)) ∧ l.length = 60 ∧ ∀ x ∈ l, 0 ≤ x := by
  obtain ⟨x, h1, l, rfl, h2, h3⟩ := numbers_ok (Φ := phi TB F n) (F := F) ns hn
  exact ⟨l, by rw [phi_succ rfl]; exact h1, h2, h3⟩
theorem call_word {ls : List Nat} (h1 : ls ≠ []) (h1' : ls.length ≤ 100) {l : List Int} (h2 : l ≠ []) (h2' : l.length ≤ 100) (hl : ∀ x ∈ l, 0 ≤ x) {k : Nat} (hn : k ≤ 100) : ∃ cs : List Nat, phi TB F (n + 1) 3 [.str (S ls), .list (il l), .int k] = .ok (.str (S cs)) ∧ cs.length = k ∧ ∀ c ∈ cs, c ∈ ls := by
  obtain ⟨x, q1, cs, rfl, q2, q3⟩ := word_ok (Φ := phi TB F n) (F := F) h1 h1' h2 h2' hl hn
  exact ⟨cs, by rw [phi_succ rfl]; exact q1, q2, q3⟩
theorem call_turned {ls : List Nat} (h1 : ls.length ≤ 100) (hc : ∀ c ∈ ls, c ∈ CH) : phi TB F (n + 1) 4 [.str (S ls)] = .ok (.str (S (ls.map sw).reverse)) := by
  obtain ⟨x, q1, rfl⟩ := turned_ok (Φ := phi TB F n) (F := F) h1 hc
  rw [phi_succ rfl]; exact q1
theorem call_inverse {ls : List Nat} (h1 : ls.length ≤ 100) (hc : ∀ c ∈ ls, c ∈ CH) : phi TB F (n + 1) 1 [.str (S ls)] = .ok (.str (S (ls.map sw).reverse)) := by
  rw [phi_succ rfl]; exact inverse_ok h1 hc
theorem call_is_word {a cs : List Nat} (ha : a ∈ AL) (h1 : cs.length ≤ 100) (hc : ∀ c ∈ cs, c ∈ CH) : phi TB F (n + 1) 0 [.str (S a), .str (S cs)] = .ok (.bool (B0 a cs)) := by
  rw [phi_succ rfl]; exact is_word_ok ha h1 hc
def AS : List D := [.str "ab", .str "abcd", .str "a", .str "cd", .str "bc"]
theorem as_eq : AS = AL.map fun a => .str (S a) := by
  have e1 : (Str.ofString "ab") = S [97, 98] := by decide +kernel
  have e2 : (Str.ofString "abcd") = S [97, 98, 99, 100] := by decide +kernel
  have e3 : (Str.ofString "a") = S [97] := by decide +kernel
  have e4 : (Str.ofString "cd") = S [99, 100] := by decide +kernel
  have e5 : (Str.ofString "bc") = S [98, 99] := by decide +kernel
  show [PyData.str (Str.ofString "ab"), .str (Str.ofString "abcd"), .str (Str.ofString "a"), .str (Str.ofString "cd"), .str (Str.ofString "bc")] = _
  rw [e1, e2, e3, e4, e5]
  rfl
theorem pick_al (x : Int) : ∃ a ∈ AL, idxK (.list [.str "ab", .str "abcd", .str "a", .str "cd", .str "bc"]) (.int (x % 5)) = .ok (.str (S a)) := by
  have h0 : 0 ≤ x % 5 := Int.emod_nonneg _ (by decide)
  have h1 : x % 5 < 5 := Int.emod_lt_of_pos _ (by decide)
  have hl : (x % 5).toNat < AL.length := by show _ < 5; omega
  refine ⟨AL[(x % 5).toNat], List.getElem_mem _, ?_⟩
  show idxK (.list AS) _ = _
  rw [as_eq]
  have e : idxD (.list (AL.map fun a => .str (S a))) (.int (x % 5)) = some (.str (S AL[(x % 5).toNat])) := by
    show L2.atI _ _ = _
    refine atI_at h0 ?_
    rw [List.getElem?_map, List.getElem?_eq_getElem hl]
    rfl
  rw [idxK, e]; rfl
theorem al_small : ∀ a ∈ AL, a ≠ [] ∧ a.length ≤ 4 ∧ (∀ c ∈ a ++ a.map up, c ∈ CH) := by decide
theorem pick_size (x : Int) (p : Prop) [Decidable p] : ∃ k : Nat, k ≤ 43 ∧ idxK (.list [.int (x % 12), .int (38 + x % 6)]) (.int (if p then 1 else 0)) = .ok (.int k) := by
  by_cases h : p
  · exact ⟨(38 + x % 6).toNat, by omega, by rw [if_pos h]; show Res.ok (PyData.int (38 + x % 6)) = _; congr 2; omega⟩
  · exact ⟨(x % 12).toNat, by omega, by rw [if_neg h]; show Res.ok (PyData.int (x % 12)) = _; congr 2; omega⟩
theorem pick_odd (x : Int) : ∃ c ∈ CH, idxK (.str "1 xZ-d_AE") (.int (x % 9)) = .ok (.str (S [c])) := by
  have e1 : (Str.ofString "1 xZ-d_AE") = S [49, 32, 120, 90, 45, 100, 95, 65, 69] := by decide +kernel
  have h0 : 0 ≤ x % 9 := Int.emod_nonneg _ (by decide)
  have h1 : x % 9 < 9 := Int.emod_lt_of_pos _ (by decide)
  have hl : (x % 9).toNat < [49, 32, 120, 90, 45, 100, 95, 65, 69].length := by show _ < 9; omega
  refine ⟨[49, 32, 120, 90, 45, 100, 95, 65, 69][(x % 9).toNat], ?_, ?_⟩
  · have : ∀ c ∈ [49, 32, 120, 90, 45, 100, 95, 65, 69], c ∈ CH := by decide
    exact this _ (List.getElem_mem _)
  · show idxK (.str (Str.ofString "1 xZ-d_AE")) _ = _
    rw [e1]
    exact idx_S h0 hl (by decide)
end
end My

set_option Elab.async false
set_option linter.all false
set_option maxRecDepth 100000
set_option maxHeartbeats 2000000
namespace My
open PySem PySem.Spec PyProof.Rows L2 Rf
section
variable {F n : Nat}
theorem execs_app {Φ : FT} : ∀ {a b : List Stm} {e : Sl}, Rf.execs Φ F (a ++ b) e = (Rf.execs Φ F a e).seq (Rf.execs Φ F b)
  | [], b, e => by simp
  | s :: a, b, e => by
    rw [List.cons_append, x_cons, x_cons]
    cases Rf.exec Φ F s e with
    | nx e' => simp [execs_app (a := a)]
    | _ => rfl
def H5 : List Stm := b5_3.take 4
def T5 : List Stm := b5_3.drop 4
theorem b53 : b5_3 = H5 ++ T5 := by unfold H5 T5; rw [List.take_append_drop]
theorem head_ok {sc : D} {l : List Int} (hl : l.length = 60) (h0 : ∀ x ∈ l, 0 ≤ x) {k : Nat} (hk : k < 4) {s3 s4 s5 s6 s7 s8 s9 s10 s11 : Slot} :
    ∃ a ∈ AL, ∃ (cs : List Nat) (s4' s6' : Slot), Rf.execs (phi TB F (n + 1)) F H5 [.d sc, .d (.list (il l)), .d (.int k), s3, s4, s5, s6, s7, s8, s9, s10, s11] = .nx [.d sc, .d (.list (il l)), .d (.int k), .d (.str (S a)), s4', .d (.str (S cs)), s6', s7, s8, s9, s10, s11] ∧ cs.length ≤ 50 ∧ ∀ c ∈ cs, c ∈ CH := by
  have ixk := idx_il (l := l) (i := (k : Int)) (by omega) (by simp; omega)
  have ix4 := idx_il (l := l) (i := 4 + (k : Int)) (by omega) (by omega)
  have ix8 := idx_il (l := l) (i := 8 + (k : Int)) (by omega) (by omega)
  generalize l[((k : Int)).toNat]'(by simp; omega) = v0 at ixk
  have p4 : 0 ≤ l[(4 + (k : Int)).toNat]'(by omega) := h0 _ (List.getElem_mem _)
  generalize l[(4 + (k : Int)).toNat]'(by omega) = v4 at ix4 p4
  generalize l[(8 + (k : Int)).toNat]'(by omega) = v8 at ix8
  obtain ⟨a, ha, hal⟩ := pick_al v0
  obtain ⟨z, hz, hsz⟩ := pick_size v4 (v8 % 5 = 0)
  obtain ⟨ha1, ha2, ha3⟩ := al_small a ha
  have hup : mthK .upper (.str (S a)) [] = .ok (.str (S (a.map up))) := by
    have : mthD .upper (.str (S a)) [] = some (.str (S (a.map up))) := by
      show (if (S a).length ≤ line then some (PyData.str (Txt.upper (S a))) else none) = _
      rw [if_pos (by rw [S_len]; unfold line; omega), al_up a ha]
    rw [mthK, this]; rfl
  have had := add_S (a := a) (b := a.map up) (by simp; omega)
  have hcut : Rf.cutD (il l) (some (12 + 3 * (k : Int))) (some (40 + 3 * (k : Int))) = il ((l.drop (12 + 3 * k)).take 28) := by
    rw [show 12 + 3 * (k : Int) = ((12 + 3 * k : Nat) : Int) by omega, show 40 + 3 * (k : Int) = ((40 + 3 * k : Nat) : Int) by omega, cut_mid (by omega) (by simp; omega), show 40 + 3 * k - (12 + 3 * k) = 28 by omega]
    simp
  have hne : (l.drop (12 + 3 * k)).take 28 ≠ [] := fun e => by
    have := congrArg List.length e
    rw [List.length_take, List.length_drop] at this
    simp at this
    omega
  obtain ⟨cs, hw, hw1, hw2⟩ := call_word (F := F) (n := n) (ls := a ++ a.map up) (l := (l.drop (12 + 3 * k)).take 28) (k := z) (by simp [ha1]) (by simp; omega) hne (by rw [List.length_take]; omega) (fun x hx => h0 x (List.mem_of_mem_drop (List.mem_of_mem_take hx))) (by omega)
  generalize (l.drop (12 + 3 * k)).take 28 = L at hcut hw
  have hcs : ∀ c ∈ cs, c ∈ CH := fun c hc => ha3 c (hw2 c hc)
  by_cases hif : v8 / 5 % 3 = 0
  · have d1 : (0 : Int) < (z : Int) + 1 := by omega
    have o1 := binK_mod (i := v4 / 12) d1
    have q0 : 0 ≤ v4 / 12 % ((z : Int) + 1) := Int.emod_nonneg _ (by omega)
    have q1 : v4 / 12 % ((z : Int) + 1) < (z : Int) + 1 := Int.emod_lt_of_pos _ d1
    obtain ⟨t, ht⟩ := Int.eq_ofNat_of_zero_le q0
    rw [ht] at o1 q1
    obtain ⟨c, hc, hodd⟩ := pick_odd (v4 / 7)
    have hl1 : (S cs).length ≤ line := by rw [S_len]; unfold line; omega
    have sl1 : slK (.str (S cs)) none (some (t : Int)) = .ok (.str (S (cs.take t))) := by rw [slK_s hl1, S_list, cut_to]
    have sl2 : slK (.str (S cs)) (some (t : Int)) none = .ok (.str (S (cs.drop t))) := by rw [slK_s hl1, S_list, cut_from]
    have ad1 := add_S (a := cs.take t) (b := [c]) (by simp; omega)
    have ad2 := add_S (a := cs.take t ++ [c]) (b := cs.drop t) (by simp; omega)
    refine ⟨a, ha, cs.take t ++ [c] ++ cs.drop t, .d (.int z), .d (.int t), ?_, by simp; omega, ?_⟩
    · simp [H5, b5_3, List.take, ixk, ix4, ix8, hal, hsz, hup, had, hcut, hw, hif, o1, hodd, sl1, sl2, ad1, ad2]
    · intro x hx
      rcases List.mem_append.mp hx with hx | hx
      · rcases List.mem_append.mp hx with hx | hx
        · exact hcs x (List.mem_of_mem_take hx)
        · simp at hx; subst hx; exact hc
      · exact hcs x (List.mem_of_mem_drop hx)
  · refine ⟨a, ha, cs, .d (.int z), s6, ?_, by omega, hcs⟩
    simp [H5, b5_3, List.take, ixk, ix4, ix8, hal, hsz, hup, had, hcut, hw, hif]

/-! the rest of a turn -/
def due (a : List Nat) (cs : List Nat) (i : Nat) : Bool := decide (cs.length ≤ 40) && (cs.take i).all (inA a)
def K1 (sc : D) (l : List Int) (k : Nat) (a cs : List Nat) (s4 s6 s9 s10 s11 : Slot) (i : Nat) (e : Sl) : Prop := ∃ s8 : Slot, e = [.d sc, .d (.list (il l)), .d (.int k), .d (.str (S a)), s4, .d (.str (S cs)), s6, .d (.bool (due a cs i)), s8, s9, s10, s11]
def al (c : Nat) : Bool := Txt.isalpha (S [c])
def K2 (sc : D) (l : List Int) (k : Nat) (a cs : List Nat) (s4 s6 s7 s9 s11 : Slot) (i : Nat) (e : Sl) : Prop := ∃ s8 : Slot, e = [.d sc, .d (.list (il l)), .d (.int k), .d (.str (S a)), s4, .d (.str (S cs)), s6, s7, s8, s9, .d (.str (S ((cs.take i).filter al))), s11]
def JL (sc : D) (l : List Int) (e : Sl) : Prop := ∃ s2 s3 s4 s5 s6 s7 s8 s9 s10 s11 : Slot, e = [.d sc, .d (.list (il l)), s2, s3, s4, s5, s6, s7, s8, s9, s10, s11]
theorem sw_sw {ls : List Nat} (h : ∀ c ∈ ls, c ∈ CH) : (((ls.map sw).reverse).map sw).reverse = ls := by
  rw [List.map_reverse, List.reverse_reverse, List.map_map]
  have : ls.map (sw ∘ sw) = ls.map id := List.map_congr_left fun c hc => (ch_sw c (h c hc)).2
  rw [this, List.map_id]
theorem chars_get {cs : List Nat} {i : Nat} {x : D} (h : (cs.map fun c => PyData.str (S [c]))[i]? = some x) : ∃ c, cs[i]? = some c ∧ x = .str (S [c]) := by
  rw [List.getElem?_map] at h
  cases q : cs[i]? with
  | none => rw [q] at h; cases h
  | some c => rw [q] at h; simp only [Option.map_some, Option.some.injEq] at h; exact ⟨c, rfl, h.symm⟩
theorem turn_due {sc : D} {l : List Int} {k : Nat} {a cs : List Nat} (ha : a ∈ AL) (hc : ∀ c ∈ cs, c ∈ CH) {s4 s6 s8 s9 s10 s11 : Slot} {i c : Nat} (q : cs[i]? = some c) {Q : Out → Prop} {f : Sl → Out} {Φ : FT} :
    Is (Turn Q (K1 sc l k a cs s4 s6 s9 s10 s11 (i + 1)) f) (turnB (Rf.execs Φ F b5_1) (.nm 8) (.str (S [c])) [.d sc, .d (.list (il l)), .d (.int k), .d (.str (S a)), s4, .d (.str (S cs)), s6, .d (.bool (due a cs i)), s8, s9, s10, s11]) := by
  have cc : c ∈ CH := hc c (List.mem_of_getElem? q)
  obtain ⟨ha1, ha2, ha3⟩ := al_small a ha
  have hup : mthK .upper (.str (S a)) [] = .ok (.str (S (a.map up))) := by
    have : mthD .upper (.str (S a)) [] = some (.str (S (a.map up))) := by
      show (if (S a).length ≤ line then some (PyData.str (Txt.upper (S a))) else none) = _
      rw [if_pos (by rw [S_len]; unfold line; omega), al_up a ha]
    rw [mthK, this]; rfl
  have had := add_S (a := a) (b := a.map up) (by simp; omega)
  have hin : cmpK .isin (.str (S [c])) (.str (S (a ++ a.map up))) = .ok (.bool (inA a c)) := by
    show Res.of ((inD (.str (S [c])) (.str (S (a ++ a.map up)))).map PyData.bool) = _
    rw [al_in a ha c cc]; rfl
  have hd : due a cs (i + 1) = (due a cs i && inA a c) := by
    unfold due
    rw [List.take_add_one, q]
    simp [Bool.and_assoc]
  cases hdi : due a cs i with
  | true =>
    rw [hdi, Bool.true_and] at hd
    simp [turnB, bindT, b5_1, hup, had, hin]
    exact ⟨_, by rw [hd]⟩
  | false =>
    rw [hdi, Bool.false_and] at hd
    simp [turnB, bindT, b5_1, hup, had, hin]
    exact ⟨_, by rw [hd]⟩
theorem turn_let {sc : D} {l : List Int} {k : Nat} {a cs : List Nat} (h1 : cs.length ≤ 50) {s4 s6 s7 s8 s9 s11 : Slot} {i c : Nat} (q : cs[i]? = some c) {Q : Out → Prop} {f : Sl → Out} {Φ : FT} :
    Is (Turn Q (K2 sc l k a cs s4 s6 s7 s9 s11 (i + 1)) f) (turnB (Rf.execs Φ F b5_2) (.nm 8) (.str (S [c])) [.d sc, .d (.list (il l)), .d (.int k), .d (.str (S a)), s4, .d (.str (S cs)), s6, s7, s8, s9, .d (.str (S ((cs.take i).filter al))), s11]) := by
  have hal : mthK .isalpha (.str (S [c])) [] = .ok (.bool (al c)) := rfl
  have hd : (cs.take (i + 1)).filter al = (cs.take i).filter al ++ (if al c then [c] else []) := by
    rw [List.take_add_one, q, List.filter_append]
    simp [List.filter_cons]
  cases hA : al c with
  | true =>
    rw [hA] at hal hd
    have ad := add_S (a := (cs.take i).filter al) (b := [c]) (by
      have := List.length_filter_le al (cs.take i)
      rw [List.length_take] at this
      simp only [List.length_cons, List.length_nil]
      omega)
    generalize (cs.take i).filter al = fs at ad hd
    simp [turnB, bindT, b5_2, hal, ad]
    exact ⟨_, by rw [hd]; rfl⟩
  | false =>
    rw [hA] at hal hd
    simp [turnB, bindT, b5_2, hal]
    exact ⟨.d (.str (S [c])), by rw [hd]; simp⟩
theorem tail_ok {sc : D} {l : List Int} {k : Nat} {a cs : List Nat} (ha : a ∈ AL) (h1 : cs.length ≤ 50) (hc : ∀ c ∈ cs, c ∈ CH) {s4 s6 s7 s8 s9 s10 s11 : Slot} {Q : Out → Prop} {f : Sl → Out} :
    Is (Turn Q (JL sc l) f) (Rf.execs (phi TB F (n + 1)) F T5 [.d sc, .d (.list (il l)), .d (.int k), .d (.str (S a)), s4, .d (.str (S cs)), s6, s7, s8, s9, s10, s11]) := by
  have ln := len_S (a := cs) (by omega)
  have e0 : (Str.ofString "") = S [] := by decide +kernel
  have hd0 : due a cs 0 = decide (cs.length ≤ 40) := by simp [due]
  have e4 : decide ((cs.length : Int) ≤ 40) = decide (cs.length ≤ 40) := decide_eq_decide.mpr (by omega)
  simp [T5, b5_3, List.drop, ln]
  refine Is.for (fun i e => K1 sc l k a cs s4 s6 s9 s10 s11 i e) ⟨s8, by rw [hd0, e4]⟩ ?_ ?_
  · rintro i x e hx ⟨s8, rfl⟩
    obtain ⟨c, q, rfl⟩ := chars_get hx
    exact turn_due ha hc q
  · rintro e ⟨s8, rfl⟩
    have hB : due a cs cs.length = B0 a cs := by unfold due B0; rw [List.take_length]
    have hw := call_is_word (F := F) (n := n) ha (by omega) hc
    rw [List.length_map, hB]
    simp [hw, e0]
    refine Is.for (fun i e => K2 sc l k a cs s4 s6 (.d (.bool (B0 a cs))) (.d (.bool (B0 a cs))) s11 i e) ⟨s8, rfl⟩ ?_ ?_
    · rintro i x e hx ⟨s8, rfl⟩
      obtain ⟨c, q, rfl⟩ := chars_get hx
      exact turn_let h1 q
    · rintro e ⟨s8, rfl⟩
      rw [List.length_map, List.take_length]
      have hfl : (cs.filter al).length ≤ 50 := Nat.le_trans (List.length_filter_le al cs) h1
      have hfc : ∀ c ∈ cs.filter al, c ∈ CH := fun c h => hc c (List.mem_filter.mp h).1
      generalize cs.filter al = fs at hfl hfc
      have hsc : ∀ c ∈ (fs.map sw).reverse, c ∈ CH := fun c h => by
        rw [List.mem_reverse, List.mem_map] at h
        obtain ⟨d, hd, rfl⟩ := h
        exact (ch_sw d (hfc d hd)).1
      have i1 := call_inverse (F := F) (n := n) (ls := fs) (by omega) hfc
      have i2 := call_inverse (F := F) (n := n) (ls := (fs.map sw).reverse) (by simp; omega) hsc
      have i3 := call_turned (F := F) (n := n) (ls := fs) (by omega) hfc
      rw [sw_sw hfc] at i2
      generalize (fs.map sw).reverse = ts at i1 i2 i3 hsc
      have c1 := cmpK_neS (i := S ts) (j := S ts) (S_ok hsc) (S_ok hsc)
      have c2 := cmpK_neS (i := S fs) (j := S fs) (S_ok hfc) (S_ok hfc)
      rw [S_inj, decide_eq_true rfl] at c1 c2
      simp [i1, i2, i3, c1, c2]
      exact ⟨_, _, _, _, _, _, _, _, _, _, rfl⟩
theorem law_body (ns : List Int) (hn : ns.length ≤ 63) : Is (Ret fun x => x = .bool true) (Rf.execs (phi TB F (n + 1)) F b5 [.d (.list (il ns)), .un, .un, .un, .un, .un, .un, .un, .un, .un, .un, .un]) := by
  have hx := call_numbers (F := F) (n := n) ns hn
  cases hx with
  | intro l hx =>
  have hl := hx.1
  have hl1 := hx.2.1
  have hl2 := hx.2.2
  have hs : srcK .rng [.int 4] = .ok (rngD 0 4) := srcK_rn (n := 4) (by decide)
  simp [b5, hl, hs]
  refine Is.for (fun i e => JL (.list (il ns)) l e) ⟨_, _, _, _, _, _, _, _, _, _, rfl⟩ ?_ ?_
  · rintro i x e hx ⟨s2, s3, s4, s5, s6, s7, s8, s9, s10, s11, rfl⟩
    obtain ⟨hi, rfl⟩ := rng_get hx
    rw [Int.zero_add]
    obtain ⟨a, ha, cs, s4', s6', h1, h2, h3⟩ := head_ok (F := F) (n := n) (sc := .list (il ns)) hl1 hl2 hi (s3 := s3) (s4 := s4) (s5 := s5) (s6 := s6) (s7 := s7) (s8 := s8) (s9 := s9) (s10 := s10) (s11 := s11)
    show Is _ (turnB (Rf.execs (phi TB F (n + 1)) F b5_3) (.nm 2) (.int i) _)
    rw [b53]
    simp only [turnB, bindT, List.length_cons, List.length_nil, Nat.reduceAdd, Nat.reduceLT, if_true, List.set_cons_succ, List.set_cons_zero, execs_app, h1, Out.seq_nx]
    exact tail_ok ha h2 h3
  · rintro e ⟨s2, s3, s4, s5, s6, s7, s8, s9, s10, s11, rfl⟩
    have e0 : (Str.ofString "") = S [] := by decide +kernel
    have e1 : (Str.ofString "ab") = S [97, 98] := by decide +kernel
    have w1 := call_is_word (F := F) (n := n) (a := [97, 98]) (cs := []) (by decide) (by decide) (by simp)
    have w2 := call_inverse (F := F) (n := n) (ls := []) (by decide) (by simp)
    have w3 : B0 [97, 98] [] = true := by decide
    rw [w3] at w1
    have c2 := cmpK_eqS (i := S []) (j := S []) (S_ok (by simp)) (S_ok (by simp))
    rw [S_inj, decide_eq_true rfl] at c2
    have w2 : phi TB F (n + 1) 1 [.str (S [])] = .ok (.str (S [])) := w2
    rw [← e0] at w1 w2 c2
    rw [← e1] at w1
    simp [w1, w2, c2]
theorem law_run (ns : List Int) (hn : ns.length ≤ 63) : Fdef.run ⟨1, 12, b5⟩ (phi TB F (n + 1)) F [.list (il ns)] = .ok (.bool true) := by
  have h := run_of (fn := ⟨1, 12, b5⟩) (Φ := phi TB F (n + 1)) (F := F) (args := [.list (il ns)]) (Q := fun x => x = .bool true) rfl (by
    simp only [List.map_cons, List.map_nil, List.replicate_succ, List.replicate_zero, Nat.reduceSub, List.cons_append, List.nil_append]
    exact law_body ns hn)
  cases h with
  | intro x h =>
  rw [h.1]
  have e : x = .bool true := h.2
  rw [e]
theorem pure_gen (ns : List Int) (hl : ns.length ≤ 63) {m : Nat} (h : m = n + 1) : phi TB F (m + 1) 5 [.list (il ns)] = .ok (.bool true) := by
  subst h
  exact (phi_succ (fn := ⟨1, 12, b5⟩) rfl).trans (law_run ns hl)
theorem pure_law (ns : List Int) (hl : ns.length ≤ 63) : phi TB 0 (5 + 1) 5 [.list (ns.map .int)] = .ok (.bool true) := pure_gen (n := 4) ns hl rfl
end
end My

set_option maxRecDepth 100000
set_option maxHeartbeats 2000000
namespace My
open PySem PySem.Spec PyProof.Rows L2 Rf
theorem all_mk {l : PySem.W.OpenLaw} {w : World} {K : PySem.W.Frag} {h : Heap} {mg : Str → Option Value} {fa f0 f1 f2 f3 f4 f5 : Addr} (X : K.In h) (G : h.Ns mainGlobals mg) (hfa : mg "law" = some (.ref fa))
    {od0 an0 od1 an1 od2 an2 od3 an3 od4 an4 od5 an5 : Option Addr} {sl0 sl1 sl2 sl3 sl4 sl5 : Array (Option Value)} {oc0 kV0 dc0 pm0 cd0 ct0 oc1 kV1 dc1 pm1 cd1 ct1 oc2 kV2 dc2 pm2 cd2 ct2 oc3 kV3 dc3 pm3 cd3 ct3 oc4 kV4 dc4 pm4 cd4 ct4 oc5 kV5 dc5 pm5 cd5 ct5 : Value}
    (a0 : PySem.W.nsIn K mainGlobals "is_word" = some (some (.ref f0))) (l0 : K.lookup f0 = some ⟨oc0, od0, .func (PySem.W.fnOf "is_word" "is_word" (defArgs s0) (defBody s0) (defScope s0) .none kV0 dc0 pm0 an0 cd0 ct0), sl0⟩) (c0 : PySem.W.codeIn K cd0 "is_word" = true) (k0 : PySem.W.keepIn K (.ref f0) = true)
    (a1 : PySem.W.nsIn K mainGlobals "inverse_word" = some (some (.ref f1))) (l1 : K.lookup f1 = some ⟨oc1, od1, .func (PySem.W.fnOf "inverse_word" "inverse_word" (defArgs s1) (defBody s1) (defScope s1) .none kV1 dc1 pm1 an1 cd1 ct1), sl1⟩) (c1 : PySem.W.codeIn K cd1 "inverse_word" = true) (k1 : PySem.W.keepIn K (.ref f1) = true)
    (a2 : PySem.W.nsIn K mainGlobals "_law_numbers" = some (some (.ref f2))) (l2 : K.lookup f2 = some ⟨oc2, od2, .func (PySem.W.fnOf "_law_numbers" "_law_numbers" (defArgs s2) (defBody s2) (defScope s2) .none kV2 dc2 pm2 an2 cd2 ct2), sl2⟩) (c2 : PySem.W.codeIn K cd2 "_law_numbers" = true) (k2 : PySem.W.keepIn K (.ref f2) = true)
    (a3 : PySem.W.nsIn K mainGlobals "_law_word" = some (some (.ref f3))) (l3 : K.lookup f3 = some ⟨oc3, od3, .func (PySem.W.fnOf "_law_word" "_law_word" (defArgs s3) (defBody s3) (defScope s3) .none kV3 dc3 pm3 an3 cd3 ct3), sl3⟩) (c3 : PySem.W.codeIn K cd3 "_law_word" = true) (k3 : PySem.W.keepIn K (.ref f3) = true)
    (a4 : PySem.W.nsIn K mainGlobals "_law_turned" = some (some (.ref f4))) (l4 : K.lookup f4 = some ⟨oc4, od4, .func (PySem.W.fnOf "_law_turned" "_law_turned" (defArgs s4) (defBody s4) (defScope s4) .none kV4 dc4 pm4 an4 cd4 ct4), sl4⟩) (c4 : PySem.W.codeIn K cd4 "_law_turned" = true) (k4 : PySem.W.keepIn K (.ref f4) = true)
    (a5 : PySem.W.nsIn K mainGlobals "law" = some (some (.ref f5))) (l5 : K.lookup f5 = some ⟨oc5, od5, .func (PySem.W.fnOf "law" "law" (defArgs s5) (defBody s5) (defScope s5) .none kV5 dc5 pm5 an5 cd5 ct5), sl5⟩) (c5 : PySem.W.codeIn K cd5 "law" = true) (k5 : PySem.W.keepIn K (.ref f5) = true)
    (z_abs : PySem.W.nsIn K mainGlobals "abs" = some none)
    (z_all : PySem.W.nsIn K mainGlobals "all" = some none)
    (z_bool : PySem.W.nsIn K mainGlobals "bool" = some none)
    (z_int : PySem.W.nsIn K mainGlobals "int" = some none)
    (z_isinstance : PySem.W.nsIn K mainGlobals "isinstance" = some none)
    (z_len : PySem.W.nsIn K mainGlobals "len" = some none)
    (z_max : PySem.W.nsIn K mainGlobals "max" = some none)
    (z_range : PySem.W.nsIn K mainGlobals "range" = some none)
    (z_str : PySem.W.nsIn K mainGlobals "str" = some none)
    {k_MAX_WORD : Tok} (y_MAX_WORD : PySem.W.nsIn K mainGlobals "MAX_WORD" = some (some (.int 40 k_MAX_WORD)))
    : ∃ fd : FuncData, (∀ (s : Shared) (v : Value), BindsTo s fd ⟨[v], []⟩ [("_law_script", v)]) ∧ ∀ base : Heap, K.In base → base.Ns mainGlobals mg → FnOk l.prog w K mg base CX0 6 fa fd ["_law_script"] (spLaw 63 K) := by
  have e := hfa.symm.trans (PySem.W.mg_of X G a5)
  cases e
  have F0 := fun_mk (st := s0) l0 c0 k0
  have T0 : Txt K mg "is_word" s0 p0 := ⟨_, _, F0, PySem.W.mg_of X G a0, F0.binds (ps := p0) fun _ _ _ _ _ _ us hl => match us, hl with | [_, _], _ => rfl⟩
  have F1 := fun_mk (st := s1) l1 c1 k1
  have T1 : Txt K mg "inverse_word" s1 p1 := ⟨_, _, F1, PySem.W.mg_of X G a1, F1.binds (ps := p1) fun _ _ _ _ _ _ us hl => match us, hl with | [_], _ => rfl⟩
  have F2 := fun_mk (st := s2) l2 c2 k2
  have T2 : Txt K mg "_law_numbers" s2 p2 := ⟨_, _, F2, PySem.W.mg_of X G a2, F2.binds (ps := p2) fun _ _ _ _ _ _ us hl => match us, hl with | [_, _], _ => rfl⟩
  have F3 := fun_mk (st := s3) l3 c3 k3
  have T3 : Txt K mg "_law_word" s3 p3 := ⟨_, _, F3, PySem.W.mg_of X G a3, F3.binds (ps := p3) fun _ _ _ _ _ _ us hl => match us, hl with | [_, _, _], _ => rfl⟩
  have F4 := fun_mk (st := s4) l4 c4 k4
  have T4 : Txt K mg "_law_turned" s4 p4 := ⟨_, _, F4, PySem.W.mg_of X G a4, F4.binds (ps := p4) fun _ _ _ _ _ _ us hl => match us, hl with | [_], _ => rfl⟩
  have FL := fun_mk (st := s5) l5 c5 k5
  refine ⟨PySem.W.fnOf "law" "law" (defArgs s5) (defBody s5) (defScope s5) .none kV5 dc5 pm5 an5 cd5 ct5, fun s v => .of_eq rfl, fun base _ _ => ?_⟩
  obtain ⟨hf_is_word, hf_inverse_word, hf__law_numbers, hf__law_word, hf__law_turned⟩ := all_good (pr := l.prog) (w := w) (K := K) (mg := mg) (base := base) (ca := fun _ => 0) (F := 0) (PySem.W.mg_none_of X G z_abs) (PySem.W.mg_none_of X G z_all) (PySem.W.mg_none_of X G z_bool) (PySem.W.mg_none_of X G z_int) (PySem.W.mg_none_of X G z_isinstance) (PySem.W.mg_none_of X G z_len) (PySem.W.mg_none_of X G z_max) (PySem.W.mg_none_of X G z_range) (PySem.W.mg_none_of X G z_str) (PySem.W.mg_of X G y_MAX_WORD) T0 T1 T2 T3 T4 5
  exact law_ok FL sc5 rfl rfl rfl (by decide) (w5 (PySem.W.mg_of X G y_MAX_WORD) hf__law_numbers hf__law_turned hf__law_word hf_inverse_word hf_is_word (PySem.W.mg_none_of X G z_bool) (PySem.W.mg_none_of X G z_int) (PySem.W.mg_none_of X G z_isinstance) (PySem.W.mg_none_of X G z_len) (PySem.W.mg_none_of X G z_range) (PySem.W.mg_none_of X G z_str)) pure_law
end My
open PySem PySem.W PyProof.Rows
set_option maxHeartbeats 0 in
theorem PySem.Challenge.cw_sandreckoner_k44_words_holds : PySem.Challenge.rw_sandreckoner_k44_words.Holds := by
  w_on; o_law; k_head; (case hw => w_witness2)
  k_fill
  refine L2.walk_of (l := PySem.Challenge.rw_sandreckoner_k44_words) (n := 63) (k := 6) (x := "_law_script") (CX := fun _ => L2.CX0) (sp := fun w => Rf.spLaw 63 _) rfl (by decide) rfl ⟨rfl, by decide, by decide⟩ (fun w h Y => PySem.W.kIn_of Y) ?F (fun _ _ a ns hl _ hS => ⟨a, ns, rfl, hS, hl, fun _ => rfl⟩) (fun _ _ _ _ _ h => h)
  case F =>
    intro w mg fa h KX G hmg
    refine' My.all_mk KX G hmg ?a0 ?l0 ?c0 ?k0 ?a1 ?l1 ?c1 ?k1 ?a2 ?l2 ?c2 ?k2 ?a3 ?l3 ?c3 ?k3 ?a4 ?l4 ?c4 ?k4 ?a5 ?l5 ?c5 ?k5 ?z_abs ?z_all ?z_bool ?z_int ?z_isinstance ?z_len ?z_max ?z_range ?z_str ?y_MAX_WORD
    (case a0 => k_is); (case l0 => k_is); (case c0 => k_is); (case k0 => k_is); (case a1 => k_is); (case l1 => k_is); (case c1 => k_is); (case k1 => k_is); (case a2 => k_is); (case l2 => k_is); (case c2 => k_is); (case k2 => k_is); (case a3 => k_is); (case l3 => k_is); (case c3 => k_is); (case k3 => k_is); (case a4 => k_is); (case l4 => k_is); (case c4 => k_is); (case k4 => k_is); (case a5 => k_is); (case l5 => k_is); (case c5 => k_is); (case k5 => k_is); (case z_abs => k_is); (case z_all => k_is); (case z_bool => k_is); (case z_int => k_is); (case z_isinstance => k_is); (case z_len => k_is); (case z_max => k_is); (case z_range => k_is); (case z_str => k_is); (case y_MAX_WORD => k_is)
