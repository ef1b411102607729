import PyProof.Rows.All
import HandS.ForMost
import HandS.Exc
import HandS.TryOnly
import HandS.TryMany
import HandS.ExcOwn
import HandS.WordsExc
import HandS.Style
import HandS.Wide
import HandS.More
import HandS.Conv
import HandS.Zip
import HandS.SortInts
import HandS.IsInst
import HandS.TupAny
import HandS.WideBits
import HandS.ExcIs
import PySem.Challenge.RW_sandreckoner_k25_tokens
set_option Elab.async false
set_option linter.all false
/-! Rf, part A: a small language over plain data (PyData), its evaluator. -/
namespace Rf
open PySem

abbrev D := PyData

/-- what a slot of a def holds: nothing, a value, an own list or dict (that may be changed) -/
inductive Slot where
  | un
  | d (x : D)
  | ol (xs : List D)
  | od (kvs : List (D × D))
abbrev Sl := List Slot

inductive Res (α : Type) where
  | ok (a : α)
  | ex (c : Nat)
  | stuck

def Res.bind {α β : Type} (r : Res α) (f : α → Res β) : Res β := match r with
  | .ok a => f a
  | .ex c => .ex c
  | .stuck => .stuck
@[simp] theorem Res.bind_ok {α β : Type} (a : α) (f : α → Res β) : (Res.ok a).bind f = f a := id rfl
@[simp] theorem Res.bind_ex {α β : Type} (c : Nat) (f : α → Res β) : (Res.ex c : Res α).bind f = .ex c := id rfl
@[simp] theorem Res.bind_stuck {α β : Type} (f : α → Res β) : (Res.stuck : Res α).bind f = .stuck := id rfl
def Res.of {α : Type} : Option α → Res α
  | some a => .ok a
  | none => .stuck
@[simp] theorem Res.of_some {α : Type} (a : α) : Res.of (some a) = .ok a := id rfl
@[simp] theorem Res.of_none {α : Type} : Res.of (none : Option α) = .stuck := id rfl

inductive BOp where
  | add | sub | mul | fdiv | mod | pow | rep | shl | shr
inductive COp where
  | eq | ne | lt | le | gt | ge | isin | notin | is | isnot
inductive Blt where
  | len | int | abs | sum | max | min | all | any | tuple | list | sorted | str | dict | isi (T : Nat)
inductive Mth where
  | get | bits | isalpha | islower | lower | upper | swapcase | join
inductive Tgt where
  | nm (i : Nat)
  | tp (ts : List Tgt)
inductive SrcK where
  | lst | tup | str | rng | zip

inductive Exp where
  | nop
  | var (i : Nat)
  | vw (i : Nat)
  | con (x : D)
  | bin (op : BOp) (a b : Exp)
  | cmp (op : COp) (a b : Exp)
  | chain (o1 o2 : COp) (a b c : Exp)
  | and (a b : Exp)
  | or (a b : Exp)
  | not (a : Exp)
  | neg (a : Exp)
  | ite (c a b : Exp)
  | tup (es : List Exp)
  | lst (es : List Exp)
  | emp
  | idx (a i : Exp)
  | sl (a lo hi : Exp)
  | rev (a : Exp)
  | revs (a : Exp)
  | call (f : Nat) (es : List Exp)
  | callv (f : Nat) (es : List Exp)
  | blt (b : Blt) (es : List Exp)
  | mth (m : Mth) (o : Exp) (es : List Exp)
  | comp (elt : Exp) (t : Tgt) (k : SrcK) (srcs : List Exp) (ifs : List Exp)

def Exp.isNop : Exp → Bool
  | .nop => true
  | _ => false
/-! ### operations on data -/
def line : Nat := 1000000
abbrev S (l : List Nat) : Str := ⟨l.toArray⟩

def binD : BOp → D → D → Option D
  | .add, .int i, .int j => some (.int (i + j))
  | .add, .str x, .str y => if x.length + y.length ≤ line then some (.str (x ++ y)) else none
  | .add, .list xs, .list ys => if xs.length + ys.length ≤ line then some (.list (xs ++ ys)) else none
  | .add, .tuple (x :: xs), .tuple ys => if (x :: xs).length + ys.length ≤ line then some (.tuple (x :: xs ++ ys)) else none
  | .sub, .int i, .int j => some (.int (i - j))
  | .mul, .int i, .int j => if i.natAbs < 2 ^ 64 ∨ j.natAbs < 2 ^ 64 then some (.int (i * j)) else none
  | .fdiv, .int i, .int j => if 0 < j ∧ j < 1073741824 then some (.int (i / j)) else none
  | .mod, .int i, .int j => if 0 < j then some (.int (i % j)) else none
  | .pow, .int i, .int j => if 0 ≤ j ∧ j ≤ 1000000 ∧ i.natAbs < 2 ^ 64 then some (.int (i ^ j.toNat)) else none
  | .shl, .int i, .int j => if 0 ≤ j ∧ j ≤ 1000000 ∧ i.natAbs < 2 ^ 64 then some (.int (i * 2 ^ j.toNat)) else none
  | .shr, .int i, .int j => if 0 ≤ j then some (.int (i / 2 ^ j.toNat)) else none
  | .rep, .str z, .int j => if z.length = 1 ∧ j ≤ 1000000 ∧ -1000000 ≤ j then some (.str (S (List.replicate j.toNat (z.cps.toList.headD 0)))) else none
  | _, _, _ => none

/-- a op= b of a name -/
def augD (op : BOp) (x y : D) : Option D := match op, x with
  | .rep, _ => none
  | .shl, _ => none
  | .shr, _ => none
  | _, .int _ => binD op x y
  | _, .str _ => binD op x y
  | _, _ => none
/-- may be compared by == -/
def eqOk (x y : D) : Bool := x.canLay0 && y.canLay0 && decide (min x.depth y.depth ≤ 190)
def flatD : D → Bool
  | .none => true
  | .bool _ => true
  | .int _ => true
  | .str _ => true
  | _ => false
/-- a dict's look-up (keys ints and texts) -/
def keyD : D → Option (Sum Int Str)
  | .int i => some (.inl i)
  | .str x => some (.inr x)
  | _ => none
def keysOk : List (D × D) → Bool
  | [] => true
  | (k, _) :: r => (keyD k).isSome && keysOk r
def lookD (kvs : List (D × D)) (k : D) : Option D := (kvs.find? fun p => PyData.eqv p.1 k).map (·.2)
def putD (kvs : List (D × D)) (k v : D) : List (D × D) :=
  if (lookD kvs k).isSome then kvs.map fun p => if PyData.eqv p.1 k then (p.1, v) else p else kvs ++ [(k, v)]

def inD (x y : D) : Option Bool := match y with
  | .list ys => if flatD x && ys.all flatD then some (ys.any fun y => PyData.eqv y x) else none
  | .tuple ys => if flatD x && ys.all flatD then some (ys.any fun y => PyData.eqv y x) else none
  | .str z => match x with
    | .str w => some (!(Builtin.Str.occurrences z w 0 z.length 1).isEmpty)
    | _ => none
  | .dict kvs => if (keyD x).isSome then some (lookD kvs x).isSome else none
  | _ => none

def cmpD : COp → D → D → Option Bool
  | .eq, x, y => if eqOk x y then some (PyData.eqv x y) else none
  | .ne, x, y => if eqOk x y then some (!PyData.eqv x y) else none
  | .lt, .int i, .int j => some (decide (i < j))
  | .le, .int i, .int j => some (decide (i ≤ j))
  | .gt, .int i, .int j => some (decide (j < i))
  | .ge, .int i, .int j => some (decide (j ≤ i))
  | .isin, x, y => inD x y
  | .notin, x, y => (inD x y).map not
  | .is, .bool a, .bool b => some (decide (a = b))
  | .is, .none, .none => some true
  | .is, .int _, .none => some false
  | .is, .bool _, .none => some false
  | .is, .str _, .none => some false
  | .is, .tuple _, .none => some false
  | .is, .list _, .none => some false
  | .isnot, .none, .none => some false
  | .isnot, .int _, .none => some true
  | .isnot, .bool _, .none => some true
  | .isnot, .str _, .none => some true
  | .isnot, .tuple _, .none => some true
  | .isnot, .list _, .none => some true
  | _, _, _ => none

def idxD : D → D → Option D
  | .list xs, .int i => L2.atI xs i
  | .tuple xs, .int i => L2.atI xs i
  | .str z, .int i => if z.length ≤ line then (L2.atI z.cps.toList i).map fun c => .str (S [c]) else none
  | .dict kvs, k => if (keyD k).isSome then lookD kvs k else none
  | _, _ => none

def cutD {α : Type} (xs : List α) (lo hi : Option Int) : List α := (xs.drop (HT.sIx xs.length 0 lo)).take (HT.sIx xs.length xs.length hi - HT.sIx xs.length 0 lo)
def partD : D → Res (Option Int)
  | .int i => .ok (some i)
  | _ => .stuck
def sliceD (x : D) (lo hi : Option Int) : Option D := match x with
  | .list xs => some (.list (cutD xs lo hi))
  | .tuple xs => some (.tuple (cutD xs lo hi))
  | .str z => if z.length ≤ line then some (.str (S (cutD z.cps.toList lo hi))) else none
  | _ => none
def revD : D → Option D
  | .list xs => some (.list xs.reverse)
  | _ => none
def revsD : D → Option D
  | .str z => if z.length ≤ line then some (.str (S z.cps.toList.reverse)) else none
  | _ => none

def allInts : List D → Option (List Int)
  | [] => some []
  | .int i :: r => (allInts r).map (i :: ·)
  | _ :: _ => none
def allBools : List D → Option (List Bool)
  | [] => some []
  | .bool i :: r => (allBools r).map (i :: ·)
  | _ :: _ => none
def allStrs : List D → Option (List Str)
  | [] => some []
  | .str i :: r => (allStrs r).map (i :: ·)
  | _ :: _ => none
def maxI : List Int → Int
  | [] => 0
  | [x] => x
  | x :: y :: r => max x (maxI (y :: r))
def minI : List Int → Int
  | [] => 0
  | [x] => x
  | x :: y :: r => min x (minI (y :: r))
/-- insertion sort -/
def insI (x : Int) : List Int → List Int
  | [] => [x]
  | y :: r => if x ≤ y then x :: y :: r else y :: insI x r
def sortI : List Int → List Int
  | [] => []
  | x :: r => insI x (sortI r)

def isiD (T : Nat) : D → Option Bool
  | .int _ => some (T == 0)
  | .bool _ => some (T == 0 || T == 1)
  | .str _ => some (T == 2)
  | .tuple _ => some (T == 3)
  | .list _ => some (T == 4)
  | .none => some false
  | _ => none

def bltD : Blt → List D → Option D
  | .len, [.list xs] => some (.int xs.length)
  | .len, [.tuple xs] => some (.int xs.length)
  | .len, [.str z] => if z.length ≤ line then some (.int z.length) else none
  | .len, [.dict kvs] => some (.int kvs.length)
  | .int, [.int i] => some (.int i)
  | .int, [.bool b] => some (.int (if b then 1 else 0))
  | .abs, [.int i] => some (.int (if i < 0 then -i else i))
  | .sum, [.list xs] => (allInts xs).map fun l => .int l.sum
  | .max, [.int i, .int j] => some (.int (if j > i then j else i))
  | .min, [.int i, .int j] => some (.int (if j < i then j else i))
  | .max, [.list xs] => if xs = [] then none else (allInts xs).map fun l => .int (maxI l)
  | .min, [.list xs] => if xs = [] then none else (allInts xs).map fun l => .int (minI l)
  | .all, [.list xs] => (allBools xs).map fun l => .bool (l.all id)
  | .any, [.list xs] => (allBools xs).map fun l => .bool (l.any id)
  | .tuple, [.list xs] => some (.tuple xs)
  | .tuple, [.tuple xs] => some (.tuple xs)
  | .list, [.list xs] => some (.list xs)
  | .list, [.tuple xs] => some (.list xs)
  | .sorted, [.list xs] => (allInts xs).map fun l => .list ((sortI l).map .int)
  | .sorted, [.dict kvs] => if kvs.length < 64 then (allInts (kvs.map (·.1))).map fun l => .list ((sortI l).map .int) else none
  | .dict, [.dict kvs] => some (.dict kvs)
  | .str, [.int i] => if i.natAbs.log2 < 1920 then some (.str (toString i)) else none
  | .isi T, [x] => (isiD T x).map .bool
  | _, _ => none

def strM (m : Mth) (z : Str) : Option D := match m with
  | .isalpha => some (.bool (Txt.isalpha z))
  | .islower => some (.bool (Txt.islower z))
  | .lower => if z.length ≤ line then some (.str (Txt.lower z)) else none
  | .upper => if z.length ≤ line then some (.str (Txt.upper z)) else none
  | .swapcase => if z.length ≤ line then some (.str (Txt.swapcase z)) else none
  | _ => none
def mthD : Mth → D → List D → Option D
  | .get, .dict kvs, [k, x] => if (keyD k).isSome then some ((lookD kvs k).getD x) else none
  | .bits, .int i, [] => some (.int ((Builtin.Int.intBits i : Nat) : Int))
  | .join, .str z, [.list xs] => (allStrs xs).bind fun ys => if (ys.map (·.length)).sum + ys.length * z.length ≤ line then some (.str (Txt.join z ys)) else none
  | m, .str z, [] => strM m z
  | _, _, _ => none

def zipD : List D → List D → List D
  | x :: xs, y :: ys => .tuple [x, y] :: zipD xs ys
  | _, _ => []
def rngD (lo : Int) (n : Nat) : List D := (List.range n).map fun (i : Nat) => .int (lo + (i : Int))
def srcD : SrcK → List D → Option (List D)
  | .lst, [.list xs] => some xs
  | .tup, [.tuple xs] => some xs
  | .str, [.str z] => some (z.cps.toList.map fun c => .str (S [c]))
  | .rng, [.int n] => if -(2 ^ 62) ≤ n ∧ n < 2 ^ 62 then some (rngD 0 n.toNat) else none
  | .rng, [.int a, .int b] => if -(2 ^ 62) ≤ a ∧ a < 2 ^ 62 ∧ -(2 ^ 62) ≤ b ∧ b < 2 ^ 62 then some (rngD a (b - a).toNat) else none
  | .zip, [.list xs, .list ys] => some (zipD xs ys)
  | .zip, [.tuple xs, .tuple ys] => some (zipD xs ys)
  | _, _ => none

mutual
/-- holds no list, no dict -/
def noLst : D → Bool
  | .list _ => false
  | .dict _ => false
  | .tuple xs => noLsts xs
  | .none => true
  | .bool _ => true
  | .int _ => true
  | .str _ => true
def noLsts : List D → Bool
  | [] => true
  | x :: r => noLst x && noLsts r
end

/-! ### binding -/
mutual
def bindT : Tgt → D → Sl → Option Sl
  | .nm i, x, e => if i < e.length then some (e.set i (.d x)) else none
  | .tp ts, x, e => match x with
    | .tuple xs => bindTs ts xs e
    | _ => none
def bindTs : List Tgt → List D → Sl → Option Sl
  | [], [], e => some e
  | t :: ts, x :: xs, e => (bindT t x e).bind fun e' => bindTs ts xs e'
  | _, _, _ => none
end

/-! the places of a target -/
mutual
def Tgt.ix : Tgt → List Nat
  | .nm i => [i]
  | .tp ts => Tgt.ixs ts
def Tgt.ixs : List Tgt → List Nat
  | [] => []
  | t :: r => t.ix ++ Tgt.ixs r
end
def wipeS (e : Sl) : List Nat → Sl
  | [] => e
  | v :: vs => (wipeS e vs).set v .un
def isOwn : Slot → Bool
  | .ol _ => true
  | .od _ => true
  | _ => false
def freeOf (e : Sl) (vs : List Nat) : Bool := vs.all fun i => match e[i]? with
  | some s => !isOwn s
  | none => false

/-! ### expressions -/
/-- the turns of a comprehension -/
def compL (f : Sl → Res D) (g : Sl → Res Bool) (t : Tgt) : List D → Sl → Res (List D)
  | [], _ => .ok []
  | x :: xs, e => match bindT t x e with
    | none => .stuck
    | some e1 => (g e1).bind fun b =>
      if b then (f e1).bind fun y => (compL f g t xs e).bind fun ys => .ok (y :: ys) else compL f g t xs e
def noEx {α : Type} : Res α → Res α
  | .ok a => .ok a
  | _ => .stuck
abbrev FT := Nat → List D → Res D

mutual
def ev (Φ : FT) : Exp → Sl → Res D
  | .nop, _ => .ok .none
  | .var i, e => match e[i]? with
    | some (.d x) => .ok x
    | _ => .stuck
  | .vw i, e => match e[i]? with
    | some (.d x) => .ok x
    | some (.ol xs) => .ok (.list xs)
    | some (.od kvs) => .ok (.dict kvs)
    | _ => .stuck
  | .con x, _ => .ok x
  | .bin op a b, e => (ev Φ a e).bind fun x => (ev Φ b e).bind fun y => .of (binD op x y)
  | .cmp op a b, e => (ev Φ a e).bind fun x => (ev Φ b e).bind fun y => .of ((cmpD op x y).map .bool)
  | .chain o1 o2 a b c, e => (ev Φ a e).bind fun x => (ev Φ b e).bind fun y => (Res.of (cmpD o1 x y)).bind fun k =>
      if k then (ev Φ c e).bind fun z => .of ((cmpD o2 y z).map .bool) else .ok (.bool false)
  | .and a b, e => (ev Φ a e).bind fun x => match x with
    | .bool true => ev Φ b e
    | .bool false => .ok (.bool false)
    | _ => .stuck
  | .or a b, e => (ev Φ a e).bind fun x => match x with
    | .bool true => .ok (.bool true)
    | .bool false => ev Φ b e
    | _ => .stuck
  | .not a, e => (ev Φ a e).bind fun x => match x with
    | .bool k => .ok (.bool (!k))
    | _ => .stuck
  | .neg a, e => (ev Φ a e).bind fun x => match x with
    | .int i => .ok (.int (-i))
    | _ => .stuck
  | .ite c a b, e => (ev Φ c e).bind fun x => match x with
    | .bool true => ev Φ a e
    | .bool false => ev Φ b e
    | _ => .stuck
  | .tup es, e => (evs Φ es e).bind fun xs => .ok (.tuple xs)
  | .lst es, e => (evs Φ es e).bind fun xs => .ok (.list xs)
  | .emp, _ => .ok (.dict [])
  | .idx a i, e => (ev Φ a e).bind fun x => (ev Φ i e).bind fun y => .of (idxD x y)
  | .sl a lo hi, e => (ev Φ a e).bind fun x => (if lo.isNop then .ok none else (ev Φ lo e).bind partD).bind fun l => (if hi.isNop then .ok none else (ev Φ hi e).bind partD).bind fun h => .of (sliceD x l h)
  | .rev a, e => (ev Φ a e).bind fun x => .of (revD x)
  | .revs a, e => (ev Φ a e).bind fun x => .of (revsD x)
  | .call f es, e => (evs Φ es e).bind fun xs => Φ f xs
  | .callv f es, e => (evs Φ es e).bind fun xs => (Φ f xs).bind fun y => if noLst y then .ok y else .stuck
  | .blt b es, e => (evs Φ es e).bind fun xs => .of (bltD b xs)
  | .mth m o es, e => (ev Φ o e).bind fun x => (evs Φ es e).bind fun xs => .of (mthD m x xs)
  | .comp elt t k srcs ifs, e => (evs Φ srcs e).bind fun xs => (Res.of (srcD k xs)).bind fun its =>
      if freeOf e t.ix && decide (its.length ≤ line) then (noEx (compL (fun e' => ev Φ elt e') (fun e' => evt Φ ifs e') t its (wipeS e t.ix))).bind fun ys => .ok (.list ys) else .stuck
def evs (Φ : FT) : List Exp → Sl → Res (List D)
  | [], _ => .ok []
  | a :: r, e => (ev Φ a e).bind fun x => (evs Φ r e).bind fun xs => .ok (x :: xs)
def evt (Φ : FT) : List Exp → Sl → Res Bool
  | [], _ => .ok true
  | a :: r, e => (ev Φ a e).bind fun x => match x with
    | .bool true => evt Φ r e
    | .bool false => .ok false
    | _ => .stuck
end

/-! ### statements -/
inductive Stm where
  | asg (t : Tgt) (e : Exp)
  | par (i j : Nat) (a b : Exp)
  | aug (i : Nat) (op : BOp) (e : Exp)
  | own (i : Nat) (e : Exp)
  | app (i : Nat) (e : Exp)
  | ins (i : Nat) (j e : Exp)
  | pop (i : Nat)
  | popto (t i : Nat)
  | setl (i : Nat) (k e : Exp)
  | setd (i : Nat) (k e : Exp)
  | give (i : Nat)
  | expr (e : Exp)
  | ret (e : Exp)
  | retn
  | ifs (c : Exp) (a b : List Stm)
  | for (t : Tgt) (k : SrcK) (srcs : List Exp) (body : List Stm)
  | whl (c : Exp) (body : List Stm)
  | brk
  | cnt
  | pas
  | rse (c : Nat)
  | tri (i : Nat) (body : List Stm) (ok : List Nat) (r : List (Nat × D))

inductive Out where
  | nx (e : Sl)
  | ret (x : D)
  | bk (e : Sl)
  | ct (e : Sl)
  | ex (c : Nat) (e : Sl)
  | stuck

def Out.ofR {α : Type} (r : Res α) (e : Sl) (f : α → Out) : Out := match r with
  | .ok a => f a
  | .ex c => .ex c e
  | .stuck => .stuck
@[simp] theorem Out.ofR_ok {α : Type} (a : α) (e : Sl) (f : α → Out) : Out.ofR (.ok a) e f = f a := id rfl
@[simp] theorem Out.ofR_ex {α : Type} (c : Nat) (e : Sl) (f : α → Out) : Out.ofR (.ex c : Res α) e f = .ex c e := id rfl
@[simp] theorem Out.ofR_stuck {α : Type} (e : Sl) (f : α → Out) : Out.ofR (.stuck : Res α) e f = .stuck := id rfl
def Out.seq (o : Out) (f : Sl → Out) : Out := match o with
  | .nx e => f e
  | o => o
@[simp] theorem Out.seq_nx (e : Sl) (f : Sl → Out) : (Out.nx e).seq f = f e := id rfl
@[simp] theorem Out.seq_ret (x : D) (f : Sl → Out) : (Out.ret x).seq f = .ret x := id rfl
@[simp] theorem Out.seq_bk (e : Sl) (f : Sl → Out) : (Out.bk e).seq f = .bk e := id rfl
@[simp] theorem Out.seq_ct (e : Sl) (f : Sl → Out) : (Out.ct e).seq f = .ct e := id rfl
@[simp] theorem Out.seq_ex (c : Nat) (e : Sl) (f : Sl → Out) : (Out.ex c e).seq f = .ex c e := id rfl
@[simp] theorem Out.seq_stuck (f : Sl → Out) : Out.stuck.seq f = .stuck := id rfl
/-- what a loop's turn hands on -/
def Out.turn (o : Out) (f : Sl → Out) : Out := match o with
  | .nx e => f e
  | .ct e => f e
  | .bk e => .nx e
  | o => o
@[simp] theorem Out.turn_nx (e : Sl) (f : Sl → Out) : (Out.nx e).turn f = f e := id rfl
@[simp] theorem Out.turn_ret (x : D) (f : Sl → Out) : (Out.ret x).turn f = .ret x := id rfl
@[simp] theorem Out.turn_bk (e : Sl) (f : Sl → Out) : (Out.bk e).turn f = .nx e := id rfl
@[simp] theorem Out.turn_ct (e : Sl) (f : Sl → Out) : (Out.ct e).turn f = f e := id rfl
@[simp] theorem Out.turn_ex (c : Nat) (e : Sl) (f : Sl → Out) : (Out.ex c e).turn f = .ex c e := id rfl
@[simp] theorem Out.turn_stuck (f : Sl → Out) : Out.stuck.turn f = .stuck := id rfl

def forL (b : Sl → Out) (t : Tgt) : List D → Sl → Out
  | [], e => .nx e
  | x :: xs, e => match bindT t x e with
    | none => .stuck
    | some e1 => (b e1).turn fun e2 => forL b t xs e2
def whileF (c : Sl → Res D) (b : Sl → Out) : Nat → Sl → Out
  | 0, _ => .stuck
  | n + 1, e => Out.ofR (c e) e fun x => match x with
    | .bool true => (b e).turn fun e2 => whileF c b n e2
    | .bool false => .nx e
    | _ => .stuck
def ownS : D → Option Slot
  | .list xs => some (.ol xs)
  | .dict kvs => if keysOk kvs then some (.od kvs) else none
  | _ => none

mutual
def exec (Φ : FT) (F : Nat) : Stm → Sl → Out
  | .asg t a, e => Out.ofR (ev Φ a e) e fun x => match bindT t x e with
    | some e' => .nx e'
    | none => .stuck
  | .par i j a b, e => Out.ofR (ev Φ a e) e fun x => Out.ofR (ev Φ b e) e fun y => if i < e.length ∧ j < e.length then .nx ((e.set i (.d x)).set j (.d y)) else .stuck
  | .aug i op a, e => match e[i]? with
    | some (.d x) => Out.ofR (ev Φ a e) e fun y => match augD op x y with
      | some z => .nx (e.set i (.d z))
      | none => .stuck
    | _ => .stuck
  | .own i a, e => Out.ofR (ev Φ a e) e fun x => match ownS x with
    | some s => if i < e.length then .nx (e.set i s) else .stuck
    | none => .stuck
  | .app i a, e => match e[i]? with
    | some (.ol xs) => Out.ofR (ev Φ a e) e fun x => if xs.length < line then .nx (e.set i (.ol (xs ++ [x]))) else .stuck
    | _ => .stuck
  | .ins i j a, e => match e[i]? with
    | some (.ol xs) => Out.ofR (ev Φ j e) e fun k => Out.ofR (ev Φ a e) e fun x => match k with
      | .int k => if 0 ≤ k ∧ k < 2 ^ 63 ∧ xs.length < line then .nx (e.set i (.ol (xs.take k.toNat ++ [x] ++ xs.drop k.toNat))) else .stuck
      | _ => .stuck
    | _ => .stuck
  | .pop i, e => match e[i]? with
    | some (.ol xs) => if xs = [] then .stuck else .nx (e.set i (.ol xs.dropLast))
    | _ => .stuck
  | .popto t i, e => match e[i]? with
    | some (.ol xs) => match xs[xs.length - 1]? with
      | some x => if t < e.length ∧ t ≠ i then .nx ((e.set i (.ol xs.dropLast)).set t (.d x)) else .stuck
      | none => .stuck
    | _ => .stuck
  | .setl i k a, e => match e[i]? with
    | some (.ol xs) => Out.ofR (ev Φ a e) e fun x => Out.ofR (ev Φ k e) e fun k => match k with
      | .int k => match L2.ixN xs.length k with
        | some j => .nx (e.set i (.ol (xs.set j x)))
        | none => .stuck
      | _ => .stuck
    | _ => .stuck
  | .setd i k a, e => match e[i]? with
    | some (.od kvs) => Out.ofR (ev Φ a e) e fun x => Out.ofR (ev Φ k e) e fun k => if (keyD k).isSome ∧ kvs.length < line then .nx (e.set i (.od (putD kvs k x))) else .stuck
    | _ => .stuck
  | .give i, e => match e[i]? with
    | some (.ol xs) => .nx (e.set i (.d (.list xs)))
    | _ => .stuck
  | .expr a, e => Out.ofR (ev Φ a e) e fun _ => .nx e
  | .ret a, e => Out.ofR (ev Φ a e) e fun x => .ret x
  | .retn, _ => .ret .none
  | .ifs c a b, e => Out.ofR (ev Φ c e) e fun x => match x with
    | .bool true => execs Φ F a e
    | .bool false => execs Φ F b e
    | _ => .stuck
  | .for t k srcs body, e => Out.ofR (evs Φ srcs e) e fun xs => match srcD k xs with
    | some its => forL (fun e' => execs Φ F body e') t its e
    | none => .stuck
  | .whl c body, e => whileF (fun e' => ev Φ c e') (fun e' => execs Φ F body e') F e
  | .brk, e => .bk e
  | .cnt, e => .ct e
  | .pas, e => .nx e
  | .rse c, e => .ex c e
  | .tri i body ok r, e => match execs Φ F body e with
    | .ex c e' => match r.lookup c with
      | some x => if i < e'.length then .ret x else .stuck
      | none => if ok.contains c then .ex c e' else .stuck
    | o => o
def execs (Φ : FT) (F : Nat) : List Stm → Sl → Out
  | [], e => .nx e
  | s :: r, e => (exec Φ F s e).seq fun e' => execs Φ F r e'
end

/-- a def: its parameters' number, its slots, its body -/
structure Fdef where
  np : Nat
  ns : Nat
  body : List Stm
def Fdef.run (f : Fdef) (Φ : FT) (F : Nat) (args : List D) : Res D :=
  if args.length = f.np then
    match execs Φ F f.body (args.map .d ++ List.replicate (f.ns - f.np) .un) with
    | .ret x => .ok x
    | .nx _ => .ok .none
    | .ex c _ => .ex c
    | _ => .stuck
  else .stuck
/-- the program's defs, called n deep -/
def phi (T : List Fdef) (F : Nat) : Nat → FT
  | 0 => fun _ _ => .stuck
  | n + 1 => fun f args => match T[f]? with
    | some fn => fn.run (phi T F n) F args
    | none => .stuck
end Rf

set_option Elab.async false
set_option linter.all false
/-! Rf, part B: data in the abstract heap; what a reading is by the evaluator. -/
namespace Rf
open PySem PySem.Spec PyProof.Rows L2

def keyOf : Key → D
  | .inl i => .int i
  | .inr x => .str x

/-- a list of the written part -/
def KLst (K : PySem.W.Frag) (a : Addr) (xs : List V) : Prop := ∃ (o : Obj) (its : Array Value) (n : Nat), K.lookup a = some o ∧ o.cls = .type "list" ∧ o.dict = none ∧ o.data = .seq its n ∧ its.size ≤ sizeLine ∧ Vals xs its.toList
mutual
/-- the value v is the data d; lists and dicts within are none that av tells of -/
inductive Den (K : PySem.W.Frag) (av : Addr → Prop) (H : Hp) : V → D → Prop
  | none : Den K av H .non .none
  | bool (b : Bool) : Den K av H (.bl b) (.bool b)
  | int (i : Int) : Den K av H (.int i) (.int i)
  | str (x : Str) : Den K av H (.str x) (.str x)
  | list {a : Addr} {xs : List V} {ds : List D} : SqL K H a xs → (¬ av a ∨ KLst K a xs) → Dens K av H xs ds → Den K av H (.ref a) (.list ds)
  | tuple {a : Addr} {xs : List V} {ds : List D} : SqT K H a xs → Dens K av H xs ds → Den K av H (.ref a) (.tuple ds)
  | dict {a : Addr} {ks : List (Key × V)} {ds : List (D × D)} : Rd H a (.dK ks) → ¬ av a → DenKs K av H ks ds → Den K av H (.ref a) (.dict ds)
inductive Dens (K : PySem.W.Frag) (av : Addr → Prop) (H : Hp) : List V → List D → Prop
  | nil : Dens K av H [] []
  | cons {v : V} {d : D} {vs : List V} {ds : List D} : Den K av H v d → Dens K av H vs ds → Dens K av H (v :: vs) (d :: ds)
inductive DenKs (K : PySem.W.Frag) (av : Addr → Prop) (H : Hp) : List (Key × V) → List (D × D) → Prop
  | nil : DenKs K av H [] []
  | cons {k : Key} {v : V} {d : D} {ks : List (Key × V)} {ds : List (D × D)} : Den K av H v d → DenKs K av H ks ds → DenKs K av H ((k, v) :: ks) ((keyOf k, d) :: ds)
end

section
variable {K : PySem.W.Frag} {av av' : Addr → Prop} {H H' : Hp}
theorem same_rd (s : Same H H') {a : Addr} {u : HO} (h : Rd H a u) : Rd H' a u := by
  rcases h with h | ⟨o, h⟩
  · exact .inl (s _ _ h)
  · exact .inr ⟨o, s _ _ h⟩
theorem same_sqT (s : Same H H') {a : Addr} {xs : List V} (h : SqT K H a xs) : SqT K H' a xs := by
  rcases h with h | h
  · exact .inl (same_rd s h)
  · exact .inr h
theorem rd_ne {a : Addr} {u : HO} (h : Rd H a u) : H a ≠ none := by
  rcases h with h | ⟨o, h⟩ <;> (rw [h]; exact fun z => nomatch z)
theorem nav_imp {H : Hp} {b b' : Addr → Prop} {a : Addr} {xs : List V} (h : SqL K H a xs) (n : ¬ b a ∨ KLst K a xs) (g : H a ≠ none → b' a → b a) : ¬ b' a ∨ KLst K a xs := n.elim (fun n => h.elim (fun r => .inl fun z => n (g (rd_ne r) z)) .inr) .inr
mutual
theorem Den.imp (f : ∀ a u, Rd H a u → Rd H' a u) (g : ∀ a, H a ≠ none → av' a → av a) : ∀ {v : V} {d : D}, Den K av H v d → Den K av' H' v d
  | _, _, .none => .none
  | _, _, .bool b => .bool b
  | _, _, .int i => .int i
  | _, _, .str x => .str x
  | _, _, .list h n t => .list (h.imp (f _ _) id) (nav_imp h n fun r z => g _ r z) (Dens.imp f g t)
  | _, _, .tuple h t => .tuple (h.imp (f _ _) id) (Dens.imp f g t)
  | _, _, .dict h n t => .dict (f _ _ h) (fun z => n (g _ (rd_ne h) z)) (DenKs.imp f g t)
theorem Dens.imp (f : ∀ a u, Rd H a u → Rd H' a u) (g : ∀ a, H a ≠ none → av' a → av a) : ∀ {v : List V} {d : List D}, Dens K av H v d → Dens K av' H' v d
  | _, _, .nil => .nil
  | _, _, .cons a b => .cons (Den.imp f g a) (Dens.imp f g b)
theorem DenKs.imp (f : ∀ a u, Rd H a u → Rd H' a u) (g : ∀ a, H a ≠ none → av' a → av a) : ∀ {v : List (Key × V)} {d : List (D × D)}, DenKs K av H v d → DenKs K av' H' v d
  | _, _, .nil => .nil
  | _, _, .cons a b => .cons (Den.imp f g a) (DenKs.imp f g b)
end
theorem Den.same (s : Same H H') {v : V} {d : D} (h : Den K av H v d) : Den K av H' v d := h.imp (fun _ _ => same_rd s) fun _ _ z => z
theorem Dens.same (s : Same H H') {v : List V} {d : List D} (h : Dens K av H v d) : Dens K av H' v d := h.imp (fun _ _ => same_rd s) fun _ _ z => z
theorem DenKs.same (s : Same H H') {v : List (Key × V)} {d : List (D × D)} (h : DenKs K av H v d) : DenKs K av H' v d := h.imp (fun _ _ => same_rd s) fun _ _ z => z
theorem Dens.length : ∀ {v : List V} {d : List D}, Dens K av H v d → v.length = d.length
  | _, _, .nil => rfl
  | _, _, .cons _ b => congrArg (· + 1) b.length
theorem Dens.get : ∀ {v : List V} {d : List D} {i : Nat} {x : V}, Dens K av H v d → v[i]? = some x → ∃ y, d[i]? = some y ∧ Den K av H x y
  | _, _, _, _, .nil, h => by simp at h
  | _, _, 0, _, .cons a _, h => by simp at h; subst h; exact ⟨_, rfl, a⟩
  | _, _, i + 1, x, .cons _ b, h => by
    obtain ⟨y, h1, h2⟩ := b.get (i := i) (x := x) (by simpa using h)
    exact ⟨y, by simpa using h1, h2⟩
theorem Dens.getD : ∀ {v : List V} {d : List D} {i : Nat} {y : D}, Dens K av H v d → d[i]? = some y → ∃ x, v[i]? = some x ∧ Den K av H x y
  | _, _, _, _, .nil, h => by simp at h
  | _, _, 0, _, .cons a _, h => by simp at h; subst h; exact ⟨_, rfl, a⟩
  | _, _, i + 1, x, .cons _ b, h => by
    obtain ⟨y, h1, h2⟩ := b.getD (i := i) (y := x) (by simpa using h)
    exact ⟨y, by simpa using h1, h2⟩
theorem Dens.append : ∀ {v w : List V} {d e : List D}, Dens K av H v d → Dens K av H w e → Dens K av H (v ++ w) (d ++ e)
  | _, _, _, _, .nil, h => h
  | _, _, _, _, .cons a b, h => .cons a (b.append h)
theorem Dens.take : ∀ {v : List V} {d : List D} (n : Nat), Dens K av H v d → Dens K av H (v.take n) (d.take n)
  | _, _, 0, _ => .nil
  | _, _, _ + 1, .nil => .nil
  | _, _, n + 1, .cons a b => .cons a (b.take n)
theorem Dens.drop : ∀ {v : List V} {d : List D} (n : Nat), Dens K av H v d → Dens K av H (v.drop n) (d.drop n)
  | _, _, 0, h => h
  | _, _, _ + 1, .nil => .nil
  | _, _, n + 1, .cons _ b => b.drop n
theorem Dens.reverse {v : List V} {d : List D} (h : Dens K av H v d) : Dens K av H v.reverse d.reverse := by
  induction d generalizing v with
  | nil => cases h; exact .nil
  | cons x d ih =>
    cases h with
    | cons a b =>
      rw [List.reverse_cons, List.reverse_cons]
      exact (ih b).append (.cons a .nil)
theorem Dens.set : ∀ {v : List V} {d : List D} (i : Nat) {x : V} {y : D}, Dens K av H v d → Den K av H x y → Dens K av H (v.set i x) (d.set i y)
  | _, _, _, _, _, .nil, _ => .nil
  | _, _, 0, _, _, .cons _ b, h => .cons h b
  | _, _, i + 1, _, _, .cons a b, h => .cons a (b.set i h)
theorem Dens.dropLast {v : List V} {d : List D} (h : Dens K av H v d) : Dens K av H v.dropLast d.dropLast := by
  rw [List.dropLast_eq_take, List.dropLast_eq_take, h.length]
  exact h.take _
theorem DenKs.length : ∀ {v : List (Key × V)} {d : List (D × D)}, DenKs K av H v d → v.length = d.length
  | _, _, .nil => rfl
  | _, _, .cons _ b => congrArg (· + 1) b.length

/-- the top avoids a0, what is within avoids a1 -/
def Den2 (K : PySem.W.Frag) (a0 a1 : Addr → Prop) (H : Hp) (v : V) : D → Prop
  | .list ds => ∃ a xs, v = .ref a ∧ SqL K H a xs ∧ (¬ a0 a ∨ KLst K a xs) ∧ Dens K a1 H xs ds
  | .dict ds => ∃ a ks, v = .ref a ∧ Rd H a (.dK ks) ∧ ¬ a0 a ∧ DenKs K a1 H ks ds
  | d => Den K a1 H v d
theorem Den.two {v : V} {d : D} (h : Den K av H v d) : Den2 K av av H v d := by
  cases h with
  | list h n t => exact ⟨_, _, rfl, h, n, t⟩
  | dict h n t => exact ⟨_, _, rfl, h, n, t⟩
  | none => exact .none
  | bool b => exact .bool b
  | int i => exact .int i
  | str x => exact .str x
  | tuple h t => exact .tuple h t
theorem Den2.one {v : V} {d : D} (h : Den2 K av av H v d) : Den K av H v d := by
  cases d with
  | list ds => obtain ⟨a, xs, rfl, h, n, t⟩ := h; exact .list h n t
  | dict ds => obtain ⟨a, xs, rfl, h, n, t⟩ := h; exact .dict h n t
  | _ => exact h
theorem Den2.same {a0 a1 : Addr → Prop} (s : Same H H') {v : V} {d : D} (h : Den2 K a0 a1 H v d) : Den2 K a0 a1 H' v d := by
  cases d with
  | list ds => obtain ⟨a, xs, rfl, h, n, t⟩ := h; exact ⟨a, xs, rfl, h.imp (same_rd s) id, n, t.same s⟩
  | dict ds => obtain ⟨a, xs, rfl, h, n, t⟩ := h; exact ⟨a, xs, rfl, same_rd s h, n, t.same s⟩
  | none => exact Den.same s h
  | bool _ => exact Den.same s h
  | int _ => exact Den.same s h
  | str _ => exact Den.same s h
  | tuple _ => exact Den.same s h
theorem Den2.mono {a0 a1 b0 b1 : Addr → Prop} (h0 : ∀ a, b0 a → a0 a) (h1 : ∀ a, b1 a → a1 a) {v : V} {d : D} (h : Den2 K a0 a1 H v d) : Den2 K b0 b1 H v d := by
  have f : ∀ a u, Rd H a u → Rd H a u := fun _ _ z => z
  cases d with
  | list ds => obtain ⟨a, xs, rfl, h, n, t⟩ := h; exact ⟨a, xs, rfl, h, n.imp (fun n z => n (h0 _ z)) id, t.imp f fun a _ => h1 a⟩
  | dict ds => obtain ⟨a, xs, rfl, h, n, t⟩ := h; exact ⟨a, xs, rfl, h, fun z => n (h0 _ z), t.imp f fun a _ => h1 a⟩
  | none => exact Den.imp f (fun a _ => h1 a) h
  | bool _ => exact Den.imp f (fun a _ => h1 a) h
  | int _ => exact Den.imp f (fun a _ => h1 a) h
  | str _ => exact Den.imp f (fun a _ => h1 a) h
  | tuple _ => exact Den.imp f (fun a _ => h1 a) h
mutual
theorem Den.noLst {H : Hp} : ∀ {d : D} {v : V}, Den K av H v d → noLst d = true → Den K av' H v d
  | _, _, .none, _ => .none
  | _, _, .bool b, _ => .bool b
  | _, _, .int i, _ => .int i
  | _, _, .str x, _ => .str x
  | _, _, .list _ _ _, h => by simp [Rf.noLst] at h
  | _, _, .dict _ _ _, h => by simp [Rf.noLst] at h
  | _, _, .tuple h t, n => .tuple h (Dens.noLst t (by simpa [Rf.noLst] using n))
theorem Dens.noLst {H : Hp} : ∀ {d : List D} {v : List V}, Dens K av H v d → noLsts d = true → Dens K av' H v d
  | _, _, .nil, _ => .nil
  | _, _, .cons a b, h => by
    simp only [noLsts, Bool.and_eq_true] at h
    exact .cons (Den.noLst a h.1) (Dens.noLst b h.2)
end
mutual
theorem Den.dp : ∀ {d : D} {v : V}, Den K av H v d → d.canLay0 = true → Dp K H v d
  | _, _, .none, _ => .non
  | _, _, .bool b, _ => .bl b
  | _, _, .int i, _ => .int i
  | _, _, .str x, _ => .str x
  | _, _, .list h _ t, c => .lst h (Dens.dp t (by simpa [PyData.canLay0] using c))
  | _, _, .tuple h t, c => .tup h (Dens.dp t (by simpa [PyData.canLay0] using c))
  | _, _, .dict _ _ _, c => by simp [PyData.canLay0] at c
theorem Dens.dp : ∀ {d : List D} {v : List V}, Dens K av H v d → PyData.canLayAll0 d = true → DpAll K H v d
  | _, _, .nil, _ => .nil
  | _, _, .cons a b, h => by
    simp only [PyData.canLayAll0, Bool.and_eq_true] at h
    exact .cons (Den.dp a h.1) (Dens.dp b h.2)
end
end

/-! ### slots -/
def SlotOk (K : PySem.W.Frag) (av : Addr → Prop) (H : Hp) : Slot → Option V → Prop
  | .un, _ => True
  | .d x, o => ∃ v, o = some v ∧ Den K av H v x
  | .ol xs, o => ∃ (a : Addr) (ys : List V), o = some (V.ref a) ∧ H a = some (.lst ys) ∧ Dens K av H ys xs
  | .od kvs, o => ∃ (a : Addr) (ks : List (Key × V)), o = some (V.ref a) ∧ H a = some (.dK ks) ∧ DenKs K av H ks kvs
/-- the address a is an own list or dict of a slot -/
def Owns (e : Sl) (σ : L2.St) (a : Addr) : Prop := ∃ (i : Nat) (s : Slot), e[i]? = some s ∧ isOwn s = true ∧ σ[i]? = some (some (V.ref a))
/-- what a body's proof carries: the written part, the heap at the entry, what results may not be, the wish about exceptions, the classes of exceptions -/
structure Pk where
  K : PySem.W.Frag
  H0 : Hp
  Av : Addr → Prop
  avok : ∀ a, Av a → H0 a ≠ none
  W : WX
  ca : Nat → Addr
def avo (P : Pk) (e : Sl) (σ : L2.St) : Addr → Prop := fun a => P.Av a ∨ Owns e σ a
structure Rel (P : Pk) (e : Sl) (σ : L2.St) (H : Hp) : Prop where
  len : σ.length = e.length
  slot : ∀ (i : Nat) (s : Slot) (o : Option V), e[i]? = some s → σ[i]? = some o → SlotOk P.K (avo P e σ) H s o
  inj : ∀ (i j : Nat) (s t : Slot) (a : Addr), e[i]? = some s → isOwn s = true → e[j]? = some t → isOwn t = true → σ[i]? = some (some (V.ref a)) → σ[j]? = some (some (V.ref a)) → i = j
  fr : Same P.H0 H
  new : ∀ a, Owns e σ a → P.H0 a = none
section
variable {P : Pk} {e : Sl} {σ : L2.St} {H H' : Hp}
theorem SlotOk.same {K : PySem.W.Frag} {av : Addr → Prop} (s : Same H H') : ∀ {x : Slot} {o : Option V}, SlotOk K av H x o → SlotOk K av H' x o
  | .un, _, _ => trivial
  | .d _, _, ⟨v, h, d⟩ => ⟨v, h, d.same s⟩
  | .ol _, _, ⟨a, ys, h, q, d⟩ => ⟨a, ys, h, s _ _ q, d.same s⟩
  | .od _, _, ⟨a, ys, h, q, d⟩ => ⟨a, ys, h, s _ _ q, d.same s⟩
theorem Rel.same (r : Rel P e σ H) (s : Same H H') : Rel P e σ H' := ⟨r.len, fun i x o h1 h2 => (r.slot i x o h1 h2).same s, r.inj, r.fr.trans s, r.new⟩
theorem Rel.at (r : Rel P e σ H) {i : Nat} {s : Slot} (h : e[i]? = some s) : ∃ o, σ[i]? = some o ∧ SlotOk P.K (avo P e σ) H s o := by
  have hl : i < σ.length := by rw [r.len]; exact (List.getElem?_eq_some_iff.mp h).1
  exact ⟨σ[i], List.getElem?_eq_getElem hl, r.slot i s _ h (List.getElem?_eq_getElem hl)⟩
theorem Rel.own_ne (r : Rel P e σ H) {a : Addr} (h : Owns e σ a) : H a ≠ none := by
  obtain ⟨i, s, h1, h2, h3⟩ := h
  have q := r.slot i s _ h1 h3
  cases s with
  | un => cases h2
  | d _ => cases h2
  | ol xs => obtain ⟨b, ys, e1, e2, _⟩ := q; cases e1; rw [e2]; exact fun z => nomatch z
  | od xs => obtain ⟨b, ys, e1, e2, _⟩ := q; cases e1; rw [e2]; exact fun z => nomatch z
theorem Rel.av_ne (r : Rel P e σ H) {a : Addr} (h : avo P e σ a) : H a ≠ none := by
  rcases h with h | h
  · intro z
    cases q : P.H0 a with
    | none => exact P.avok a h q
    | some o => rw [r.fr _ _ q] at z; cases z
  · exact r.own_ne h
theorem Rel.own_av (r : Rel P e σ H) {a : Addr} (h : Owns e σ a) : ¬ P.Av a := fun z => P.avok a z (r.new a h)
end

/-! ### readings -/
/-- the modes: 0 nothing but what results may not be is avoided, 1 the top may be an own list, 2 strong -/
def av0 (P : Pk) (e : Sl) (σ : L2.St) : Nat → Addr → Prop
  | 0 => P.Av
  | 1 => P.Av
  | _ => avo P e σ
def av1 (P : Pk) (e : Sl) (σ : L2.St) : Nat → Addr → Prop
  | 0 => P.Av
  | _ => avo P e σ
def DenM (P : Pk) (e : Sl) (σ : L2.St) (m : Nat) (H : Hp) (v : V) (d : D) : Prop := Den2 P.K (av0 P e σ m) (av1 P e σ m) H v d
def DenMs (P : Pk) (e : Sl) (σ : L2.St) (m : Nat) (H : Hp) : List V → List D → Prop
  | [], [] => True
  | v :: vs, d :: ds => DenM P e σ m H v d ∧ DenMs P e σ m H vs ds
  | _, _ => False
section
variable {P : Pk} {e : Sl} {σ : L2.St} {H H' : Hp} {v : V} {d : D} {m : Nat}
theorem DenM.same (s : Same H H') (h : DenM P e σ m H v d) : DenM P e σ m H' v d := Den2.same s h
theorem DenMs.same (s : Same H H') : ∀ {vs : List V} {ds : List D}, DenMs P e σ m H vs ds → DenMs P e σ m H' vs ds
  | [], [], _ => trivial
  | _ :: _, _ :: _, h => ⟨h.1.same s, DenMs.same s h.2⟩
  | [], _ :: _, h => h.elim
  | _ :: _, [], h => h.elim
theorem Den.m2 (h : Den P.K (avo P e σ) H v d) : DenM P e σ 2 H v d := h.two
theorem DenM.d2 (h : DenM P e σ 2 H v d) : Den P.K (avo P e σ) H v d := Den2.one h
theorem DenM.weak (h : DenM P e σ m H v d) : Den P.K P.Av H v d := by
  refine Den2.one (Den2.mono (fun a z => ?_) (fun a z => ?_) h)
  · match m with
    | 0 => exact z
    | 1 => exact z
    | _ + 2 => exact .inl z
  · match m with
    | 0 => exact z
    | _ + 1 => exact .inl z
theorem Den.mm (h : Den P.K (avo P e σ) H v d) : DenM P e σ m H v d := by
  refine Den2.mono (fun a z => ?_) (fun a z => ?_) h.two
  · match m with
    | 0 => exact .inl z
    | 1 => exact .inl z
    | _ + 2 => exact z
  · match m with
    | 0 => exact .inl z
    | _ + 1 => exact z
theorem DenM.flat (h : DenM P e σ m H v d) (f : noLst d = true) : Den P.K (avo P e σ) H v d := h.weak.noLst f
theorem DenMs.weak : ∀ {vs : List V} {ds : List D}, DenMs P e σ m H vs ds → Dens P.K P.Av H vs ds
  | [], [], _ => .nil
  | _ :: _, _ :: _, h => .cons h.1.weak (DenMs.weak h.2)
  | [], _ :: _, h => h.elim
  | _ :: _, [], h => h.elim
theorem DenMs.d2 : ∀ {vs : List V} {ds : List D}, DenMs P e σ 2 H vs ds → Dens P.K (avo P e σ) H vs ds
  | [], [], _ => .nil
  | _ :: _, _ :: _, h => .cons h.1.d2 (DenMs.d2 h.2)
  | [], _ :: _, h => h.elim
  | _ :: _, [], h => h.elim
end

/-- what is asked behind an evaluation -/
def Post (P : Pk) (e : Sl) (σ : L2.St) (m : Nat) (H : Hp) (Q : VK) : Res D → Prop
  | .ok d => ∀ v H', Same H H' → DenM P e σ m H' v d → Q v H'
  | .ex c => ∀ H', Same H H' → P.W (.ref (P.ca c)) none σ H'
  | .stuck => False
def PostT (P : Pk) (σ : L2.St) (H : Hp) (Q : Bool → Hp → Prop) : Res D → Prop
  | .ok (.bool b) => ∀ H', Same H H' → Q b H'
  | .ok _ => False
  | .ex c => ∀ H', Same H H' → P.W (.ref (P.ca c)) none σ H'
  | .stuck => False
def Posts (P : Pk) (e : Sl) (σ : L2.St) (m : Nat) (H : Hp) (Q : List V → Hp → Prop) : Res (List D) → Prop
  | .ok ds => ∀ vs H', Same H H' → DenMs P e σ m H' vs ds → Q vs H'
  | .ex c => ∀ H', Same H H' → P.W (.ref (P.ca c)) none σ H'
  | .stuck => False
def PostL (P : Pk) (e : Sl) (σ : L2.St) (H : Hp) (Q : VK) : Res D → Prop
  | .ok (.list ds) => ∀ p H' xs, Same H H' → H p = none → H' p = some (.lst xs) → Dens P.K (fun a => avo P e σ a ∨ a = p) H' xs ds → Q (.ref p) H'
  | .ok (.dict ds) => ∀ p H' ks, Same H H' → H p = none → H' p = some (.dK ks) → DenKs P.K (fun a => avo P e σ a ∨ a = p) H' ks ds → Q (.ref p) H'
  | .ok _ => False
  | .ex c => ∀ H', Same H H' → P.W (.ref (P.ca c)) none σ H'
  | .stuck => False
def lift (P : Pk) (m : Nat) (f : Sl → Res D) : L2.TE := fun σ H Q => ∃ e, Rel P e σ H ∧ Post P e σ m H Q (f e)
def liftT (P : Pk) (f : Sl → Res D) : L2.TT := fun σ H Q => ∃ e, Rel P e σ H ∧ PostT P σ H Q (f e)
def lifts (P : Pk) (m : Nat) (f : Sl → Res (List D)) : L2.TA := fun σ H Q => ∃ e, Rel P e σ H ∧ Posts P e σ m H Q (f e)
/-- a new list or dict -/
def liftL (P : Pk) (f : Sl → Res D) : L2.TE := fun σ H Q => ∃ e, Rel P e σ H ∧ PostL P e σ H Q (f e)

theorem PE.imp {X : Cx} {ex : Expr} {t t' : L2.TE} (h : PE X ex t) (i : ∀ σ H Q, t' σ H Q → t σ H Q) : PE X ex t' := ⟨fun pins s σ H Q I q => h.run pins s σ H Q I (i _ _ _ q)⟩
theorem PT.imp {X : Cx} {ex : Expr} {t t' : L2.TT} (h : PT X ex t) (i : ∀ σ H Q, t' σ H Q → t σ H Q) : PT X ex t' := ⟨fun pins s σ H Q I q => h.run pins s σ H Q I (i _ _ _ q)⟩
theorem PW.imp {X : Cx} {ex : Expr} {t t' : L2.TT} (h : PW X ex t) (i : ∀ σ H Q, t' σ H Q → t σ H Q) : PW X ex t' := ⟨fun wh pins s σ H Q I q => h.run wh pins s σ H Q I (i _ _ _ q)⟩
theorem PA.imp {X : Cx} {ex : List Expr} {t t' : L2.TA} (h : PA X ex t) (i : ∀ σ H Q, t' σ H Q → t σ H Q) : PA X ex t' := ⟨fun pos pins s σ H Q I q => h.run pos pins s σ H Q I (i _ _ _ q)⟩
theorem PS.imp {X : Cx} {st : Stmt} {t t' : L2.TS} (h : PS X st t) (i : ∀ D σ H, t' D σ H → t D σ H) : PS X st t' := ⟨fun pins s σ H D I q => h.run pins s σ H D I (i _ _ _ q)⟩
theorem PSs.imp {X : Cx} {st : List Stmt} {t t' : L2.TS} (h : PSs X st t) (i : ∀ D σ H, t' D σ H → t D σ H) : PSs X st t' := ⟨fun pins s σ H D I q => h.run pins s σ H D I (i _ _ _ q)⟩

section
variable {P : Pk} {e : Sl} {σ : L2.St} {H H' : Hp} {m n k : Nat} {Q : VK}
theorem Post.back (s : Same H H') : ∀ {r : Res D}, Post P e σ m H Q r → Post P e σ m H' Q r
  | .ok _, h => fun v H2 s2 d => h v H2 (s.trans s2) d
  | .ex _, h => fun H2 s2 => h H2 (s.trans s2)
  | .stuck, h => h
theorem Post.weaken {Q' : VK} : ∀ {r : Res D}, Post P e σ m H Q r → (∀ v H', Q v H' → Q' v H') → Post P e σ m H Q' r
  | .ok _, h, f => fun v H2 s2 d => f _ _ (h v H2 s2 d)
  | .ex _, h, _ => h
  | .stuck, h, _ => h
theorem Posts.weaken {Q Q' : List V → Hp → Prop} : ∀ {r : Res (List D)}, Posts P e σ m H Q r → (∀ v H', Q v H' → Q' v H') → Posts P e σ m H Q' r
  | .ok _, h, f => fun v H2 s2 d => f _ _ (h v H2 s2 d)
  | .ex _, h, _ => h
  | .stuck, h, _ => h
theorem Post.bind {F : D → Res D} : ∀ {r : Res D}, Post P e σ k H Q (r.bind F) → Post P e σ m H (fun v H1 => ∃ x, Same H H1 ∧ DenM P e σ m H1 v x ∧ Post P e σ k H1 Q (F x)) r
  | .ok x, h => fun v H1 s1 d1 => ⟨x, s1, d1, Post.back s1 h⟩
  | .ex _, h => h
  | .stuck, h => h
theorem Post.binds {F : List D → Res D} : ∀ {r : Res (List D)}, Post P e σ k H Q (r.bind F) → Posts P e σ m H (fun vs H1 => ∃ xs, Same H H1 ∧ DenMs P e σ m H1 vs xs ∧ Post P e σ k H1 Q (F xs)) r
  | .ok x, h => fun v H1 s1 d1 => ⟨x, s1, d1, Post.back s1 h⟩
  | .ex _, h => h
  | .stuck, h => h
theorem Post.ok {d : D} {v : V} (h : Post P e σ m H Q (.ok d)) (hd : DenM P e σ m H v d) : Q v H := h v H (Same.refl H) hd
theorem Post.ok' {d : D} {v : V} (h : Post P e σ m H Q (.ok d)) (s : Same H H') (hd : DenM P e σ m H' v d) : Q v H' := h v H' s hd
theorem Post.some {o : Option D} (h : Post P e σ m H Q (Res.of o)) : ∃ d, o = some d ∧ Post P e σ m H Q (.ok d) := by
  cases o with
  | none => exact h.elim
  | some d => exact ⟨d, rfl, h⟩
/-- a mode's weakening -/
theorem Post.mode (hm : ∀ H v d, DenM P e σ n H v d → DenM P e σ m H v d) : ∀ {r : Res D}, Post P e σ m H Q r → Post P e σ n H Q r
  | .ok _, h => fun v H2 s2 d => h v H2 s2 (hm _ _ _ d)
  | .ex _, h => h
  | .stuck, h => h
theorem lift_bind {f : Sl → Res D} {F : Sl → D → Res D} (h : lift P k (fun e => (f e).bind (F e)) σ H Q) :
    lift P m f σ H fun v H1 => ∃ e x, Rel P e σ H1 ∧ DenM P e σ m H1 v x ∧ Post P e σ k H1 Q (F e x) := by
  obtain ⟨e, R, h⟩ := h
  refine ⟨e, R, ?_⟩
  have q := Post.bind (m := m) (r := f e) h
  cases q2 : f e with
  | ok x =>
    rw [q2] at q
    intro v H1 s1 d1
    obtain ⟨y, s, d, p⟩ := q v H1 s1 d1
    exact ⟨e, y, R.same s, d, p⟩
  | ex c => rw [q2] at q; exact q
  | stuck => rw [q2] at q; exact q
theorem lift_binds {f : Sl → Res (List D)} {F : Sl → List D → Res D} (h : lift P k (fun e => (f e).bind (F e)) σ H Q) :
    lifts P m f σ H fun vs H1 => ∃ e xs, Rel P e σ H1 ∧ DenMs P e σ m H1 vs xs ∧ Post P e σ k H1 Q (F e xs) := by
  obtain ⟨e, R, h⟩ := h
  refine ⟨e, R, ?_⟩
  have q := Post.binds (m := m) (r := f e) h
  cases q2 : f e with
  | ok x =>
    rw [q2] at q
    intro v H1 s1 d1
    obtain ⟨y, s, d, p⟩ := q v H1 s1 d1
    exact ⟨e, y, R.same s, d, p⟩
  | ex c => rw [q2] at q; exact q
  | stuck => rw [q2] at q; exact q
/-- a further operand: e is known -/
theorem Post.then {g : Res D} {G : D → Res D} (R : Rel P e σ H) (h : Post P e σ k H Q (g.bind G)) : Post P e σ m H (fun v H1 => ∃ x, Rel P e σ H1 ∧ Same H H1 ∧ DenM P e σ m H1 v x ∧ Post P e σ k H1 Q (G x)) g := by
  have q := Post.bind (m := m) (r := g) h
  cases g with
  | ok x => exact fun v H1 s1 d1 => let ⟨y, s, d, p⟩ := q v H1 s1 d1; ⟨y, R.same s, s, d, p⟩
  | ex c => exact q
  | stuck => exact q
theorem Post.thens {g : Res (List D)} {G : List D → Res D} (R : Rel P e σ H) (h : Post P e σ k H Q (g.bind G)) : Posts P e σ m H (fun v H1 => ∃ x, Rel P e σ H1 ∧ Same H H1 ∧ DenMs P e σ m H1 v x ∧ Post P e σ k H1 Q (G x)) g := by
  have q := Post.binds (m := m) (r := g) h
  cases g with
  | ok x => exact fun v H1 s1 d1 => let ⟨y, s, d, p⟩ := q v H1 s1 d1; ⟨y, R.same s, s, d, p⟩
  | ex c => exact q
  | stuck => exact q
end
end Rf

set_option Elab.async false
set_option linter.all false
set_option maxRecDepth 100000
set_option maxHeartbeats 1000000
/-! Rf, part C: operations by values. -/
namespace Rf
open PySem PySem.Spec PyProof.Rows L2

theorem line_le {n : Nat} (h : n ≤ line) : n ≤ sizeLine := Nat.le_trans h (by decide)
theorem line_lt {n : Nat} (h : n < line) : n < sizeLine := Nat.lt_of_lt_of_le h (by decide)

/-- z is the data d, a list or dict is a new one -/
def Fr2 (K : PySem.W.Frag) (a1 : Addr → Prop) (H : Hp) (z : V) (H' : Hp) : D → Prop
  | .list ds => ∃ p xs, z = .ref p ∧ H p = none ∧ H' p = some (.lst xs) ∧ Dens K (fun a => a1 a ∨ a = p) H' xs ds
  | .dict ds => ∃ p ks, z = .ref p ∧ H p = none ∧ H' p = some (.dK ks) ∧ DenKs K (fun a => a1 a ∨ a = p) H' ks ds
  | d => Den K a1 H' z d
theorem Fr2.two {K : PySem.W.Frag} {a1 c0 : Addr → Prop} {H H' : Hp} {z : V} {d : D} (h : Fr2 K a1 H z H' d) (hc : ∀ a, c0 a → H a ≠ none) : Den2 K c0 a1 H' z d := by
  cases d with
  | list ds => obtain ⟨p, xs, rfl, n, e, t⟩ := h; exact ⟨p, xs, rfl, .inl (.inl e), .inl fun z => hc p z n, t.imp (fun _ _ z => z) fun _ _ z => .inl z⟩
  | dict ds => obtain ⟨p, xs, rfl, n, e, t⟩ := h; exact ⟨p, xs, rfl, .inl e, fun z => hc p z n, t.imp (fun _ _ z => z) fun _ _ z => .inl z⟩
  | _ => exact h
theorem Fr2.back {K : PySem.W.Frag} {a1 : Addr → Prop} {H0 H H' : Hp} {z : V} {d : D} (s : Same H0 H) (h : Fr2 K a1 H z H' d) : Fr2 K a1 H0 z H' d := by
  have bk : ∀ p, H p = none → H0 p = none := fun p n => by
    cases q : H0 p with
    | none => rfl
    | some o => rw [s _ _ q] at n; cases n
  cases d with
  | list ds => obtain ⟨p, xs, e1, n, e, t⟩ := h; exact ⟨p, xs, e1, bk p n, e, t⟩
  | dict ds => obtain ⟨p, xs, e1, n, e, t⟩ := h; exact ⟨p, xs, e1, bk p n, e, t⟩
  | _ => exact h
/-- two values in, a value out -/
def RB (K : PySem.W.Frag) (r : D → D → Option D) : R2 := fun v w H Q => ∃ a0 b0 a1 x y d, Den2 K a0 a1 H v x ∧ Den2 K b0 a1 H w y ∧ r x y = some d ∧
  ∀ z H', Same H H' → Fr2 K a1 H z H' d → Q z H'
theorem same_upd {H : Hp} {p : Addr} {o : HO} (h : H p = none) : Same H (upd H p o) := fun b x e => by
  rw [upd_ne (ne_of_none e h)]
  exact e
section
variable {K : PySem.W.Frag} {a0 a1 : Addr → Prop} {H : Hp} {v : V}
theorem d2_none (h : Den2 K a0 a1 H v .none) : v = .non := by cases h; rfl
theorem d2_bool {b : Bool} (h : Den2 K a0 a1 H v (.bool b)) : v = .bl b := by cases h; rfl
theorem d2_int {i : Int} (h : Den2 K a0 a1 H v (.int i)) : v = .int i := by cases h; rfl
theorem d2_str {x : Str} (h : Den2 K a0 a1 H v (.str x)) : v = .str x := by cases h; rfl
theorem d2_tup {ds : List D} (h : Den2 K a0 a1 H v (.tuple ds)) : ∃ a xs, v = .ref a ∧ SqT K H a xs ∧ Dens K a1 H xs ds := by
  cases h with
  | tuple h t => exact ⟨_, _, rfl, h, t⟩
theorem d2_lst {ds : List D} (h : Den2 K a0 a1 H v (.list ds)) : ∃ a xs, v = .ref a ∧ SqL K H a xs ∧ Dens K a1 H xs ds := by
  obtain ⟨a, xs, e, r, _, t⟩ := h
  exact ⟨a, xs, e, r, t⟩
theorem d2_dct {ds : List (D × D)} (h : Den2 K a0 a1 H v (.dict ds)) : ∃ a xs, v = .ref a ∧ Rd H a (.dK xs) ∧ DenKs K a1 H xs ds := by
  obtain ⟨a, xs, e, r, _, t⟩ := h
  exact ⟨a, xs, e, r, t⟩
end
theorem den_int {K : PySem.W.Frag} {a0 a1 : Addr → Prop} {H : Hp} {i : Int} : Den2 K a0 a1 H (.int i) (.int i) := Den.int i
theorem den_bool {K : PySem.W.Frag} {a0 a1 : Addr → Prop} {H : Hp} {i : Bool} : Den2 K a0 a1 H (.bl i) (.bool i) := Den.bool i
theorem den_str {K : PySem.W.Frag} {a0 a1 : Addr → Prop} {H : Hp} {i : Str} : Den2 K a0 a1 H (.str i) (.str i) := Den.str i
theorem den_none {K : PySem.W.Frag} {a0 a1 : Addr → Prop} {H : Hp} : Den2 K a0 a1 H .non .none := Den.none
/-- a new list -/
theorem new_lst {K : PySem.W.Frag} {a1 : Addr → Prop} {H : Hp} {p : Addr} {xs : List V} {ds : List D} (hp : H p = none) (h : Dens K a1 H xs ds) :
    Fr2 K a1 H (.ref p) (upd H p (.lst xs)) (.list ds) := ⟨p, xs, rfl, hp, upd_same, h.imp (fun _ _ => same_rd (same_upd hp)) fun a ha z => z.elim id fun e => absurd (e ▸ hp) ha⟩
theorem new_dct {K : PySem.W.Frag} {a1 : Addr → Prop} {H : Hp} {p : Addr} {xs : List (Key × V)} {ds : List (D × D)} (hp : H p = none) (h : DenKs K a1 H xs ds) :
    Fr2 K a1 H (.ref p) (upd H p (.dK xs)) (.dict ds) := ⟨p, xs, rfl, hp, upd_same, h.imp (fun _ _ => same_rd (same_upd hp)) fun a ha z => z.elim id fun e => absurd (e ▸ hp) ha⟩
theorem new_tup {K : PySem.W.Frag} {a1 : Addr → Prop} {H : Hp} {p : Addr} {xs : List V} {ds : List D} (hp : H p = none) (h : Dens K a1 H xs ds) :
    Fr2 K a1 H (.ref p) (upd H p (.tup xs)) (.tuple ds) := Den.tuple (.inl (.inl upd_same)) (h.same (same_upd hp))
theorem fr_int {K : PySem.W.Frag} {a1 : Addr → Prop} {H H' : Hp} {i : Int} : Fr2 K a1 H (.int i) H' (.int i) := Den.int i
theorem fr_bool {K : PySem.W.Frag} {a1 : Addr → Prop} {H H' : Hp} {i : Bool} : Fr2 K a1 H (.bl i) H' (.bool i) := Den.bool i
theorem fr_str {K : PySem.W.Frag} {a1 : Addr → Prop} {H H' : Hp} {i : Str} : Fr2 K a1 H (.str i) H' (.str i) := Den.str i

section
variable {X : Cx}
theorem op_catR : OpR X (binaryOp .Add) (fun x y H Q => ∃ l b xs zs, x = .ref l ∧ y = .ref b ∧ SqL X.K H l xs ∧ SqL X.K H b zs ∧ xs.length + zs.length ≤ sizeLine ∧ ∀ p, H p = none → Q (.ref p) (upd H p (.lst (xs ++ zs)))) := by
  intro pins s σ H x y v u Q I rx ry h
  obtain ⟨l, b, xs, zs, rfl, rfl, hH, hB, hz, q⟩ := h
  cases rx
  cases ry
  obtain ⟨its, r, p, hz1⟩ := I.list hH
  obtain ⟨its2, r2, p2, hz2⟩ := I.list hB
  have hl := r.length
  have hl2 := r2.length
  obtain ⟨⟨c1, d1, da1, sl1⟩, g1, t1, n1, q1⟩ := id p.isList
  obtain ⟨⟨c2, d2, da2, sl2⟩, g2, t2, n2, q2⟩ := id p2.isList
  simp only at t1 q1 t2 q2
  subst t1 q1 t2 q2
  have ea : its.toArray ++ its2.toArray = (its ++ its2).toArray := by simp
  refine PySem.concat_meets ⟨_, g1, rfl⟩ ⟨_, g2, rfl⟩ PySem.noFill_list_add PySem.seq_list_add PySem.F.slot_list_add PySem.F.entry_list_add (PySem.F.args_list_add_2 _ _) (list_addW l b its.toArray its2.toArray n1 n2 d1 d2 sl1 sl2 (by rw [List.size_toArray, List.size_toArray]; omega)) ⟨g1, g2, ?_⟩
  rw [ea]
  exact ⟨.ref _, _, I.lnew (t' := s.toks) (r.append r2) (by rw [List.length_append]; omega), rfl, q _ I.fresh⟩

theorem op_addD : OpR X (binaryOp .Add) (RB X.K (binD .add)) := by
  intro pins s σ H v w v' w' Q I rv rw h
  obtain ⟨a0, b0, a1, x, y, d, hx, hy, hd, q⟩ := h
  cases x with
  | int i =>
    cases y <;> simp only [binD, reduceCtorEq] at hd
    rename_i j
    cases hd
    obtain rfl := d2_int hx
    obtain rfl := d2_int hy
    exact op_add pins s σ H _ _ _ _ Q I rv rw ⟨i, j, rfl, rfl, q _ _ (Same.refl H) fr_int⟩
  | str i =>
    cases y <;> simp only [binD, reduceCtorEq] at hd
    rename_i j
    split at hd
    · rename_i hl
      cases hd
      obtain rfl := d2_str hx
      obtain rfl := d2_str hy
      exact op_add_str pins s σ H _ _ _ _ Q I rv rw ⟨i, j, rfl, rfl, line_le hl, q _ _ (Same.refl H) fr_str⟩
    · cases hd
  | list xs =>
    cases y <;> simp only [binD, reduceCtorEq] at hd
    rename_i ys
    split at hd
    · rename_i hl
      cases hd
      obtain ⟨a, us, rfl, ra, da⟩ := d2_lst hx
      obtain ⟨b, ws, rfl, rb, db⟩ := d2_lst hy
      exact op_catR pins s σ H _ _ _ _ Q I rv rw ⟨a, b, us, ws, rfl, rfl, ra, rb, by rw [da.length, db.length]; exact line_le hl, fun p hp => q _ _ (same_upd hp) (new_lst hp (da.append db))⟩
    · cases hd
  | tuple xs =>
    cases y with
    | tuple ys =>
      cases xs with
      | nil => simp only [binD, reduceCtorEq] at hd
      | cons x xs =>
        simp only [binD] at hd
        split at hd
        · rename_i hl
          cases hd
          obtain ⟨a, us, rfl, ra, da⟩ := d2_tup hx
          obtain ⟨b, ws, rfl, rb, db⟩ := d2_tup hy
          have hu : us ≠ [] := fun z => by subst z; cases da
          refine op_catT pins s σ H _ _ _ _ Q I rv rw ⟨a, b, us, ws, rfl, rfl, ra, rb, hu, by rw [da.length, db.length]; exact line_le hl, fun z => ?_, fun z p hp => q _ _ (same_upd hp) (new_tup hp (da.append db))⟩
          subst z
          cases db
          refine q _ _ (Same.refl H) (Den.tuple ra ?_)
          rw [List.append_nil]
          exact da
        · cases hd
    | _ => cases xs <;> simp only [binD, reduceCtorEq] at hd
  | none => cases y <;> simp only [binD, reduceCtorEq] at hd
  | bool _ => cases y <;> simp only [binD, reduceCtorEq] at hd
  | dict _ => cases y <;> simp only [binD, reduceCtorEq] at hd
theorem mulOk {i j : Int} (h : i.natAbs < 2 ^ 64 ∨ j.natAbs < 2 ^ 64) : CMul i j := by
  rcases h with h | h
  · exact .inl (by omega)
  · exact .inr (by omega)
/-- an operation of ints by its rule -/
theorem op_intD {f : Value → Value → Sem Value} {C : Int → Int → Prop} {g : Int → Int → Int} {r : D → D → Option D} (h : OpR X f (rI C fun i j => .int (g i j)))
    (hr : ∀ x y d, r x y = some d → ∃ i j, x = .int i ∧ y = .int j ∧ C i j ∧ d = .int (g i j)) : OpR X f (RB X.K r) := by
  intro pins s σ H v w v' w' Q I rv rw hh
  obtain ⟨a0, b0, a1, x, y, d, hx, hy, hd, q⟩ := hh
  obtain ⟨i, j, rfl, rfl, c, rfl⟩ := hr x y d hd
  obtain rfl := d2_int hx
  obtain rfl := d2_int hy
  exact h pins s σ H _ _ _ _ Q I rv rw ⟨i, j, rfl, rfl, c, q _ _ (Same.refl H) fr_int⟩
theorem binI_sub {x y d : D} (h : binD .sub x y = some d) : ∃ i j, x = .int i ∧ y = .int j ∧ True ∧ d = .int (i - j) := by
  cases x <;> cases y <;> simp only [binD, reduceCtorEq, Option.some.injEq] at h
  exact ⟨_, _, rfl, rfl, trivial, h.symm⟩
theorem binI_mul {x y d : D} (h : binD .mul x y = some d) : ∃ i j, x = .int i ∧ y = .int j ∧ CMul i j ∧ d = .int (i * j) := by
  cases x <;> cases y <;> simp only [binD, reduceCtorEq] at h
  split at h
  · rename_i c
    cases h
    exact ⟨_, _, rfl, rfl, mulOk c, rfl⟩
  · cases h
theorem binI_fdiv {x y d : D} (h : binD .fdiv x y = some d) : ∃ i j, x = .int i ∧ y = .int j ∧ CDiv i j ∧ d = .int (i / j) := by
  cases x <;> cases y <;> simp only [binD, reduceCtorEq] at h
  split at h
  · rename_i c
    cases h
    exact ⟨_, _, rfl, rfl, c, rfl⟩
  · cases h
theorem binI_mod {x y d : D} (h : binD .mod x y = some d) : ∃ i j, x = .int i ∧ y = .int j ∧ 0 < j ∧ d = .int (i % j) := by
  cases x <;> cases y <;> simp only [binD, reduceCtorEq] at h
  split at h
  · rename_i c
    cases h
    exact ⟨_, _, rfl, rfl, c, rfl⟩
  · cases h
theorem binI_pow {x y d : D} (h : binD .pow x y = some d) : ∃ i j, x = .int i ∧ y = .int j ∧ CPow i j ∧ d = .int (i ^ j.toNat) := by
  cases x <;> cases y <;> simp only [binD, reduceCtorEq] at h
  split at h
  · rename_i c
    cases h
    exact ⟨_, _, rfl, rfl, c, rfl⟩
  · cases h
theorem rI_of {f : Value → Value → Sem Value} {g : Int → Int → Int} (h : OpR X f (rI0 fun i j => .int (g i j))) : OpR X f (rI (fun _ _ => True) fun i j => .int (g i j)) :=
  fun pins s σ H x y v u Q I rx ry ⟨i, j, e1, e2, _, q⟩ => h pins s σ H x y v u Q I rx ry ⟨i, j, e1, e2, q⟩
def bOp : BOp → Operator
  | .add => .Add
  | .sub => .Sub
  | .mul => .Mult
  | .fdiv => .FloorDiv
  | .mod => .Mod
  | .pow => .Pow
  | .rep => .Mult
  | .shl => .LShift
  | .shr => .RShift
theorem binI_shl {x y d : D} (h : binD .shl x y = some d) : ∃ i j, x = .int i ∧ y = .int j ∧ CPow i j ∧ d = .int (i * 2 ^ j.toNat) := by
  cases x <;> cases y <;> simp only [binD, reduceCtorEq] at h
  split at h
  · rename_i c
    cases h
    exact ⟨_, _, rfl, rfl, c, rfl⟩
  · cases h
theorem binI_shr {x y d : D} (h : binD .shr x y = some d) : ∃ i j, x = .int i ∧ y = .int j ∧ 0 ≤ j ∧ d = .int (i / 2 ^ j.toNat) := by
  cases x <;> cases y <;> simp only [binD, reduceCtorEq] at h
  split at h
  · rename_i c
    cases h
    exact ⟨_, _, rfl, rfl, c, rfl⟩
  · cases h
theorem flat_rep (c : Nat) : ∀ (n : Nat) (acc : Array Nat), (List.replicate n (#[c] : Array Nat)).foldl (· ++ ·) acc = acc ++ (List.replicate n c).toArray
  | 0, acc => by simp
  | n + 1, acc => by
    rw [List.replicate_succ, List.foldl_cons, flat_rep c n, List.replicate_succ]
    apply Array.ext'
    simp
theorem op_repD : OpR X (binaryOp .Mult) (RB X.K (binD .rep)) := by
  intro pins s σ H v w v' w' Q I rv rw' h
  obtain ⟨a0, b0, a1, x, y, d, hx, hy, hd, q⟩ := h
  cases x with
  | str z =>
    cases y with
    | int j =>
      simp only [binD] at hd
      by_cases hc : z.length = 1 ∧ j ≤ 1000000 ∧ -1000000 ≤ j
      · rw [if_pos hc] at hd
        cases hd
        obtain rfl := d2_str hx
        obtain rfl := d2_int hy
        obtain ⟨t, rfl⟩ := rv
        obtain ⟨u, rfl⟩ := rw'
        obtain ⟨h1, h2, h3⟩ := hc
        obtain ⟨c, rfl⟩ : ∃ c, z = S [c] := by
          obtain ⟨arr⟩ := z
          obtain ⟨l⟩ := arr
          match l, h1 with
          | [c], _ => exact ⟨c, rfl⟩
        have fin : ∀ tk, Q (.str (S (List.replicate j.toNat c))) H → EP X pins σ Q (.str (S (List.replicate j.toNat c)) tk) { s with toks := s.toks + 1 } := fun tk q => ⟨.str _, H, I.tok _, ⟨_, rfl⟩, q⟩
        have qq : Q (.str (S (List.replicate j.toNat c))) H := q _ _ (Same.refl H) fr_str
        refine PySem.P.mul_str ?_ (fun h4 h5 => ?_) (fun h4 h5 => ?_) ?_
        · rw [decide_eq_false (by omega), decide_eq_false (by omega)]; rfl
        · have : (1 : Int) ≤ (2 ^ 63 - 1) / j := by
            rw [Int.le_ediv_iff_mul_le (by omega)]
            omega
          show ¬ (((1 : Nat) : Int) > _)
          omega
        · show decide (1 * j.toNat > _) = false
          have : (1000000 : Nat) ≤ sizeLine := by decide
          rw [decide_eq_false]
          omega
        · by_cases h4 : j < 1
          · rw [if_pos h4]
            have e : j.toNat = 0 := by omega
            rw [e] at qq
            exact ⟨by decide, .str _, H, I.tok _, ⟨_, rfl⟩, qq⟩
          · rw [if_neg h4]
            by_cases h5 : j = 1
            · subst h5
              rw [if_pos (by rfl)]
              exact ⟨.str _, H, I, ⟨_, rfl⟩, qq⟩
            · rw [if_neg (by simp [h5, Str.length])]
              have e := flat_rep c j.toNat #[]
              rw [Array.empty_append] at e
              show Made.post (Made.str ⟨(List.replicate j.toNat (#[c] : Array Nat)).foldl (· ++ ·) #[]⟩) _ _
              rw [e]
              refine ⟨?_, .str _, H, I.tok _, ⟨_, rfl⟩, qq⟩
              show (List.replicate j.toNat c).toArray.size ≤ sizeLine
              simp
              have : (1000000 : Nat) ≤ sizeLine := by decide
              omega
      · rw [if_neg hc] at hd; cases hd
    | _ => simp only [binD, reduceCtorEq] at hd
  | _ => cases y <;> simp only [binD, reduceCtorEq] at hd
theorem op_binD : ∀ op : BOp, OpR X (binaryOp (bOp op)) (RB X.K (binD op))
  | .add => op_addD
  | .sub => op_intD (rI_of op_sub) fun _ _ _ h => binI_sub h
  | .mul => op_intD op_mul fun _ _ _ h => binI_mul h
  | .fdiv => op_intD op_fdiv fun _ _ _ h => binI_fdiv h
  | .mod => op_intD op_mod fun _ _ _ h => binI_mod h
  | .pow => op_intD op_pow fun _ _ _ h => binI_pow h
  | .rep => op_repD
  | .shl => op_intD op_shl fun _ _ _ h => binI_shl h
  | .shr => op_intD op_shr fun _ _ _ h => binI_shr h
theorem aug_int {op : BOp} (ho : op ≠ .add) {x y d : D} (h : augD op x y = some d) : binD op x y = some d := by
  cases op <;> cases x <;> simp only [augD, reduceCtorEq] at h <;> exact h
theorem op_augD : ∀ op : BOp, op ≠ .pow → OpR X (inplaceOp (bOp op)) (RB X.K (augD op))
  | .add, _ => by
    intro pins s σ H v w v' w' Q I rv rw h
    obtain ⟨a0, b0, a1, x, y, d, hx, hy, hd, q⟩ := h
    cases x with
    | int i =>
      cases y <;> simp only [augD, binD, reduceCtorEq] at hd
      rename_i j
      cases hd
      obtain rfl := d2_int hx
      obtain rfl := d2_int hy
      exact iop_add pins s σ H _ _ _ _ Q I rv rw ⟨i, j, rfl, rfl, q _ _ (Same.refl H) fr_int⟩
    | str i =>
      cases y <;> simp only [augD, binD, reduceCtorEq] at hd
      rename_i j
      split at hd
      · rename_i hl
        cases hd
        obtain rfl := d2_str hx
        obtain rfl := d2_str hy
        exact iop_add_str pins s σ H _ _ _ _ Q I rv rw ⟨i, j, rfl, rfl, line_le hl, q _ _ (Same.refl H) fr_str⟩
      · cases hd
    | _ => simp only [augD, reduceCtorEq] at hd
  | .sub, _ => op_intD (rI_of iop_sub) fun _ _ _ h => binI_sub (aug_int (op := .sub) nofun h)
  | .mul, _ => op_intD iop_mul fun _ _ _ h => binI_mul (aug_int (op := .mul) nofun h)
  | .fdiv, _ => op_intD iop_fdiv fun _ _ _ h => binI_fdiv (aug_int (op := .fdiv) nofun h)
  | .mod, _ => op_intD iop_mod fun _ _ _ h => binI_mod (aug_int (op := .mod) nofun h)
  | .pow, h => absurd rfl h
  | .rep, _ => by
    intro pins s σ H v w v' w' Q I rv rw' h
    obtain ⟨a0, b0, a1, x, y, d, hx, hy, hd, q⟩ := h
    cases x <;> simp only [augD, reduceCtorEq] at hd
  | .shl, _ => by
    intro pins s σ H v w v' w' Q I rv rw' h
    obtain ⟨a0, b0, a1, x, y, d, hx, hy, hd, q⟩ := h
    cases x <;> simp only [augD, reduceCtorEq] at hd
  | .shr, _ => by
    intro pins s σ H v w v' w' Q I rv rw' h
    obtain ⟨a0, b0, a1, x, y, d, hx, hy, hd, q⟩ := h
    cases x <;> simp only [augD, reduceCtorEq] at hd

/-! ### comparisons -/
/-- two values in, a truth out -/
def RC (K : PySem.W.Frag) (r : D → D → Option Bool) : R2 := fun v w H Q => ∃ a0 b0 a1 x y d, Den2 K a0 a1 H v x ∧ Den2 K b0 a1 H w y ∧ r x y = some d ∧ Q (.bl d) H
theorem Den2.den {K : PySem.W.Frag} {a0 a1 : Addr → Prop} {H : Hp} {v : V} {d : D} (h : Den2 K a0 a1 H v d) : Den K (fun _ => False) H v d := (Den2.mono (fun _ z => z.elim) (fun _ z => z.elim) h).one
theorem op_eqD' (hu : X.A.units + 190 < cLine) : OpR X (compareOp .Eq) (RC X.K (cmpD .eq)) := by
  intro pins s σ H v w v' w' Q I rv rw h
  obtain ⟨a0, b0, a1, x, y, d, hx, hy, hd, q⟩ := h
  simp only [cmpD] at hd
  split at hd
  · rename_i c
    cases hd
    simp only [eqOk, Bool.and_eq_true, decide_eq_true_eq] at c
    obtain ⟨⟨c1, c2⟩, c3⟩ := c
    obtain ⟨as, r1⟩ := Dp.reads I x v v' (hx.den.dp c1) rv
    obtain ⟨bs, r2⟩ := Dp.reads I y w w' (hy.den.dp c2) rw
    exact SeqAt.compareEq_reads r1 r2 c1 c2 (by omega) ⟨.bl _, H, I, rfl, q⟩
  · cases hd
theorem op_neD' (hu : X.A.units + 190 < cLine) : OpR X (compareOp .NotEq) (RC X.K (cmpD .ne)) := by
  intro pins s σ H v w v' w' Q I rv rw h
  obtain ⟨a0, b0, a1, x, y, d, hx, hy, hd, q⟩ := h
  simp only [cmpD] at hd
  split at hd
  · rename_i c
    cases hd
    simp only [eqOk, Bool.and_eq_true, decide_eq_true_eq] at c
    obtain ⟨⟨c1, c2⟩, c3⟩ := c
    obtain ⟨as, r1⟩ := Dp.reads I x v v' (hx.den.dp c1) rv
    obtain ⟨bs, r2⟩ := Dp.reads I y w w' (hy.den.dp c2) rw
    exact SeqAt.compareNe_reads r1 r2 c1 c2 (by omega) ⟨.bl _, H, I, rfl, q⟩
  · cases hd
theorem op_ordD {f : Value → Value → Sem Value} {g : Int → Int → Bool} {r : D → D → Option Bool} (h : OpR X f (rI0 fun i j => .bl (g i j)))
    (hr : ∀ x y d, r x y = some d → ∃ i j, x = .int i ∧ y = .int j ∧ d = g i j) : OpR X f (RC X.K r) := by
  intro pins s σ H v w v' w' Q I rv rw hh
  obtain ⟨a0, b0, a1, x, y, d, hx, hy, hd, q⟩ := hh
  obtain ⟨i, j, rfl, rfl, rfl⟩ := hr x y d hd
  obtain rfl := d2_int hx
  obtain rfl := d2_int hy
  exact h pins s σ H _ _ _ _ Q I rv rw ⟨i, j, rfl, rfl, q⟩

/-! membership -/
theorem eqv_eqV {K : PySem.W.Frag} {av : Addr → Prop} {H : Hp} {v w : V} {x y : D} (hx : Den K av H v x) (hy : Den K av H w y) (fx : flatD x = true) (fy : flatD y = true) : flatV v = true ∧ flatV w = true ∧ eqV w v = PyData.eqv y x := by
  cases hx with
  | none => cases hy with
    | none => exact ⟨rfl, rfl, rfl⟩
    | bool b => exact ⟨rfl, rfl, rfl⟩
    | int i => exact ⟨rfl, rfl, rfl⟩
    | str z => exact ⟨rfl, rfl, rfl⟩
    | _ => cases fy
  | bool c => cases hy with
    | none => exact ⟨rfl, rfl, rfl⟩
    | bool b => exact ⟨rfl, rfl, rfl⟩
    | int i => exact ⟨rfl, rfl, rfl⟩
    | str z => exact ⟨rfl, rfl, rfl⟩
    | _ => cases fy
  | int c => cases hy with
    | none => exact ⟨rfl, rfl, rfl⟩
    | bool b => exact ⟨rfl, rfl, rfl⟩
    | int i => exact ⟨rfl, rfl, rfl⟩
    | str z => exact ⟨rfl, rfl, rfl⟩
    | _ => cases fy
  | str c => cases hy with
    | none => exact ⟨rfl, rfl, rfl⟩
    | bool b => exact ⟨rfl, rfl, rfl⟩
    | int i => exact ⟨rfl, rfl, rfl⟩
    | str z => exact ⟨rfl, rfl, rfl⟩
    | _ => cases fy
  | _ => cases fx
theorem in_of {K : PySem.W.Frag} {av : Addr → Prop} {H : Hp} {v : V} {x : D} (hx : Den K av H v x) (fx : flatD x = true) : ∀ {ws : List V} {ys : List D}, Dens K av H ws ys → ys.all flatD = true →
    ws.all flatV = true ∧ inV v ws = ys.any fun y => PyData.eqv y x
  | _, _, .nil, _ => ⟨rfl, rfl⟩
  | _, _, .cons a b, h => by
    rw [List.all_cons, Bool.and_eq_true] at h
    obtain ⟨h1, h2, h3⟩ := eqv_eqV hx a fx h.1
    obtain ⟨h4, h5⟩ := in_of hx fx b h.2
    refine ⟨by rw [List.all_cons, h2, h4]; rfl, ?_⟩
    show (eqV _ _ || inV v _) = _
    rw [List.any_cons, h3, h5]

/-! dicts -/
theorem keyD_of {k : D} {c : Key} (h : keyD k = some c) : k = keyOf c := by
  cases k <;> simp only [keyD, reduceCtorEq, Option.some.injEq] at h <;> subst h <;> rfl
theorem eqv_key {a b : Key} : PyData.eqv (keyOf a) (keyOf b) = decide (a = b) := by
  cases a with
  | inl i => cases b with
    | inl j => show (i == j) = _; rw [key_ll]
    | inr y => show false = _; rw [key_lr]
  | inr x => cases b with
    | inl j => show false = _; rw [key_rl]
    | inr y =>
      show (x == y) = _
      rw [key_rr, Bool.eq_iff_iff]
      simp
theorem keyV {K : PySem.W.Frag} {a0 a1 : Addr → Prop} {H : Hp} {v : V} {k : Key} (h : Den2 K a0 a1 H v (keyOf k)) : v = kV k := by
  cases k with
  | inl i => exact d2_int h
  | inr x => exact d2_str h
theorem look_of {K : PySem.W.Frag} {av : Addr → Prop} {H : Hp} (k : Key) : ∀ {ks : List (Key × V)} {ds : List (D × D)}, DenKs K av H ks ds →
    (lookD ds (keyOf k) = none ∧ valV ks k = none) ∨ ∃ x v, lookD ds (keyOf k) = some x ∧ valV ks k = some v ∧ Den K av H v x
  | _, _, .nil => .inl ⟨rfl, rfl⟩
  | _, _, .cons (k := c) (v := v) (d := d) (ks := ks) (ds := ds) a b => by
    by_cases e : c = k
    · subst e
      refine .inr ⟨d, v, ?_, valV_pos rfl, a⟩
      simp only [lookD, List.find?_cons, eqv_key, decide_true, Option.map_some]
    · rw [valV_neg e]
      have h1 : lookD ((keyOf c, d) :: ds) (keyOf k) = lookD ds (keyOf k) := by
        unfold lookD
        rw [List.find?_cons, eqv_key, decide_eq_false e]
      rw [h1]
      exact look_of k b
theorem DenKs.any {K : PySem.W.Frag} {av : Addr → Prop} {H : Hp} (k : Key) {ks : List (Key × V)} {ds : List (D × D)} (h : DenKs K av H ks ds) : (lookD ds (keyOf k)).isSome = (valV ks k).isSome := by
  rcases look_of k h with ⟨h1, h2⟩ | ⟨x, v, h1, h2, _⟩
  · rw [h1, h2]; rfl
  · rw [h1, h2]; rfl
theorem repl_of {K : PySem.W.Frag} {av : Addr → Prop} {H : Hp} (k : Key) {w : V} {y : D} (hw : Den K av H w y) : ∀ {ks : List (Key × V)} {ds : List (D × D)}, DenKs K av H ks ds →
    DenKs K av H (ks.map fun kv => if kv.1 = k then (kv.1, w) else kv) (ds.map fun p => if PyData.eqv p.1 (keyOf k) then (p.1, y) else p)
  | _, _, .nil => .nil
  | _, _, .cons (k := c) a b => by
    rw [List.map_cons, List.map_cons]
    by_cases e : c = k
    · subst e
      rw [if_pos rfl]
      simp only [eqv_key, decide_true, if_true]
      exact .cons hw (repl_of c hw b)
    · rw [if_neg e]
      simp only [eqv_key, decide_eq_false e, Bool.false_eq_true, if_false]
      exact .cons a (repl_of k hw b)
theorem DenKs.append {K : PySem.W.Frag} {av : Addr → Prop} {H : Hp} : ∀ {ks : List (Key × V)} {ds : List (D × D)} {ks' : List (Key × V)} {ds' : List (D × D)}, DenKs K av H ks ds → DenKs K av H ks' ds' → DenKs K av H (ks ++ ks') (ds ++ ds')
  | _, _, _, _, .nil, h => h
  | _, _, _, _, .cons a b, h => .cons a (b.append h)
theorem put_of {K : PySem.W.Frag} {av : Addr → Prop} {H : Hp} (k : Key) {w : V} {y : D} (hw : Den K av H w y) {ks : List (Key × V)} {ds : List (D × D)} (h : DenKs K av H ks ds) : DenKs K av H (putK ks k w) (putD ds (keyOf k) y) := by
  unfold putD
  rcases look_of k h with ⟨h1, h2⟩ | ⟨x, v, h1, h2, _⟩
  · rw [putK_new w h2, h1]
    exact h.append (.cons hw .nil)
  · have e : putK ks k w = ks.map fun kv => if kv.1 = k then (kv.1, w) else kv := by
      unfold putK
      rw [if_pos (by rw [valV_any, h2]; rfl)]
    rw [e, h1]
    exact repl_of k hw h
theorem op_inD' (hu : X.A.units + 1 < cLine) : OpR X (compareOp .In) (RC X.K (cmpD .isin)) := by
  intro pins s σ H v w v' w' Q I rv rw h
  obtain ⟨a0, b0, a1, x, y, d, hx, hy, hd, q⟩ := h
  have hd : inD x y = some d := hd
  cases y with
  | list ys =>
    simp only [inD] at hd
    split at hd
    · rename_i c
      cases hd
      rw [Bool.and_eq_true] at c
      obtain ⟨a, us, rfl, ra, da⟩ := d2_lst hy
      obtain ⟨fx, fs, ee⟩ := And.intro c.1 (in_of hx.den c.1 (da.imp (fun _ _ z => z) fun _ _ z => z.elim) c.2)
      obtain ⟨h1, -, -⟩ := eqv_eqV hx.den hx.den c.1 c.1
      exact op_in_seq pins s σ H _ _ _ _ Q I rv rw ⟨a, us, rfl, .inl ra, h1, fs, by rw [if_neg Bool.false_ne_true, ee]; exact q⟩
    · cases hd
  | tuple ys =>
    simp only [inD] at hd
    split at hd
    · rename_i c
      cases hd
      rw [Bool.and_eq_true] at c
      obtain ⟨a, us, rfl, ra, da⟩ := d2_tup hy
      obtain ⟨fx, fs, ee⟩ := And.intro c.1 (in_of hx.den c.1 (da.imp (fun _ _ z => z) fun _ _ z => z.elim) c.2)
      obtain ⟨h1, -, -⟩ := eqv_eqV hx.den hx.den c.1 c.1
      exact op_in_seq pins s σ H _ _ _ _ Q I rv rw ⟨a, us, rfl, .inr ra, h1, fs, by rw [if_neg Bool.false_ne_true, ee]; exact q⟩
    · cases hd
  | str z =>
    cases x <;> simp only [inD, reduceCtorEq, Option.some.injEq] at hd
    subst hd
    obtain rfl := d2_str hx
    obtain rfl := d2_str hy
    exact op_in_str pins s σ H _ _ _ _ Q I rv rw ⟨_, _, rfl, rfl, q⟩
  | dict kvs =>
    simp only [inD] at hd
    split at hd
    · rename_i c
      cases hd
      obtain ⟨k, hk⟩ := Option.isSome_iff_exists.mp c
      obtain rfl := keyD_of hk
      obtain rfl := keyV hx
      obtain ⟨a, us, rfl, ra, da⟩ := d2_dct hy
      rw [da.any] at q
      cases rw
      exact d_in hu I (.inl ⟨us, k, ra, rfl, rfl⟩) rv fun s' I' => ⟨.bl _, H, I', rfl, q⟩
    · cases hd
  | _ => simp only [inD, reduceCtorEq] at hd
theorem op_notinD' (hu : X.A.units + 1 < cLine) : OpR X (compareOp .NotIn) (RC X.K (cmpD .notin)) := by
  intro pins s σ H v w v' w' Q I rv rw h
  obtain ⟨a0, b0, a1, x, y, d, hx, hy, hd, q⟩ := h
  have h5 : (inD x y).map not = some d := hd
  clear hd
  obtain ⟨d, hd, rfl⟩ := Option.map_eq_some_iff.mp h5
  clear h5
  cases y with
  | list ys =>
    simp only [inD] at hd
    split at hd
    · rename_i c
      cases hd
      rw [Bool.and_eq_true] at c
      obtain ⟨a, us, rfl, ra, da⟩ := d2_lst hy
      obtain ⟨fx, fs, ee⟩ := And.intro c.1 (in_of hx.den c.1 (da.imp (fun _ _ z => z) fun _ _ z => z.elim) c.2)
      obtain ⟨h1, -, -⟩ := eqv_eqV hx.den hx.den c.1 c.1
      exact op_notIn_seq pins s σ H _ _ _ _ Q I rv rw ⟨a, us, rfl, .inl ra, h1, fs, by rw [if_pos rfl, ee]; exact q⟩
    · cases hd
  | tuple ys =>
    simp only [inD] at hd
    split at hd
    · rename_i c
      cases hd
      rw [Bool.and_eq_true] at c
      obtain ⟨a, us, rfl, ra, da⟩ := d2_tup hy
      obtain ⟨fx, fs, ee⟩ := And.intro c.1 (in_of hx.den c.1 (da.imp (fun _ _ z => z) fun _ _ z => z.elim) c.2)
      obtain ⟨h1, -, -⟩ := eqv_eqV hx.den hx.den c.1 c.1
      exact op_notIn_seq pins s σ H _ _ _ _ Q I rv rw ⟨a, us, rfl, .inr ra, h1, fs, by rw [if_pos rfl, ee]; exact q⟩
    · cases hd
  | str z =>
    cases x <;> simp only [inD, reduceCtorEq, Option.some.injEq] at hd
    subst hd
    obtain rfl := d2_str hx
    obtain rfl := d2_str hy
    exact op_notin_str pins s σ H _ _ _ _ Q I rv rw ⟨_, _, rfl, rfl, q⟩
  | dict kvs =>
    simp only [inD] at hd
    split at hd
    · rename_i c
      cases hd
      obtain ⟨k, hk⟩ := Option.isSome_iff_exists.mp c
      obtain rfl := keyD_of hk
      obtain rfl := keyV hx
      obtain ⟨a, us, rfl, ra, da⟩ := d2_dct hy
      rw [da.any] at q
      cases rw
      exact d_notIn hu I (.inl ⟨us, k, ra, rfl, rfl⟩) rv fun s' I' => ⟨.bl _, H, I', rfl, q⟩
    · cases hd
  | _ => simp only [inD, reduceCtorEq] at hd
theorem op_isD' : OpR X (compareOp .Is) (RC X.K (cmpD .is)) := by
  intro pins s σ H v w v' w' Q I rv rw h
  obtain ⟨a0, b0, a1, x, y, d, hx, hy, hd, q⟩ := h
  cases y with
  | none =>
    obtain rfl := d2_none hy
    have e : decide (v = .non) = d := by
      cases x <;> simp only [cmpD, reduceCtorEq, Option.some.injEq] at hd
      · subst hd; obtain rfl := d2_none hx; rfl
      · subst hd; obtain rfl := d2_bool hx; rfl
      · subst hd; obtain rfl := d2_int hx; rfl
      · subst hd; obtain rfl := d2_str hx; rfl
      · subst hd; obtain ⟨a, us, rfl, _⟩ := d2_lst hx; rfl
      · subst hd; obtain ⟨a, us, rfl, _⟩ := d2_tup hx; rfl
    exact op_isN pins s σ H _ _ _ _ Q I rv rw ⟨rfl, by rw [e]; exact q⟩
  | bool b =>
    cases x <;> simp only [cmpD, reduceCtorEq, Option.some.injEq] at hd
    subst hd
    obtain rfl := d2_bool hx
    obtain rfl := d2_bool hy
    exact op_isBl pins s σ H _ _ _ _ Q I rv rw ⟨_, _, rfl, rfl, q⟩
  | _ => cases x <;> simp only [cmpD, reduceCtorEq] at hd
theorem op_isnotD' : OpR X (compareOp .IsNot) (RC X.K (cmpD .isnot)) := by
  intro pins s σ H v w v' w' Q I rv rw h
  obtain ⟨a0, b0, a1, x, y, d, hx, hy, hd, q⟩ := h
  cases y with
  | none =>
    obtain rfl := d2_none hy
    have e : (!decide (v = .non)) = d := by
      cases x <;> simp only [cmpD, reduceCtorEq, Option.some.injEq] at hd
      · subst hd; obtain rfl := d2_none hx; rfl
      · subst hd; obtain rfl := d2_bool hx; rfl
      · subst hd; obtain rfl := d2_int hx; rfl
      · subst hd; obtain rfl := d2_str hx; rfl
      · subst hd; obtain ⟨a, us, rfl, _⟩ := d2_lst hx; rfl
      · subst hd; obtain ⟨a, us, rfl, _⟩ := d2_tup hx; rfl
    exact op_notN pins s σ H _ _ _ _ Q I rv rw ⟨rfl, by rw [e]; exact q⟩
  | _ => cases x <;> simp only [cmpD, reduceCtorEq] at hd
def cOp : COp → CmpOp
  | .eq => .Eq
  | .ne => .NotEq
  | .lt => .Lt
  | .le => .LtE
  | .gt => .Gt
  | .ge => .GtE
  | .isin => .In
  | .notin => .NotIn
  | .is => .Is
  | .isnot => .IsNot
theorem op_cmpD (hu : X.A.units + 190 < cLine) : ∀ op : COp, OpR X (compareOp (cOp op)) (RC X.K (cmpD op))
  | .eq => op_eqD' hu
  | .ne => op_neD' hu
  | .lt => op_ordD op_lt fun x y d h => by
    cases x <;> cases y <;> simp only [cmpD, reduceCtorEq, Option.some.injEq] at h
    exact ⟨_, _, rfl, rfl, h.symm⟩
  | .le => op_ordD op_le fun x y d h => by
    cases x <;> cases y <;> simp only [cmpD, reduceCtorEq, Option.some.injEq] at h
    exact ⟨_, _, rfl, rfl, h.symm⟩
  | .gt => op_ordD op_gt fun x y d h => by
    cases x <;> cases y <;> simp only [cmpD, reduceCtorEq, Option.some.injEq] at h
    exact ⟨_, _, rfl, rfl, h.symm⟩
  | .ge => op_ordD op_ge fun x y d h => by
    cases x <;> cases y <;> simp only [cmpD, reduceCtorEq, Option.some.injEq] at h
    exact ⟨_, _, rfl, rfl, h.symm⟩
  | .isin => op_inD' (by omega)
  | .notin => op_notinD' (by omega)
  | .is => op_isD'
  | .isnot => op_isnotD'
end
end Rf

set_option Elab.async false
set_option linter.all false
set_option maxRecDepth 100000
set_option maxHeartbeats 1000000
/-! Rf, part D: subscripts, slices, built-in functions and methods by values. -/
namespace Rf
open PySem PySem.Spec PyProof.Rows L2

section
variable {X : Cx}
/-- a subscript -/
def RIx (K : PySem.W.Frag) : R2 := fun v w H Q => ∃ a0 b0 a1 b1 x y d, Den2 K a0 a1 H v x ∧ Den2 K b0 b1 H w y ∧ idxD x y = some d ∧ ∀ z, Den K a1 H z d → Q z H
theorem atI_len {α β : Type} {xs : List α} {ys : List β} (h : xs.length = ys.length) {i : Int} {y : β} (e : atI ys i = some y) : ∃ j : Nat, ys[j]? = some y ∧ ∀ x : α, xs[j]? = some x → atI xs i = some x := by
  unfold atI at e ⊢
  rw [h]
  cases q : ixN ys.length i with
  | none => rw [q] at e; cases e
  | some j => rw [q] at e; exact ⟨j, e, fun x hx => hx⟩
theorem ixD (hu : X.A.units + 1 < cLine) : IxR X (RIx X.K) := by
  intro value slice pins s σ H v w v' w' Q I rv rw h hs
  obtain ⟨a0, b0, a1, b1, x, y, d, hx, hy, hd, q⟩ := h
  cases x with
  | list xs =>
    cases y <;> simp only [idxD, reduceCtorEq] at hd
    obtain rfl := d2_int hy
    obtain ⟨a, us, rfl, ra, da⟩ := d2_lst hx
    obtain ⟨j, h1, h2⟩ := atI_len da.length hd
    obtain ⟨z, h3, h4⟩ := da.getD h1
    exact ix_list value slice pins s σ H _ _ _ _ Q I rv rw ⟨a, us, _, z, rfl, rfl, ra, h2 z h3, q z h4⟩ hs
  | tuple xs =>
    cases y <;> simp only [idxD, reduceCtorEq] at hd
    obtain rfl := d2_int hy
    obtain ⟨a, us, rfl, ra, da⟩ := d2_tup hx
    obtain ⟨j, h1, h2⟩ := atI_len da.length hd
    obtain ⟨z, h3, h4⟩ := da.getD h1
    exact ix_tup value slice pins s σ H _ _ _ _ Q I rv rw ⟨a, us, _, z, rfl, rfl, ra, h2 z h3, q z h4⟩ hs
  | str z =>
    cases y <;> simp only [idxD, reduceCtorEq] at hd
    split at hd
    · rename_i hl
      obtain rfl := d2_int hy
      obtain rfl := d2_str hx
      obtain ⟨c, hc, rfl⟩ := Option.map_eq_some_iff.mp hd
      exact ix_str value slice pins s σ H _ _ _ _ Q I rv rw ⟨z, _, c, rfl, rfl, line_le hl, hc, q _ (.str _)⟩ hs
    · cases hd
  | dict kvs =>
    simp only [idxD] at hd
    split at hd
    · rename_i c
      obtain ⟨k, hk⟩ := Option.isSome_iff_exists.mp c
      obtain rfl := keyD_of hk
      obtain rfl := keyV hy
      obtain ⟨a, us, rfl, ra, da⟩ := d2_dct hx
      rcases look_of k da with ⟨h1, h2⟩ | ⟨x, z, h1, h2, h3⟩
      · rw [h1] at hd; cases hd
      · rw [h1] at hd; cases hd
        cases rv
        have g : DGet H a (kV k) (some z) := .inl ⟨us, k, ra, rfl, h2.symm⟩
        exact tail_any (dict_typeIs I g) PySem.F.slot_dict_getitem.lookup (d_getItem hu I g rw fun w' s3 I3 rw' => ⟨z, H, I3, rw', q z h3⟩) hs
    · cases hd
  | _ => simp only [idxD, reduceCtorEq] at hd

/-! ### slices -/
def RSl (K : PySem.W.Frag) : V → Option Int → Option Int → Hp → VK → Prop := fun v lo hi H Q => ∃ a0 a1 x d, Den2 K a0 a1 H v x ∧ sliceD x lo hi = some d ∧ ∀ z H', Same H H' → Fr2 K a1 H z H' d → Q z H'
theorem Dens.cut {K : PySem.W.Frag} {av : Addr → Prop} {H : Hp} {us : List V} {xs : List D} (h : Dens K av H us xs) (lo hi : Option Int) : Dens K av H (cutV us lo hi) (cutD xs lo hi) := by
  unfold cutV cutD
  rw [h.length]
  exact (h.drop _).take _
theorem slD : SlR X (RSl X.K) := by
  intro pins s σ H v v' vl vu lo hi sl Q I rv hs pl pu h
  obtain ⟨a0, a1, x, d, hx, hd, q⟩ := h
  cases x with
  | list xs =>
    simp only [sliceD, Option.some.injEq] at hd
    subst hd
    obtain ⟨a, us, rfl, ra, da⟩ := d2_lst hx
    exact sl_list pins s σ H _ _ vl vu lo hi sl Q I rv hs pl pu ⟨a, us, rfl, ra, fun p hp => q _ _ (same_upd hp) (new_lst hp (da.cut lo hi))⟩
  | tuple xs =>
    simp only [sliceD, Option.some.injEq] at hd
    subst hd
    obtain ⟨a, us, rfl, ra, da⟩ := d2_tup hx
    refine sl_tupA pins s σ H _ _ vl vu lo hi sl Q I rv hs pl pu ⟨a, us, rfl, ra, fun c => ?_, fun _ p hp => q _ _ (same_upd hp) (new_tup hp (da.cut lo hi))⟩
    refine q _ _ (Same.refl H) (Den.tuple ra ?_)
    have e : cutD xs lo hi = xs := by
      unfold cutD
      rw [← da.length, c.1, c.2, List.drop_zero, Nat.sub_zero, da.length, List.take_length]
    rw [e]
    exact da
  | str z =>
    simp only [sliceD] at hd
    split at hd
    · rename_i hl
      cases hd
      obtain rfl := d2_str hx
      exact sl_str pins s σ H _ _ vl vu lo hi sl Q I rv hs pl pu ⟨z, rfl, line_le hl, q _ _ (Same.refl H) (by
        have e : cutS z lo hi = S (cutD z.cps.toList lo hi) := by
          unfold cutS cutD
          rw [show z.cps.toList.length = z.length by simp [Str.length]]
        rw [e]
        exact fr_str)⟩
    · cases hd
  | _ => simp only [sliceD, reduceCtorEq] at hd

/-! ### built-in functions -/
def DenA (K : PySem.W.Frag) (a1 : Addr → Prop) (H : Hp) : List V → List D → Prop
  | [], [] => True
  | v :: vs, d :: ds => (∃ a0, Den2 K a0 a1 H v d) ∧ DenA K a1 H vs ds
  | _, _ => False
def RCl (K : PySem.W.Frag) (f : List D → Option D) : List V → Hp → VK → Prop := fun vs H Q => ∃ a1 ds d, DenA K a1 H vs ds ∧ f ds = some d ∧ ∀ z H', Same H H' → Fr2 K a1 H z H' d → Q z H'
theorem denA1 {K : PySem.W.Frag} {a1 : Addr → Prop} {H : Hp} {vs : List V} {d : D} (h : DenA K a1 H vs [d]) : ∃ v a0, vs = [v] ∧ Den2 K a0 a1 H v d := by
  match vs, h with
  | [v], ⟨⟨a0, h⟩, _⟩ => exact ⟨v, a0, rfl, h⟩
theorem denA2 {K : PySem.W.Frag} {a1 : Addr → Prop} {H : Hp} {vs : List V} {d e : D} (h : DenA K a1 H vs [d, e]) : ∃ v w a0 b0, vs = [v, w] ∧ Den2 K a0 a1 H v d ∧ Den2 K b0 a1 H w e := by
  match vs, h with
  | [v, w], ⟨⟨a0, h⟩, ⟨b0, h2⟩, _⟩ => exact ⟨v, w, a0, b0, rfl, h, h2⟩
theorem allInts_of {K : PySem.W.Frag} {av : Addr → Prop} {H : Hp} : ∀ {us : List V} {xs : List D} {l : List Int}, Dens K av H us xs → allInts xs = some l → us = l.map V.int ∧ xs = l.map .int
  | _, _, l, .nil, h => by cases h; exact ⟨rfl, rfl⟩
  | _, _, l, .cons a b, h => by
    cases a <;> simp only [allInts, reduceCtorEq] at h
    obtain ⟨r, h1, rfl⟩ := Option.map_eq_some_iff.mp h
    obtain ⟨e1, e2⟩ := allInts_of b h1
    exact ⟨by rw [e1]; rfl, by rw [e2]; rfl⟩
theorem allBools_of {K : PySem.W.Frag} {av : Addr → Prop} {H : Hp} : ∀ {us : List V} {xs : List D} {l : List Bool}, Dens K av H us xs → allBools xs = some l → us = l.map V.bl
  | _, _, l, .nil, h => by cases h; exact rfl
  | _, _, l, .cons a b, h => by
    cases a <;> simp only [allBools, reduceCtorEq] at h
    obtain ⟨r, h1, rfl⟩ := Option.map_eq_some_iff.mp h
    rw [allBools_of b h1]; rfl
theorem allStrs_of {K : PySem.W.Frag} {av : Addr → Prop} {H : Hp} : ∀ {us : List V} {xs : List D} {l : List Str}, Dens K av H us xs → allStrs xs = some l → us = l.map V.str
  | _, _, l, .nil, h => by cases h; exact rfl
  | _, _, l, .cons a b, h => by
    cases a <;> simp only [allStrs, reduceCtorEq] at h
    obtain ⟨r, h1, rfl⟩ := Option.map_eq_some_iff.mp h
    rw [allStrs_of b h1]; rfl
theorem dens_ints {K : PySem.W.Frag} {av : Addr → Prop} {H : Hp} : ∀ l : List Int, Dens K av H (l.map V.int) (l.map .int)
  | [] => .nil
  | i :: l => .cons (.int i) (dens_ints l)
theorem maxI_mem : ∀ {l : List Int}, l ≠ [] → maxI l ∈ l ∧ ∀ y ∈ l, y ≤ maxI l
  | [], h => absurd rfl h
  | [x], _ => ⟨by simp [maxI], by simp [maxI]⟩
  | x :: y :: r, _ => by
    obtain ⟨h1, h2⟩ := maxI_mem (l := y :: r) (by simp)
    have e : maxI (x :: y :: r) = max x (maxI (y :: r)) := rfl
    rw [e]
    refine ⟨?_, fun z hz => ?_⟩
    · rcases Int.le_total x (maxI (y :: r)) with h | h
      · rw [Int.max_eq_right h]; exact List.mem_cons_of_mem _ h1
      · rw [Int.max_eq_left h]; exact List.mem_cons_self
    · rcases List.mem_cons.mp hz with rfl | hz
      · exact Int.le_max_left _ _
      · exact Int.le_trans (h2 z hz) (Int.le_max_right _ _)
theorem minI_mem : ∀ {l : List Int}, l ≠ [] → minI l ∈ l ∧ ∀ y ∈ l, minI l ≤ y
  | [], h => absurd rfl h
  | [x], _ => ⟨by simp [minI], by simp [minI]⟩
  | x :: y :: r, _ => by
    obtain ⟨h1, h2⟩ := minI_mem (l := y :: r) (by simp)
    have e : minI (x :: y :: r) = min x (minI (y :: r)) := rfl
    rw [e]
    refine ⟨?_, fun z hz => ?_⟩
    · rcases Int.le_total x (minI (y :: r)) with h | h
      · rw [Int.min_eq_left h]; exact List.mem_cons_self
      · rw [Int.min_eq_right h]; exact List.mem_cons_of_mem _ h1
    · rcases List.mem_cons.mp hz with rfl | hz
      · exact Int.min_le_left _ _
      · exact Int.le_trans (Int.min_le_right _ _) (h2 z hz)
theorem insI_perm (x : Int) : ∀ l : List Int, (insI x l).Perm (x :: l)
  | [] => .refl _
  | y :: r => by
    unfold insI
    split
    · exact .refl _
    · exact ((insI_perm x r).cons y).trans (List.Perm.swap x y r)
theorem sortI_perm : ∀ l : List Int, (sortI l).Perm l
  | [] => .refl _
  | x :: r => (insI_perm x (sortI r)).trans ((sortI_perm r).cons x)
theorem insI_sorted (x : Int) : ∀ {l : List Int}, l.Pairwise (· ≤ ·) → (insI x l).Pairwise (· ≤ ·)
  | [], _ => by simp [insI]
  | y :: r, h => by
    rw [List.pairwise_cons] at h
    unfold insI
    split
    · rename_i c
      rw [List.pairwise_cons]
      refine ⟨fun z hz => ?_, List.pairwise_cons.mpr h⟩
      rcases List.mem_cons.mp hz with rfl | hz
      · exact c
      · exact Int.le_trans c (h.1 z hz)
    · rename_i c
      rw [List.pairwise_cons]
      refine ⟨fun z hz => ?_, insI_sorted x h.2⟩
      rcases List.mem_cons.mp ((insI_perm x r).mem_iff.mp hz) with rfl | hz
      · omega
      · exact h.1 z hz
theorem sortI_sorted : ∀ l : List Int, (sortI l).Pairwise (· ≤ ·)
  | [] => .nil
  | x :: r => insI_sorted x (sortI_sorted r)
theorem sorted_uniq : ∀ {a b : List Int}, a.Perm b → a.Pairwise (· ≤ ·) → b.Pairwise (· ≤ ·) → a = b
  | [], b, p, _, _ => (List.nil_perm.mp p).symm
  | x :: a, [], p, _, _ => absurd p.symm (by simp)
  | x :: a, y :: b, p, h1, h2 => by
    rw [List.pairwise_cons] at h1 h2
    have hx : x ∈ y :: b := p.mem_iff.mp List.mem_cons_self
    have hy : y ∈ x :: a := p.mem_iff.mpr List.mem_cons_self
    have e : x = y := by
      rcases List.mem_cons.mp hx with h | h
      · exact h
      · rcases List.mem_cons.mp hy with h' | h'
        · exact h'.symm
        · have := h1.1 y h'
          have := h2.1 x h
          omega
    subst e
    rw [sorted_uniq (List.perm_cons x |>.mp p) h1.2 h2.2]
theorem keys_of {K : PySem.W.Frag} {av : Addr → Prop} {H : Hp} : ∀ {ks : List (Key × V)} {kvs : List (D × D)}, DenKs K av H ks kvs → Dens K av H (ks.map fun kv => kV kv.1) (kvs.map (·.1))
  | _, _, .nil => .nil
  | _, _, .cons (k := k) a b => by
    refine .cons ?_ (keys_of b)
    cases k
    · exact .int _
    · exact .str _
theorem keys_ints {K : PySem.W.Frag} {av : Addr → Prop} {H : Hp} : ∀ {ks : List (Key × V)} {kvs : List (D × D)} {l : List Int}, DenKs K av H ks kvs → allInts (kvs.map (·.1)) = some l → ks.map (·.1) = l.map Sum.inl
  | _, _, l, .nil, h => by cases h; rfl
  | _, _, l, .cons (k := k) a b, h => by
    cases k with
    | inl i =>
      rw [List.map_cons] at h
      simp only [keyOf, allInts] at h
      obtain ⟨r, h1, rfl⟩ := Option.map_eq_some_iff.mp h
      rw [List.map_cons, keys_ints b h1]; rfl
    | inr x => rw [List.map_cons] at h; simp only [keyOf, allInts, reduceCtorEq] at h

def bltV : Blt → Value
  | .len => .builtin "len"
  | .int => .type "int"
  | .abs => .builtin "abs"
  | .sum => .builtin "sum"
  | .max => .builtin "max"
  | .min => .builtin "min"
  | .all => .builtin "all"
  | .any => .builtin "any"
  | .tuple => .type "tuple"
  | .list => .type "list"
  | .sorted => .builtin "sorted"
  | .str => .type "str"
  | .dict => .type "dict"
  | .isi _ => .builtin "isinstance"
theorem cl_len (hc : X.calm = true) : CallR X (.builtin "len") (RCl X.K (bltD .len)) := by
  intro pins s σ H vs us Q I r h
  obtain ⟨a1, ds, d, hd, hf, q⟩ := h
  match ds, hf with
  | [.list xs], hf =>
    cases hf
    obtain ⟨v, a0, rfl, hv⟩ := denA1 hd
    obtain ⟨a, us', rfl, ra, da⟩ := d2_lst hv
    refine call_len pins s σ H _ _ Q I r ⟨_, us'.length, rfl, .inl ⟨us', ra, rfl⟩, ?_⟩
    rw [da.length]; exact q _ _ (Same.refl H) fr_int
  | [.tuple xs], hf =>
    cases hf
    obtain ⟨v, a0, rfl, hv⟩ := denA1 hd
    obtain ⟨a, us', rfl, ra, da⟩ := d2_tup hv
    refine call_len pins s σ H _ _ Q I r ⟨_, us'.length, rfl, .inr ⟨us', ra, rfl⟩, ?_⟩
    rw [da.length]; exact q _ _ (Same.refl H) fr_int
  | [.str z], hf =>
    simp only [bltD] at hf
    split at hf
    · rename_i hl
      cases hf
      obtain ⟨v, a0, rfl, hv⟩ := denA1 hd
      obtain rfl := d2_str hv
      exact call_len pins s σ H _ _ Q I r ⟨_, z.length, rfl, ⟨line_le hl, rfl⟩, q _ _ (Same.refl H) fr_int⟩
    · cases hf
  | [.dict kvs], hf =>
    cases hf
    obtain ⟨v, a0, rfl, hv⟩ := denA1 hd
    obtain ⟨a, us', rfl, ra, da⟩ := d2_dct hv
    rw [Vals.ref1 r]
    refine d_len I ra fun t s' I' => ⟨.int _, H, I', ⟨_, rfl⟩, ?_⟩
    rw [da.length]; exact q _ _ (Same.refl H) fr_int
theorem cl_int : CallR X (.type "int") (RCl X.K (bltD .int)) := by
  intro pins s σ H vs us Q I r h
  obtain ⟨a1, ds, d, hd, hf, q⟩ := h
  match ds, hf with
  | [.int i], hf =>
    cases hf
    obtain ⟨v, a0, rfl, hv⟩ := denA1 hd
    obtain rfl := d2_int hv
    exact call_int1 pins s σ H _ _ Q I r (.inl ⟨i, rfl, q _ _ (Same.refl H) fr_int⟩)
  | [.bool b], hf =>
    cases hf
    obtain ⟨v, a0, rfl, hv⟩ := denA1 hd
    obtain rfl := d2_bool hv
    exact call_int1 pins s σ H _ _ Q I r (.inr ⟨b, rfl, q _ _ (Same.refl H) fr_int⟩)
theorem cl_abs : CallR X (.builtin "abs") (RCl X.K (bltD .abs)) := by
  intro pins s σ H vs us Q I r h
  obtain ⟨a1, ds, d, hd, hf, q⟩ := h
  match ds, hf with
  | [.int i], hf =>
    cases hf
    obtain ⟨v, a0, rfl, hv⟩ := denA1 hd
    obtain rfl := d2_int hv
    exact call_abs pins s σ H _ _ Q I r ⟨i, rfl, q _ _ (Same.refl H) fr_int⟩
theorem cl_sum (hc : X.calm = true) : CallR X (.builtin "sum") (RCl X.K (bltD .sum)) := by
  intro pins s σ H vs us Q I r h
  obtain ⟨a1, ds, d, hd, hf, q⟩ := h
  match ds, hf with
  | [.list xs], hf =>
    obtain ⟨l, h1, rfl⟩ := Option.map_eq_some_iff.mp hf
    obtain ⟨v, a0, rfl, hv⟩ := denA1 hd
    obtain ⟨a, us', rfl, ra, da⟩ := d2_lst hv
    obtain ⟨rfl, _⟩ := allInts_of da h1
    exact cr_sum hc pins s σ H _ _ Q I r ⟨a, l, rfl, ra, q _ _ (Same.refl H) fr_int⟩
theorem ints_ne {xs : List D} {l : List Int} (h : xs = l.map PyData.int) (n : ¬ xs = []) : l ≠ [] := fun z => n (by rw [h, z]; rfl)
theorem cl_max (hc : X.calm = true) : CallR X (.builtin "max") (RCl X.K (bltD .max)) := by
  intro pins s σ H vs us Q I r h
  obtain ⟨a1, ds, d, hd, hf, q⟩ := h
  match ds, hf with
  | [.int i, .int j], hf =>
    cases hf
    obtain ⟨v, w, a0, b0, rfl, hv, hw⟩ := denA2 hd
    obtain rfl := d2_int hv
    obtain rfl := d2_int hw
    exact call_max2 hc pins s σ H _ _ Q I r ⟨i, j, rfl, q _ _ (Same.refl H) fr_int⟩
  | [.list xs], hf =>
    simp only [bltD] at hf
    split at hf
    · cases hf
    · rename_i hne
      obtain ⟨l, h1, rfl⟩ := Option.map_eq_some_iff.mp hf
      obtain ⟨v, a0, rfl, hv⟩ := denA1 hd
      obtain ⟨a, us', rfl, ra, da⟩ := d2_lst hv
      obtain ⟨rfl, e2⟩ := allInts_of da h1
      have hl := ints_ne e2 hne
      obtain ⟨m1, m2⟩ := maxI_mem hl
      refine cr_max hc pins s σ H _ _ Q I r ⟨a, l, rfl, ra, List.length_pos_iff.mpr hl, fun m k1 k2 => ?_⟩
      have e : m = maxI l := Int.le_antisymm (m2 m k1) (k2 _ m1)
      rw [e]; exact q _ _ (Same.refl H) fr_int
theorem cl_min (hc : X.calm = true) : CallR X (.builtin "min") (RCl X.K (bltD .min)) := by
  intro pins s σ H vs us Q I r h
  obtain ⟨a1, ds, d, hd, hf, q⟩ := h
  match ds, hf with
  | [.int i, .int j], hf =>
    cases hf
    obtain ⟨v, w, a0, b0, rfl, hv, hw⟩ := denA2 hd
    obtain rfl := d2_int hv
    obtain rfl := d2_int hw
    exact call_min2 hc pins s σ H _ _ Q I r ⟨i, j, rfl, q _ _ (Same.refl H) fr_int⟩
  | [.list xs], hf =>
    simp only [bltD] at hf
    split at hf
    · cases hf
    · rename_i hne
      obtain ⟨l, h1, rfl⟩ := Option.map_eq_some_iff.mp hf
      obtain ⟨v, a0, rfl, hv⟩ := denA1 hd
      obtain ⟨a, us', rfl, ra, da⟩ := d2_lst hv
      obtain ⟨rfl, e2⟩ := allInts_of da h1
      have hl := ints_ne e2 hne
      obtain ⟨m1, m2⟩ := minI_mem hl
      refine cr_min hc pins s σ H _ _ Q I r ⟨a, l, rfl, ra, List.length_pos_iff.mpr hl, fun m k1 k2 => ?_⟩
      have e : m = minI l := Int.le_antisymm (k2 _ m1) (m2 m k1)
      rw [e]; exact q _ _ (Same.refl H) fr_int
theorem cl_all (hc : X.calm = true) : CallR X (.builtin "all") (RCl X.K (bltD .all)) := by
  intro pins s σ H vs us Q I r h
  obtain ⟨a1, ds, d, hd, hf, q⟩ := h
  match ds, hf with
  | [.list xs], hf =>
    obtain ⟨l, h1, rfl⟩ := Option.map_eq_some_iff.mp hf
    obtain ⟨v, a0, rfl, hv⟩ := denA1 hd
    obtain ⟨a, us', rfl, ra, da⟩ := d2_lst hv
    obtain rfl := allBools_of da h1
    exact cr_all hc pins s σ H _ _ Q I r ⟨a, l, rfl, ra, q _ _ (Same.refl H) fr_bool⟩
theorem cl_any (hc : X.calm = true) : CallR X (.builtin "any") (RCl X.K (bltD .any)) := by
  intro pins s σ H vs us Q I r h
  obtain ⟨a1, ds, d, hd, hf, q⟩ := h
  match ds, hf with
  | [.list xs], hf =>
    obtain ⟨l, h1, rfl⟩ := Option.map_eq_some_iff.mp hf
    obtain ⟨v, a0, rfl, hv⟩ := denA1 hd
    obtain ⟨a, us', rfl, ra, da⟩ := d2_lst hv
    obtain rfl := allBools_of da h1
    exact cr_any hc pins s σ H _ _ Q I r ⟨a, l, rfl, ra, q _ _ (Same.refl H) fr_bool⟩
theorem cl_tuple : CallR X (.type "tuple") (RCl X.K (bltD .tuple)) := by
  intro pins s σ H vs us Q I r h
  obtain ⟨a1, ds, d, hd, hf, q⟩ := h
  match ds, hf with
  | [.list xs], hf =>
    cases hf
    obtain ⟨v, a0, rfl, hv⟩ := denA1 hd
    obtain ⟨a, us', rfl, ra, da⟩ := d2_lst hv
    exact call_tuple_of pins s σ H _ _ Q I r ⟨a, us', rfl, .inl ⟨ra, fun p hp => q _ _ (same_upd hp) (new_tup hp da)⟩⟩
  | [.tuple xs], hf =>
    cases hf
    obtain ⟨v, a0, rfl, hv⟩ := denA1 hd
    obtain ⟨a, us', rfl, ra, da⟩ := d2_tup hv
    exact call_tuple_of pins s σ H _ _ Q I r ⟨a, us', rfl, .inr ⟨ra, q _ _ (Same.refl H) (Den.tuple ra da)⟩⟩
theorem cl_list (hc : X.calm = true) : CallR X (.type "list") (RCl X.K (bltD .list)) := by
  intro pins s σ H vs us Q I r h
  obtain ⟨a1, ds, d, hd, hf, q⟩ := h
  match ds, hf with
  | [.list xs], hf =>
    cases hf
    obtain ⟨v, a0, rfl, hv⟩ := denA1 hd
    obtain ⟨a, us', rfl, ra, da⟩ := d2_lst hv
    exact call_list_of pins s σ H _ _ Q I r ⟨a, us', rfl, .inl ra, fun p hp => q _ _ (same_upd hp) (new_lst hp da)⟩
  | [.tuple xs], hf =>
    cases hf
    obtain ⟨v, a0, rfl, hv⟩ := denA1 hd
    obtain ⟨a, us', rfl, ra, da⟩ := d2_tup hv
    exact call_list_of pins s σ H _ _ Q I r ⟨a, us', rfl, .inr ra, fun p hp => q _ _ (same_upd hp) (new_lst hp da)⟩
theorem cl_sorted (hc : X.calm = true) : CallR X (.builtin "sorted") (RCl X.K (bltD .sorted)) := by
  intro pins s σ H vs us Q I r h
  obtain ⟨a1, ds, d, hd, hf, q⟩ := h
  match ds, hf with
  | [.list xs], hf =>
    obtain ⟨l, h1, rfl⟩ := Option.map_eq_some_iff.mp hf
    obtain ⟨v, a0, rfl, hv⟩ := denA1 hd
    obtain ⟨a, us', rfl, ra, da⟩ := d2_lst hv
    obtain ⟨rfl, _⟩ := allInts_of da h1
    refine cr_sortedI pins s σ H _ _ Q I r ⟨a, l, rfl, ra, fun ns' p k1 k2 hp => ?_⟩
    rw [sorted_uniq (k1.trans (sortI_perm l).symm) k2 (sortI_sorted l)]
    exact q _ _ (same_upd hp) (new_lst hp (dens_ints _))
  | [.dict kvs], hf =>
    simp only [bltD] at hf
    split at hf
    · rename_i h64
      obtain ⟨l, h1, rfl⟩ := Option.map_eq_some_iff.mp hf
      obtain ⟨v, a0, rfl, hv⟩ := denA1 hd
      obtain ⟨a, us', rfl, ra, da⟩ := d2_dct hv
      have e := keys_ints da h1
      refine call_sortedDI hc pins s σ H _ _ Q I r ⟨a, us', l, rfl, ra, e, ?_, fun ns' p k1 k2 hp => ?_⟩
      · have := congrArg List.length e
        rw [List.length_map, List.length_map, da.length] at this
        omega
      · rw [sorted_uniq (k1.trans (sortI_perm l).symm) k2 (sortI_sorted l)]
        exact q _ _ (same_upd hp) (new_lst hp (dens_ints _))
    · cases hf
theorem cl_str : CallR X (.type "str") (RCl X.K (bltD .str)) := by
  intro pins s σ H vs us Q I r h
  obtain ⟨a1, ds, d, hd, hf, q⟩ := h
  match ds, hf with
  | [.int i], hf =>
    simp only [bltD] at hf
    split at hf
    · rename_i hl
      cases hf
      obtain ⟨v, a0, rfl, hv⟩ := denA1 hd
      obtain rfl := d2_int hv
      exact call_str_int pins s σ H _ _ Q I r ⟨i, rfl, hl, q _ _ (Same.refl H) fr_str⟩
    · cases hf
theorem cl_dict : CallR X (.type "dict") (RCl X.K (bltD .dict)) := by
  intro pins s σ H vs us Q I r h
  obtain ⟨a1, ds, d, hd, hf, q⟩ := h
  match ds, hf with
  | [.dict kvs], hf =>
    cases hf
    obtain ⟨v, a0, rfl, hv⟩ := denA1 hd
    obtain ⟨a, us', rfl, ra, da⟩ := d2_dct hv
    rw [Vals.ref1 r]
    exact d_copyOf I ra fun p s' hp I' => ⟨.ref p, _, I', rfl, q _ _ (same_upd hp) (new_dct hp da)⟩

/-! isinstance -/
def tyN : Nat → String
  | 0 => "int"
  | 1 => "bool"
  | 2 => "str"
  | 3 => "tuple"
  | _ => "list"
def RIsi (K : PySem.W.Frag) (T : Nat) : List V → Hp → VK → Prop := fun vs H Q => ∃ v a0 a1 x b, vs = [v, .ty (tyN T)] ∧ Den2 K a0 a1 H v x ∧ isiD T x = some b ∧ Q (.bl b) H
theorem kitInt (K : PySem.W.Frag) : ∀ T : Nat, T < 5 → PySem.W.kitOne K (.type "int") (.type (tyN T)) = some (T == 0)
  | 0, _ => kit_ty (by decide +kernel)
  | 1, _ => kit_ty (by decide +kernel)
  | 2, _ => kit_ty (by decide +kernel)
  | 3, _ => kit_ty (by decide +kernel)
  | 4, _ => kit_ty (by decide +kernel)
theorem kitBool (K : PySem.W.Frag) : ∀ T : Nat, T < 5 → PySem.W.kitOne K (.type "bool") (.type (tyN T)) = some (T == 0 || T == 1)
  | 0, _ => kit_ty (by decide +kernel)
  | 1, _ => kit_ty (by decide +kernel)
  | 2, _ => kit_ty (by decide +kernel)
  | 3, _ => kit_ty (by decide +kernel)
  | 4, _ => kit_ty (by decide +kernel)
theorem kitStr (K : PySem.W.Frag) : ∀ T : Nat, T < 5 → PySem.W.kitOne K (.type "str") (.type (tyN T)) = some (T == 2)
  | 0, _ => kit_ty (by decide +kernel)
  | 1, _ => kit_ty (by decide +kernel)
  | 2, _ => kit_ty (by decide +kernel)
  | 3, _ => kit_ty (by decide +kernel)
  | 4, _ => kit_ty (by decide +kernel)
theorem kitTup (K : PySem.W.Frag) : ∀ T : Nat, T < 5 → PySem.W.kitOne K (.type "tuple") (.type (tyN T)) = some (T == 3)
  | 0, _ => kit_ty (by decide +kernel)
  | 1, _ => kit_ty (by decide +kernel)
  | 2, _ => kit_ty (by decide +kernel)
  | 3, _ => kit_ty (by decide +kernel)
  | 4, _ => kit_ty (by decide +kernel)
theorem kitLst (K : PySem.W.Frag) : ∀ T : Nat, T < 5 → PySem.W.kitOne K (.type "list") (.type (tyN T)) = some (T == 4)
  | 0, _ => kit_ty (by decide +kernel)
  | 1, _ => kit_ty (by decide +kernel)
  | 2, _ => kit_ty (by decide +kernel)
  | 3, _ => kit_ty (by decide +kernel)
  | 4, _ => kit_ty (by decide +kernel)
theorem kitNon (K : PySem.W.Frag) : ∀ T : Nat, T < 5 → PySem.W.kitOne K (.type "NoneType") (.type (tyN T)) = some false
  | 0, _ => kit_ty (by decide +kernel)
  | 1, _ => kit_ty (by decide +kernel)
  | 2, _ => kit_ty (by decide +kernel)
  | 3, _ => kit_ty (by decide +kernel)
  | 4, _ => kit_ty (by decide +kernel)
theorem cl_isi {T : Nat} (hT : T < 5) : CallR X (.builtin "isinstance") (RIsi X.K T) := by
  intro pins s σ H vs us Q I r h
  obtain ⟨v, a0, a1, x, b, rfl, hx, hb, q⟩ := h
  have go : ∀ {t : Value}, TyX X.K H v t → PySem.W.kitOne X.K t (.type (tyN T)) = some b → wpAny (model X.prog X.w) X.A (call (.builtin "isinstance") us) (EP X pins σ Q) X.xe s := fun {t} ty k =>
    call_isi pins s σ H _ _ Q I r ⟨v, .ty (tyN T), t, .type (tyN T), b, rfl, .ty _, ty, k, q⟩
  cases x <;> simp only [isiD, Option.some.injEq, reduceCtorEq] at hb
  · subst hb; obtain rfl := d2_none hx; exact go (.base .non) (kitNon _ T hT)
  · subst hb; obtain rfl := d2_bool hx; exact go (.base (.bl _)) (kitBool _ T hT)
  · subst hb; obtain rfl := d2_int hx; exact go (.base (.int _)) (kitInt _ T hT)
  · subst hb; obtain rfl := d2_str hx; exact go (.base (.str _)) (kitStr _ T hT)
  · subst hb
    obtain ⟨a, xs, rfl, h, _⟩ := d2_lst hx
    rcases h with (h | ⟨o, h⟩) | ⟨o, its, n, h, c, _⟩
    · exact go (.base (.lst h)) (kitLst _ T hT)
    · exact go (.base (.frz h)) (kitLst _ T hT)
    · exact go (.kList h c) (kitLst _ T hT)
  · subst hb
    obtain ⟨a, xs, rfl, h, _⟩ := d2_tup hx
    rcases h with (h | ⟨o, h⟩) | ⟨o, its, n, h, c, _⟩
    · exact go (.base (.tup h)) (kitTup _ T hT)
    · exact go (.fTuple h) (kitTup _ T hT)
    · exact go (.kTuple h c) (kitTup _ T hT)

/-! ### methods -/
def RMt (K : PySem.W.Frag) (m : Mth) : V → List V → Hp → VK → Prop := fun v vs H Q => ∃ z, v = .str z ∧ ∃ d, vs = [] ∧ strM m z = some d ∧ ∀ w, Den K (fun _ => False) H w d → Q w H
theorem Den.flat2 {K : PySem.W.Frag} {av av' : Addr → Prop} {H H' : Hp} {v : V} {d : D} (h : Den K av H v d) (f : flatD d = true) : Den K av' H' v d := by
  cases h with
  | none => exact .none
  | bool b => exact .bool b
  | int b => exact .int b
  | str b => exact .str b
  | _ => cases f
theorem strM_flat {m : Mth} {z : Str} {d : D} (h : strM m z = some d) : flatD d = true := by
  cases m <;> simp only [strM, reduceCtorEq, Option.some.injEq] at h
  · subst h; rfl
  · subst h; rfl
  · split at h
    · cases h; rfl
    · cases h
  · split at h
    · cases h; rfl
    · cases h
  · split at h
    · cases h; rfl
    · cases h
def mthN : Mth → Str
  | .get => "get"
  | .bits => "bit_length"
  | .isalpha => "isalpha"
  | .islower => "islower"
  | .lower => "lower"
  | .upper => "upper"
  | .swapcase => "swapcase"
  | .join => "join"
theorem mt_isalphaD : MtR X "str.isalpha" (RMt X.K .isalpha) := by
  intro pins s σ H x xs v us Q I rx rs h
  obtain ⟨z, rfl, d, rfl, hd, q⟩ := h
  cases hd
  exact mt_isalpha pins s σ H _ _ _ _ Q I rx rs ⟨z, rfl, rfl, trivial, q _ (.bool _)⟩
theorem mt_islowerD : MtR X "str.islower" (RMt X.K .islower) := by
  intro pins s σ H x xs v us Q I rx rs h
  obtain ⟨z, rfl, d, rfl, hd, q⟩ := h
  cases hd
  obtain ⟨t, rfl⟩ := rx
  cases rs
  exact PySem.SC.islower ⟨.bl _, H, I, rfl, q _ (.bool _)⟩
theorem mt_lowerD : MtR X "str.lower" (RMt X.K .lower) := by
  intro pins s σ H x xs v us Q I rx rs h
  obtain ⟨z, rfl, d, rfl, hd, q⟩ := h
  simp only [strM] at hd
  split at hd
  · rename_i hl
    cases hd
    exact mt_lower pins s σ H _ _ _ _ Q I rx rs ⟨z, rfl, rfl, Nat.le_trans hl (by decide), q _ (.str _)⟩
  · cases hd
theorem mt_upperD : MtR X "str.upper" (RMt X.K .upper) := by
  intro pins s σ H x xs v us Q I rx rs h
  obtain ⟨z, rfl, d, rfl, hd, q⟩ := h
  simp only [strM] at hd
  split at hd
  · rename_i hl
    cases hd
    exact mt_upper pins s σ H _ _ _ _ Q I rx rs ⟨z, rfl, rfl, Nat.le_trans hl (by decide), q _ (.str _)⟩
  · cases hd
theorem mt_swapcaseD : MtR X "str.swapcase" (RMt X.K .swapcase) := by
  intro pins s σ H x xs v us Q I rx rs h
  obtain ⟨z, rfl, d, rfl, hd, q⟩ := h
  simp only [strM] at hd
  split at hd
  · rename_i hl
    cases hd
    obtain ⟨t, rfl⟩ := rx
    cases rs
    exact PyProof.Rows.SCL.swapcase (Nat.le_trans hl (by decide)) fun _ => ⟨.str _, H, I.tok _, ⟨_, rfl⟩, q _ (.str _)⟩
  · cases hd
/-- o.m() of a text -/
theorem pe_str0 {o : Expr} {to : L2.TE} {apos pos : Pos} (m : Mth) (hm : m ≠ .get ∧ m ≠ .bits ∧ m ≠ .join) (ho : PE X o to) (hbase : attributeBase o (mthN m) X.env (eval o X.env) = eval o X.env) (hline : (apos.endLine == pos.line) = true) :
    PE X (.Call (.Attribute o (mthN m) apos) [] [] pos) (tM0 (RMt X.K m) to) := by
  cases m with
  | get => exact absurd rfl hm.1
  | bits => exact absurd rfl hm.2.1
  | join => exact absurd rfl hm.2.2
  | isalpha => exact pe_m0 PySem.F.slot_str_isalpha PySem.F.type_str_isalpha mt_isalphaD ho hbase hline
  | islower => exact pe_m0 PySem.F.slot_str_islower PySem.F.type_str_islower mt_islowerD ho hbase hline
  | lower => exact pe_m0 PySem.F.slot_str_lower PySem.F.type_str_lower mt_lowerD ho hbase hline
  | upper => exact pe_m0 PySem.F.slot_str_upper PySem.F.type_str_upper mt_upperD ho hbase hline
  | swapcase => exact pe_m0 PySem.F.slot_str_swapcase PySem.F.type_str_swapcase mt_swapcaseD ho hbase hline
end
end Rf

set_option Elab.async false
set_option linter.all false
set_option maxRecDepth 100000
set_option maxHeartbeats 1000000
/-! Rf, part E: expressions. -/
namespace Rf
open PySem PySem.Spec PyProof.Rows L2

def sub : Nat → Nat
  | 0 => 0
  | _ => 1
theorem av1_sub {P : Pk} {e : Sl} {σ : L2.St} (m : Nat) : av1 P e σ (sub m) = av1 P e σ m := by cases m <;> rfl
def PostN (P : Pk) (e : Sl) (σ : L2.St) (m : Nat) (H : Hp) (Q : VK) : Res D → Prop
  | .ok d => ∀ v H', Same H H' → Fr2 P.K (av1 P e σ m) H v H' d → Q v H'
  | .ex c => ∀ H', Same H H' → P.W (.ref (P.ca c)) none σ H'
  | .stuck => False
/-- a value whose list or dict is new -/
def liftN (P : Pk) (m : Nat) (f : Sl → Res D) : L2.TE := fun σ H Q => ∃ e, Rel P e σ H ∧ PostN P e σ m H Q (f e)

structure Gd {β : Type} (P : Pk) (σ : L2.St) (Z : Hp → Res β → Prop) : Prop where
  back : ∀ {H H' : Hp} {r : Res β}, Same H H' → Z H r → Z H' r
  ex : ∀ {H : Hp} {c : Nat}, Z H (.ex c) → ∀ H', Same H H' → P.W (.ref (P.ca c)) none σ H'
  no : ∀ {H : Hp}, Z H .stuck → False
section
variable {P : Pk} {e : Sl} {σ : L2.St} {H H' : Hp} {m n k : Nat} {Q : VK}
theorem gdPost : Gd P σ (fun H r => Post P e σ m H Q r) := ⟨fun s h => Post.back s h, fun h => h, fun h => h⟩
theorem gdPostN : Gd P σ (fun H r => PostN P e σ m H Q r) := ⟨fun {H H' r} s h => match r, h with
  | .ok _, h => fun v H2 s2 d => h v H2 (s.trans s2) (d.back s)
  | .ex _, h => fun H2 s2 => h H2 (s.trans s2)
  | .stuck, h => h, fun h => h, fun h => h⟩
theorem gdPostT {Q : Bool → Hp → Prop} : Gd P σ (fun H r => PostT P σ H Q r) := ⟨fun {H H' r} s h => match r, h with
  | .ok (.bool _), h => fun H2 s2 => h H2 (s.trans s2)
  | .ok .none, h => h
  | .ok (.int _), h => h
  | .ok (.str _), h => h
  | .ok (.list _), h => h
  | .ok (.tuple _), h => h
  | .ok (.dict _), h => h
  | .ex _, h => fun H2 s2 => h H2 (s.trans s2)
  | .stuck, h => h, fun h => h, fun h => h⟩
theorem gdPosts {Q : List V → Hp → Prop} : Gd P σ (fun H r => Posts P e σ m H Q r) := ⟨fun {H H' r} s h => match r, h with
  | .ok _, h => fun v H2 s2 d => h v H2 (s.trans s2) d
  | .ex _, h => fun H2 s2 => h H2 (s.trans s2)
  | .stuck, h => h, fun h => h, fun h => h⟩
theorem PostN.post (R : Rel P e σ H) : ∀ {r : Res D}, Post P e σ m H Q r → PostN P e σ m H Q r
  | .ok _, h => fun v H' s d => h v H' s (d.two fun a z => by
    match m with
    | 0 => exact R.av_ne (.inl z)
    | 1 => exact R.av_ne (.inl z)
    | _ + 2 => exact R.av_ne z)
  | .ex _, h => h
  | .stuck, h => h
theorem PE.new {X : Cx} {ex : Expr} {f : Sl → Res D} (h : PE X ex (liftN P m f)) : PE X ex (lift P m f) := PE.imp h fun σ H Q ⟨e, R, p⟩ => ⟨e, R, PostN.post R p⟩
theorem PE.own {X : Cx} {ex : Expr} {f : Sl → Res D} (h : PE X ex (liftN P 2 f)) : PE X ex (liftL P f) := PE.imp h fun σ H Q ⟨e, R, p⟩ => ⟨e, R, by
  cases q : f e with
  | ok d =>
    rw [q] at p
    cases d with
    | list ds => intro v H' s ⟨a, xs, h1, h2, h3, h4⟩; subst h1; exact p a H' xs s h2 h3 h4
    | dict ds => intro v H' s ⟨a, xs, h1, h2, h3, h4⟩; subst h1; exact p a H' xs s h2 h3 h4
    | _ => exact p.elim
  | ex c => rw [q] at p; exact p
  | stuck => rw [q] at p; exact p⟩
theorem PE.mode {X : Cx} {ex : Expr} {f : Sl → Res D} (h : PE X ex (lift P 2 f)) : PE X ex (lift P m f) := PE.imp h fun σ H Q ⟨e, R, p⟩ => ⟨e, R, Post.mode (fun H v d hd => hd.d2.mm) p⟩
/-- an operand is evaluated -/
theorem bindZ {α : Type} {β : Type} {Z : Hp → Res β → Prop} (gd : Gd P σ Z) (R : Rel P e σ H) {F : D → Res β} {r : Res D} (h : Z H (r.bind F)) :
    Post P e σ m H (fun v H1 => ∃ x, r = .ok x ∧ Same H H1 ∧ Rel P e σ H1 ∧ DenM P e σ m H1 v x ∧ Z H1 (F x)) r := by
  cases r with
  | ok x => exact fun v H1 s d => ⟨x, rfl, s, R.same s, d, gd.back s h⟩
  | ex c => exact gd.ex h
  | stuck => exact gd.no h
theorem bindZs {β : Type} {Z : Hp → Res β → Prop} (gd : Gd P σ Z) (R : Rel P e σ H) {F : List D → Res β} {r : Res (List D)} (h : Z H (r.bind F)) :
    Posts P e σ m H (fun v H1 => ∃ x, r = .ok x ∧ Same H H1 ∧ Rel P e σ H1 ∧ DenMs P e σ m H1 v x ∧ Z H1 (F x)) r := by
  cases r with
  | ok x => exact fun v H1 s d => ⟨x, rfl, s, R.same s, d, gd.back s h⟩
  | ex c => exact gd.ex h
  | stuck => exact gd.no h
end

/-- the facts of a body's context -/
structure Ctx (X : Cx) (P : Pk) (N : List Str) (sc : Scope) : Prop where
  hK : X.K = P.K
  hN : X.N = N
  nd : N.Nodup
  hs : X.env.scope = sc
  calm : X.calm = true
  un : X.A.units + 190 < cLine
  tk : Takes X P.W
  po : PassesOwn (model X.prog X.w) X.A X.env X.xe
theorem evs_len {Φ : FT} {e : Sl} : ∀ {ES : List Exp} {xs : List D}, evs Φ ES e = .ok xs → xs.length = ES.length
  | [], xs, h => by simp only [evs, Res.ok.injEq] at h; subst h; rfl
  | A :: ES, xs, h => by
    simp only [evs] at h
    cases q : ev Φ A e with
    | ok d =>
      rw [q] at h
      cases q2 : evs Φ ES e with
      | ok ys =>
        simp only [Res.bind_ok, q2, Res.ok.injEq] at h
        subst h
        rw [List.length_cons, List.length_cons, evs_len q2]
      | ex c => simp [q2] at h
      | stuck => simp [q2] at h
    | ex c => rw [q] at h; simp at h
    | stuck => rw [q] at h; simp at h
theorem noLsts_append : ∀ {xs ys : List D}, noLsts xs = true → noLsts ys = true → noLsts (xs ++ ys) = true
  | [], _, _, h => h
  | x :: xs, ys, h, h2 => by
    simp only [noLsts, Bool.and_eq_true] at h
    simp only [List.cons_append, noLsts, Bool.and_eq_true]
    exact ⟨h.1, noLsts_append h.2 h2⟩
/-- what a def promises -/
def spP (K : PySem.W.Frag) (ca : Nat → Addr) (φ : FT) (f : Nat) : L2.Sp := fun vs H Q E => ∃ (av : Addr → Prop) (ds : List D), (∀ a, av a → H a ≠ none) ∧ Dens K av H vs ds ∧ match φ f ds with
  | .ok d => ∀ v H', Same H H' → Den K av H' v d → Q v H'
  | .ex c => ∀ H', Same H H' → E (.ref (ca c)) none H'
  | .stuck => False
/-- a def that may be called -/
structure Fn1 (pr : Program) (w : World) (K : PySem.W.Frag) (mg : Str → Option Value) (base : Heap) (A : Around) (ca : Nat → Addr) (Φ : FT) (x : Str) (f : Nat) : Prop where
  ex : ∃ (k : Nat) (fA : Addr) (fd : FuncData) (ps : List Str), FnOk pr w K mg base (L2.CX pr w) k fA fd ps (spP K ca Φ f) ∧ Room k A ∧ mg x = some (.ref fA) ∧ PySem.W.keepIn K (.ref fA) = true ∧ Binds K fd ps []

section
variable {X : Cx} {P : Pk} {N : List Str} {sc : Scope} {m : Nat} {Φ : FT} {f g : Sl → Res D} {A B E : Exp} {ES : List Exp} {a b c : Expr} {es : List Expr} {pos : Pos}
theorem Ctx.u1 (C : Ctx X P N sc) : X.A.units + 1 < cLine := by have := C.un; omega
theorem DenM.up {e : Sl} {σ : L2.St} {H : Hp} {v : V} {d : D} (h : Den P.K (av1 P e σ m) H v d) : DenM P e σ m H v d := by
  refine Den2.mono (fun a z => ?_) (fun a z => z) h.two
  match m with
  | 0 => exact z
  | 1 => exact .inl z
  | _ + 2 => exact z
/-! names, constants -/
theorem se_var (C : Ctx X P N sc) {i : Nat} {x : Str} (hN : N[i]? = some x) (hv : Vis sc x) (hd : (x == ("__debug__" : Str)) = false := by decide) (hcd : (x == ("__classdict__" : Str)) = false := by decide) : PE X (.Name x pos) (lift P m (ev Φ (.var i))) := by
  refine PE.imp (pe_var (i := i) (by rw [C.hN]; exact hN) (by rw [C.hs]; exact hv) hd hcd) fun σ H Q ⟨e, R, p⟩ => ?_
  simp only [ev] at p
  cases q : e[i]? with
  | none => rw [q] at p; exact p.elim
  | some s =>
    rw [q] at p
    obtain ⟨o, h1, h2⟩ := R.at q
    cases s with
    | d x =>
      obtain ⟨v, rfl, dd⟩ := h2
      exact ⟨v, h1, p v H (Same.refl H) dd.mm⟩
    | _ => exact p.elim
theorem se_vw (C : Ctx X P N sc) {i : Nat} {x : Str} (hN : N[i]? = some x) (hv : Vis sc x) (hm : m ≤ 1) (hd : (x == ("__debug__" : Str)) = false := by decide) (hcd : (x == ("__classdict__" : Str)) = false := by decide) : PE X (.Name x pos) (lift P m (ev Φ (.vw i))) := by
  refine PE.imp (pe_var (i := i) (by rw [C.hN]; exact hN) (by rw [C.hs]; exact hv) hd hcd) fun σ H Q ⟨e, R, p⟩ => ?_
  simp only [ev] at p
  have top : ∀ {a : Addr}, Owns e σ a → ¬ av0 P e σ m a := fun {a} ow z => by
    match m, hm with
    | 0, _ => exact R.own_av ow z
    | 1, _ => exact R.own_av ow z
  have in1 : ∀ a, av1 P e σ m a → avo P e σ a := fun a z => by
    match m with
    | 0 => exact .inl z
    | _ + 1 => exact z
  cases q : e[i]? with
  | none => rw [q] at p; exact p.elim
  | some s =>
    rw [q] at p
    obtain ⟨o, h1, h2⟩ := R.at q
    cases s with
    | d x =>
      obtain ⟨v, rfl, dd⟩ := h2
      exact ⟨v, h1, p v H (Same.refl H) dd.mm⟩
    | ol xs =>
      obtain ⟨a, ys, rfl, ha, dd⟩ := h2
      exact ⟨.ref a, h1, p _ H (Same.refl H) ⟨a, ys, rfl, .inl (.inl ha), .inl (top ⟨i, _, q, rfl, h1⟩), dd.imp (fun _ _ z => z) fun a _ => in1 a⟩⟩
    | od xs =>
      obtain ⟨a, ys, rfl, ha, dd⟩ := h2
      exact ⟨.ref a, h1, p _ H (Same.refl H) ⟨a, ys, rfl, .inl ha, top ⟨i, _, q, rfl, h1⟩, dd.imp (fun _ _ z => z) fun a _ => in1 a⟩⟩
    | un => exact p.elim
theorem se_c {v : V} {d : D} (h : PE X a (tC v)) (hd : ∀ (av : Addr → Prop) (H : Hp), Den P.K av H v d) : PE X a (lift P m (ev Φ (.con d))) :=
  PE.imp h fun σ H Q ⟨e, R, p⟩ => by
    simp only [ev] at p
    exact p v H (Same.refl H) (DenM.up (hd _ _))
theorem se_int {i : Int} {j : Nat} : PE X (.Constant (.int i) j pos) (lift P m (ev Φ (.con (.int i)))) := se_c pe_int fun _ _ => .int i
theorem se_bl {i : Bool} {j : Nat} : PE X (.Constant (.bool i) j pos) (lift P m (ev Φ (.con (.bool i)))) := se_c pe_bl fun _ _ => .bool i
theorem se_non {j : Nat} : PE X (.Constant .none j pos) (lift P m (ev Φ (.con .none))) := se_c pe_non fun _ _ => .none
theorem se_str {i : Str} {j : Nat} : PE X (.Constant (.str i) j pos) (lift P m (ev Φ (.con (.str i)))) := se_c pe_str fun _ _ => .str i
theorem se_glob {v : V} {d : D} {u : Value} {x : Str} (hg : X.env.kindOf x = some .globalImplicit) (hm : X.mg x = some u) (r : L2.RelV v u) (hd : ∀ (av : Addr → Prop) (H : Hp), Den P.K av H v d) (hdb : (x == ("__debug__" : Str)) = false := by decide) : PE X (.Name x pos) (lift P m (ev Φ (.con d))) := se_c (pe_glob hg hm r hdb) hd

/-! operations -/
theorem se_bin (C : Ctx X P N sc) (op : BOp) (ha : PE X a (lift P (sub m) (ev Φ A))) (hb : PE X b (lift P (sub m) (ev Φ B))) :
    PE X (.BinOp a (bOp op) b pos) (liftN P m (ev Φ (.bin op A B))) := by
  have o := op_binD (X := X) op
  rw [C.hK] at o
  refine PE.imp (pe_op o ha hb) fun σ H Q ⟨e, R, p⟩ => ⟨e, R, ?_⟩
  simp only [ev] at p
  refine Post.weaken (bindZ (α := D) (m := sub m) gdPostN R p) fun v H1 ⟨x, _, s1, R1, d1, p1⟩ => ⟨e, R1, ?_⟩
  refine Post.weaken (bindZ (α := D) (m := sub m) gdPostN R1 p1) fun w H2 ⟨y, _, s2, R2, d2, p2⟩ => ?_
  cases q : binD op x y with
  | none => rw [q] at p2; exact p2.elim
  | some d =>
    rw [q] at p2
    have d1' := d1.same s2
    unfold DenM at d1' d2
    rw [av1_sub] at d1' d2
    exact ⟨_, _, _, x, y, d, d1', d2, q, fun z H' s hz => p2 z H' s hz⟩
theorem bl_m {e : Sl} {σ : L2.St} {H : Hp} {i : Bool} : DenM P e σ m H (.bl i) (.bool i) := DenM.up (.bool i)
theorem int_m {e : Sl} {σ : L2.St} {H : Hp} {i : Int} : DenM P e σ m H (.int i) (.int i) := DenM.up (.int i)
theorem se_cmp (C : Ctx X P N sc) (op : COp) (ha : PE X a (lift P 0 (ev Φ A))) (hb : PE X b (lift P 0 (ev Φ B))) (hm : behindInMarks (cOp op) b = false) :
    PE X (.Compare a [cOp op] [b] pos) (lift P m (ev Φ (.cmp op A B))) := by
  have o := op_cmpD (X := X) C.un op
  rw [C.hK] at o
  refine PE.imp (pe_cmpR o ha hb hm) fun σ H Q ⟨e, R, p⟩ => ⟨e, R, ?_⟩
  simp only [ev] at p
  refine Post.weaken (bindZ (α := D) (m := 0) gdPost R p) fun v H1 ⟨x, _, s1, R1, d1, p1⟩ => ⟨e, R1, ?_⟩
  refine Post.weaken (bindZ (α := D) (m := 0) gdPost R1 p1) fun w H2 ⟨y, _, s2, R2, d2, p2⟩ => ?_
  cases q : cmpD op x y with
  | none => rw [q] at p2; exact p2.elim
  | some d =>
    rw [q] at p2
    exact ⟨_, _, _, x, y, d, d1.same s2, d2, q, p2 _ H2 (Same.refl _) bl_m⟩
theorem st_cmp (C : Ctx X P N sc) (op : COp) (ha : PE X a (lift P 0 (ev Φ A))) (hb : PE X b (lift P 0 (ev Φ B))) (hm : behindInMarks (cOp op) b = false) :
    PT X (.Compare a [cOp op] [b] pos) (liftT P (ev Φ (.cmp op A B))) := by
  have o := op_cmpD (X := X) C.un op
  rw [C.hK] at o
  refine PT.imp (pt_cmpR o ha hb hm) fun σ H Q ⟨e, R, p⟩ => ⟨e, R, ?_⟩
  simp only [ev] at p
  refine Post.weaken (bindZ (α := D) (m := 0) gdPostT R p) fun v H1 ⟨x, _, s1, R1, d1, p1⟩ => ⟨e, R1, ?_⟩
  refine Post.weaken (bindZ (α := D) (m := 0) gdPostT R1 p1) fun w H2 ⟨y, _, s2, R2, d2, p2⟩ => ?_
  cases q : cmpD op x y with
  | none => rw [q] at p2; exact p2.elim
  | some d =>
    rw [q] at p2
    exact ⟨_, _, _, x, y, d, d1.same s2, d2, q, d, rfl, p2 H2 (Same.refl _)⟩
theorem se_chain (C : Ctx X P N sc) (o1 o2 : COp) (ha : PE X a (lift P 0 (ev Φ A))) (hb : PE X b (lift P 0 (ev Φ B))) (hc : PE X c (lift P 0 (ev Φ E))) (hm : lastMarks [cOp o1, cOp o2] [b, c] = false) :
    PE X (.Compare a [cOp o1, cOp o2] [b, c] pos) (lift P m (ev Φ (.chain o1 o2 A B E))) := by
  have w1 := op_cmpD (X := X) C.un o1
  have w2 := op_cmpD (X := X) C.un o2
  rw [C.hK] at w1 w2
  refine PE.imp (pe_chain w1 w2 ha hb hc hm) fun σ H Q ⟨e, R, p⟩ => ⟨e, R, ?_⟩
  simp only [ev] at p
  refine Post.weaken (bindZ (α := D) (m := 0) gdPost R p) fun v H1 ⟨x, _, s1, R1, d1, p1⟩ => ⟨e, R1, ?_⟩
  refine Post.weaken (bindZ (α := D) (m := 0) gdPost R1 p1) fun w H2 ⟨y, _, s2, R2, d2, p2⟩ => ?_
  cases q : cmpD o1 x y with
  | none => rw [q] at p2; exact p2.elim
  | some k =>
    rw [q] at p2
    refine ⟨_, _, _, x, y, k, d1.same s2, d2, q, k, rfl, ?_⟩
    cases k with
    | false => exact p2 _ H2 (Same.refl _) bl_m
    | true =>
      refine ⟨e, R2, ?_⟩
      refine Post.weaken (bindZ (α := D) (m := 0) gdPost R2 p2) fun u H3 ⟨z, _, s3, R3, d3, p3⟩ => ?_
      cases q3 : cmpD o2 y z with
      | none => rw [q3] at p3; exact p3.elim
      | some d =>
        rw [q3] at p3
        exact ⟨_, _, _, y, z, d, d2.same s3, d3, q3, p3 _ H3 (Same.refl _) bl_m⟩
/-- a bool's value as a test -/
theorem st_val {f : Sl → Res D} (h : PE X a (lift P 2 f)) (he : ∀ whole, PySem.isTrue a X.env whole = (do let v ← whole; standAt a.pos; holding [v] (truthy v)) := by intro _; rfl) : PT X a (liftT P f) :=
  PT.imp (pt_val h he) fun σ H Q ⟨e, R, p⟩ => ⟨e, R, by
    cases q : f e with
    | ok d =>
      rw [q] at p
      cases d with
      | bool k => exact fun v H' s hd => ⟨k, d2_bool hd, p H' s⟩
      | _ => exact p.elim
    | ex c => rw [q] at p; exact p
    | stuck => rw [q] at p; exact p⟩
theorem PostT.weaken {σ : L2.St} {H : Hp} {Q Q' : Bool → Hp → Prop} {r : Res D} (h : PostT P σ H Q r) (w : ∀ k H', Q k H' → Q' k H') : PostT P σ H Q' r := by
  cases r with
  | ok d => cases d with
    | bool k => exact fun H' s => w _ _ (h H' s)
    | _ => exact h.elim
  | ex c => exact h
  | stuck => exact h
/-- a test evaluated -/
theorem bindT' {β : Type} {Z : Hp → Res β → Prop} {e : Sl} {σ : L2.St} {H : Hp} (gd : Gd P σ Z) (R : Rel P e σ H) {F : D → Res β} {r : Res D} (hF : ∀ d, (∀ k, d ≠ .bool k) → F d = .stuck) (h : Z H (r.bind F)) :
    PostT P σ H (fun k H1 => r = .ok (.bool k) ∧ Same H H1 ∧ Rel P e σ H1 ∧ Z H1 (F (.bool k))) r := by
  cases r with
  | ok d =>
    cases d with
    | bool k => exact fun H1 s => ⟨rfl, s, R.same s, gd.back s h⟩
    | none => exact gd.no (by have := hF .none (fun _ z => nomatch z); rw [← this]; exact h)
    | int i => exact gd.no (by have := hF (.int i) (fun _ z => nomatch z); rw [← this]; exact h)
    | str i => exact gd.no (by have := hF (.str i) (fun _ z => nomatch z); rw [← this]; exact h)
    | list i => exact gd.no (by have := hF (.list i) (fun _ z => nomatch z); rw [← this]; exact h)
    | tuple i => exact gd.no (by have := hF (.tuple i) (fun _ z => nomatch z); rw [← this]; exact h)
    | dict i => exact gd.no (by have := hF (.dict i) (fun _ z => nomatch z); rw [← this]; exact h)
  | ex c => exact gd.ex h
  | stuck => exact gd.no h
theorem se_ite (hc : PT X c (liftT P (ev Φ E))) (ha : PE X a (lift P m (ev Φ A))) (hb : PE X b (lift P m (ev Φ B))) : PE X (.IfExp c a b pos) (lift P m (ev Φ (.ite E A B))) := by
  refine PE.imp (pe_ifExp hc ha hb) fun σ H Q ⟨e, R, p⟩ => ⟨e, R, ?_⟩
  simp only [ev] at p
  refine PostT.weaken (bindT' (gdPost (m := m)) R (fun d hd => ?_) p) fun k H1 ⟨_, s, R1, z⟩ => ?_
  · cases d with
    | bool k => exact absurd rfl (hd k)
    | _ => rfl
  · cases k with
    | true => exact ⟨e, R1, z⟩
    | false => exact ⟨e, R1, z⟩
theorem st_and {rest : List Expr} (ha : PT X a (liftT P (ev Φ A))) (hb : PW X (.BoolOp .And (b :: rest) pos) (liftT P (ev Φ B))) : PW X (.BoolOp .And (a :: b :: rest) pos) (liftT P (ev Φ (.and A B))) := by
  refine PW.imp (pw_and ha hb) fun σ H Q ⟨e, R, p⟩ => ⟨e, R, ?_⟩
  simp only [ev] at p
  refine PostT.weaken (bindT' (gdPostT) R (fun d hd => ?_) p) fun k H1 ⟨_, s, R1, z⟩ => ?_
  · cases d with
    | bool k => exact absurd rfl (hd k)
    | _ => rfl
  · cases k with
    | true => exact ⟨e, R1, z⟩
    | false => exact z H1 (Same.refl _)
theorem st_or {rest : List Expr} (ha : PT X a (liftT P (ev Φ A))) (hb : PW X (.BoolOp .Or (b :: rest) pos) (liftT P (ev Φ B))) : PW X (.BoolOp .Or (a :: b :: rest) pos) (liftT P (ev Φ (.or A B))) := by
  refine PW.imp (pw_or ha hb) fun σ H Q ⟨e, R, p⟩ => ⟨e, R, ?_⟩
  simp only [ev] at p
  refine PostT.weaken (bindT' (gdPostT) R (fun d hd => ?_) p) fun k H1 ⟨_, s, R1, z⟩ => ?_
  · cases d with
    | bool k => exact absurd rfl (hd k)
    | _ => rfl
  · cases k with
    | true => exact z H1 (Same.refl _)
    | false => exact ⟨e, R1, z⟩
theorem st_and1 {f : Sl → Res D} (ha : PT X a (liftT P f)) : PW X (.BoolOp .And [a] pos) (liftT P f) := pw_and1 ha
theorem st_or1 {f : Sl → Res D} (ha : PT X a (liftT P f)) : PW X (.BoolOp .Or [a] pos) (liftT P f) := pw_or1 ha
theorem se_one {op : BoolOp} {f : Sl → Res D} (ha : PE X a (lift P m f)) : PE X (.BoolOp op [a] pos) (lift P m f) := pe_one ha
theorem st_chain (C : Ctx X P N sc) (o1 o2 : COp) (ha : PE X a (lift P 0 (ev Φ A))) (hb : PE X b (lift P 0 (ev Φ B))) (hc : PE X c (lift P 0 (ev Φ E))) (hm : lastMarks [cOp o1, cOp o2] [b, c] = false) :
    PT X (.Compare a [cOp o1, cOp o2] [b, c] pos) (liftT P (ev Φ (.chain o1 o2 A B E))) := by
  have w1 := op_cmpD (X := X) C.un o1
  have w2 := op_cmpD (X := X) C.un o2
  rw [C.hK] at w1 w2
  refine PT.imp (pt_chain w1 w2 ha hb hc hm) fun σ H Q ⟨e, R, p⟩ => ⟨e, R, ?_⟩
  simp only [ev] at p
  refine Post.weaken (bindZ (α := D) (m := 0) gdPostT R p) fun v H1 ⟨x, _, s1, R1, d1, p1⟩ => ⟨e, R1, ?_⟩
  refine Post.weaken (bindZ (α := D) (m := 0) gdPostT R1 p1) fun w H2 ⟨y, _, s2, R2, d2, p2⟩ => ?_
  cases q : cmpD o1 x y with
  | none => rw [q] at p2; exact p2.elim
  | some k =>
    rw [q] at p2
    refine ⟨_, _, _, x, y, k, d1.same s2, d2, q, k, rfl, ?_⟩
    cases k with
    | false => exact ⟨false, rfl, p2 _ (Same.refl _)⟩
    | true =>
      refine ⟨e, R2, ?_⟩
      refine Post.weaken (bindZ (α := D) (m := 0) gdPostT R2 p2) fun u H3 ⟨z, _, s3, R3, d3, p3⟩ => ?_
      cases q3 : cmpD o2 y z with
      | none => rw [q3] at p3; exact p3.elim
      | some d =>
        rw [q3] at p3
        exact ⟨_, _, _, y, z, d, d2.same s3, d3, q3, d, rfl, p3 _ (Same.refl _)⟩
theorem st_not (ha : PT X a (liftT P (ev Φ A))) : PT X (.UnaryOp .Not a pos) (liftT P (ev Φ (.not A))) := by
  refine PT.imp (pt_not ha) fun σ H Q ⟨e, R, p⟩ => ⟨e, R, ?_⟩
  simp only [ev] at p
  refine PostT.weaken (bindT' (gdPostT) R (fun d hd => ?_) p) fun k H1 ⟨_, s, R1, z⟩ => ?_
  · cases d with
    | bool k => exact absurd rfl (hd k)
    | _ => rfl
  · exact z H1 (Same.refl _)
/-- a bool evaluated -/
theorem bindB {β : Type} {Z : Hp → Res β → Prop} {e : Sl} {σ : L2.St} {H : Hp} (gd : Gd P σ Z) (R : Rel P e σ H) {F : D → Res β} {r : Res D} (hF : ∀ d, (∀ k, d ≠ .bool k) → F d = .stuck) (h : Z H (r.bind F)) :
    Post P e σ m H (fun v H1 => ∃ k, v = .bl k ∧ Same H H1 ∧ Rel P e σ H1 ∧ Z H1 (F (.bool k))) r := by
  cases r with
  | ok d =>
    cases d with
    | bool k => exact fun v H1 s hd => ⟨k, d2_bool hd, s, R.same s, gd.back s h⟩
    | none => exact (gd.no (by have := hF .none (fun _ z => nomatch z); rw [← this]; exact h)).elim
    | int i => exact (gd.no (by have := hF (.int i) (fun _ z => nomatch z); rw [← this]; exact h)).elim
    | str i => exact (gd.no (by have := hF (.str i) (fun _ z => nomatch z); rw [← this]; exact h)).elim
    | list i => exact (gd.no (by have := hF (.list i) (fun _ z => nomatch z); rw [← this]; exact h)).elim
    | tuple i => exact (gd.no (by have := hF (.tuple i) (fun _ z => nomatch z); rw [← this]; exact h)).elim
    | dict i => exact (gd.no (by have := hF (.dict i) (fun _ z => nomatch z); rw [← this]; exact h)).elim
  | ex c => exact gd.ex h
  | stuck => exact gd.no h
theorem se_and {rest : List Expr} (ha : PE X a (lift P 0 (ev Φ A))) (hb : PE X (.BoolOp .And (b :: rest) pos) (lift P m (ev Φ B))) : PE X (.BoolOp .And (a :: b :: rest) pos) (lift P m (ev Φ (.and A B))) := by
  refine PE.imp (pe_and ha hb) fun σ H Q ⟨e, R, p⟩ => ⟨e, R, ?_⟩
  simp only [ev] at p
  refine Post.weaken (bindB (m := 0) (gdPost (m := m)) R (fun d hd => ?_) p) fun v H1 ⟨k, hv, s, R1, z⟩ => ⟨k, hv, ?_⟩
  · cases d with
    | bool k => exact absurd rfl (hd k)
    | _ => rfl
  · cases k with
    | true => exact ⟨e, R1, z⟩
    | false => exact z _ H1 (Same.refl _) bl_m
theorem se_or {rest : List Expr} (ha : PE X a (lift P 0 (ev Φ A))) (hb : PE X (.BoolOp .Or (b :: rest) pos) (lift P m (ev Φ B))) : PE X (.BoolOp .Or (a :: b :: rest) pos) (lift P m (ev Φ (.or A B))) := by
  refine PE.imp (pe_or ha hb) fun σ H Q ⟨e, R, p⟩ => ⟨e, R, ?_⟩
  simp only [ev] at p
  refine Post.weaken (bindB (m := 0) (gdPost (m := m)) R (fun d hd => ?_) p) fun v H1 ⟨k, hv, s, R1, z⟩ => ⟨k, hv, ?_⟩
  · cases d with
    | bool k => exact absurd rfl (hd k)
    | _ => rfl
  · cases k with
    | true => exact z _ H1 (Same.refl _) bl_m
    | false => exact ⟨e, R1, z⟩
theorem se_not (ha : PE X a (lift P 0 (ev Φ A))) : PE X (.UnaryOp .Not a pos) (lift P m (ev Φ (.not A))) := by
  refine PE.imp (pe_not ha) fun σ H Q ⟨e, R, p⟩ => ⟨e, R, ?_⟩
  simp only [ev] at p
  refine Post.weaken (bindB (m := 0) (gdPost (m := m)) R (fun d hd => ?_) p) fun v H1 ⟨k, hv, s, R1, z⟩ => ⟨k, hv, ?_⟩
  · cases d with
    | bool k => exact absurd rfl (hd k)
    | _ => rfl
  · exact z _ H1 (Same.refl _) bl_m
theorem se_neg (ha : PE X a (lift P 0 (ev Φ A))) : PE X (.UnaryOp .USub a pos) (lift P m (ev Φ (.neg A))) := by
  refine PE.imp (pe_un un_neg ha) fun σ H Q ⟨e, R, p⟩ => ⟨e, R, ?_⟩
  simp only [ev] at p
  refine Post.weaken (bindZ (α := D) (m := 0) gdPost R p) fun v H1 ⟨x, _, s1, R1, d1, p1⟩ => ?_
  cases x with
  | int i => exact ⟨i, d2_int d1, p1 _ H1 (Same.refl _) int_m⟩
  | _ => exact p1.elim

/-! ### argument lists, displays -/
theorem ses_nil : PA X [] (lifts P m (evs Φ [])) := PA.imp pa_nil fun σ H Q ⟨e, R, p⟩ => by
  simp only [evs] at p
  exact p [] H (Same.refl _) trivial
theorem ses_cons (ha : PE X a (lift P m (ev Φ A))) (hr : PA X es (lifts P m (evs Φ ES))) (hs : starEach (a :: es) X.env = (false, eval a X.env) :: starEach es X.env := by rfl) : PA X (a :: es) (lifts P m (evs Φ (A :: ES))) := by
  refine PA.imp (pa_cons ha hr hs) fun σ H Q ⟨e, R, p⟩ => ⟨e, R, ?_⟩
  simp only [evs] at p
  refine Post.weaken (bindZ (α := D) (m := m) (gdPosts (m := m)) R p) fun v H1 ⟨x, _, s1, R1, d1, p1⟩ => ⟨e, R1, ?_⟩
  refine Posts.weaken (bindZs (m := m) (gdPosts (m := m)) R1 p1) fun vs H2 ⟨xs, _, s2, R2, d2, p2⟩ => ?_
  exact p2 (v :: vs) H2 (Same.refl _) ⟨d1.same s2, d2⟩
theorem DenMs.len {e : Sl} {σ : L2.St} {H : Hp} : ∀ {vs : List V} {ds : List D}, DenMs P e σ m H vs ds → vs.length = ds.length
  | [], [], _ => rfl
  | _ :: _, _ :: _, h => congrArg (· + 1) (DenMs.len h.2)
  | [], _ :: _, h => h.elim
  | _ :: _, [], h => h.elim
/-- the items' mode of a display -/
def cm : Nat → Nat
  | 0 => 0
  | _ => 2
theorem cm_av1 {e : Sl} {σ : L2.St} : av1 P e σ (cm m) = av1 P e σ m := by cases m <;> rfl
theorem DenMs.dens {e : Sl} {σ : L2.St} {H : Hp} {vs : List V} {ds : List D} (h : DenMs P e σ (cm m) H vs ds) : Dens P.K (av1 P e σ m) H vs ds := by
  cases m with
  | zero => exact h.weak
  | succ n => exact h.d2
theorem DenMs.dena {e : Sl} {σ : L2.St} {H : Hp} : ∀ {vs : List V} {ds : List D}, DenMs P e σ m H vs ds → DenA P.K (av1 P e σ m) H vs ds
  | [], [], _ => trivial
  | _ :: _, _ :: _, h => ⟨⟨_, h.1⟩, DenMs.dena h.2⟩
  | [], _ :: _, h => h.elim
  | _ :: _, [], h => h.elim
theorem se_tup {k : Nat} (hn : ES.length ≤ 1000) (ha : PA X es (lifts P (cm m) (evs Φ ES))) : PE X (.Tuple es k pos) (lift P m (ev Φ (.tup ES))) := by
  refine PE.imp (pe_tup ha) fun σ H Q ⟨e, R, p⟩ => ⟨e, R, ?_⟩
  simp only [ev] at p
  refine Posts.weaken (bindZs (m := cm m) (gdPost (m := m)) R p) fun vs H1 ⟨xs, hx, s1, R1, d1, p1⟩ => ⟨?_, fun q no => ?_⟩
  · rw [d1.len, evs_len hx]
    exact Nat.le_trans hn (by decide)
  · exact p1 _ _ (same_upd no) (DenM.up (new_tup no d1.dens))
theorem se_lst (hn : ES.length ≤ 1000) (ha : PA X es (lifts P (cm m) (evs Φ ES))) : PE X (.List es pos) (liftN P m (ev Φ (.lst ES))) := by
  refine PE.imp (pe_lst ha) fun σ H Q ⟨e, R, p⟩ => ⟨e, R, ?_⟩
  simp only [ev] at p
  refine Posts.weaken (bindZs (m := cm m) (gdPostN (m := m)) R p) fun vs H1 ⟨xs, hx, s1, R1, d1, p1⟩ => ⟨?_, fun q no => ?_⟩
  · rw [d1.len, evs_len hx]
    exact Nat.le_trans hn (by decide)
  · exact p1 _ _ (same_upd no) (new_lst no d1.dens)
theorem se_emp : PE X (.Dict [] [] pos) (liftN P m (ev Φ .emp)) := by
  refine PE.imp pe_dnewK fun σ H Q ⟨e, R, p⟩ q no => ?_
  simp only [ev] at p
  exact p _ _ (same_upd no) (new_dct no .nil)
theorem se_idx (C : Ctx X P N sc) (ha : PE X a (lift P (sub m) (ev Φ A))) (hb : PE X b (lift P 0 (ev Φ B))) (hp : PlainIx b) : PE X (.Subscript a b pos) (lift P m (ev Φ (.idx A B))) := by
  have o := ixD (X := X) C.u1
  rw [C.hK] at o
  refine PE.imp (pe_ix o ha hb hp) fun σ H Q ⟨e, R, p⟩ => ⟨e, R, ?_⟩
  simp only [ev] at p
  refine Post.weaken (bindZ (α := D) (m := sub m) gdPost R p) fun v H1 ⟨x, _, s1, R1, d1, p1⟩ => ⟨e, R1, ?_⟩
  refine Post.weaken (bindZ (α := D) (m := 0) gdPost R1 p1) fun w H2 ⟨y, _, s2, R2, d2, p2⟩ => ?_
  cases q : idxD x y with
  | none => rw [q] at p2; exact p2.elim
  | some d =>
    rw [q] at p2
    have d1' := d1.same s2
    unfold DenM at d1'
    rw [av1_sub] at d1'
    exact ⟨_, _, _, _, x, y, d, d1', d2, q, fun z hz => p2 z H2 (Same.refl _) (DenM.up hz)⟩
/-- a slice's bound -/
def evo (Φ : FT) (A : Exp) (e : Sl) : Res (Option Int) := if A.isNop then .ok none else (ev Φ A e).bind partD
def PostO (P : Pk) (σ : L2.St) (H : Hp) (Q : Option Int → Hp → Prop) : Res (Option Int) → Prop
  | .ok o => ∀ H', Same H H' → Q o H'
  | .ex c => ∀ H', Same H H' → P.W (.ref (P.ca c)) none σ H'
  | .stuck => False
def liftO (P : Pk) (f : Sl → Res (Option Int)) : L2.TO := fun σ H Q => ∃ e, Rel P e σ H ∧ PostO P σ H Q (f e)
theorem so_none : PO X none (liftO P (evo Φ .nop)) := ⟨fun pins s σ H Q I ⟨e, R, p⟩ => (po_none (X := X)).run pins s σ H Q I (p H (Same.refl _))⟩
theorem so_some (ha : PE X a (lift P 0 (ev Φ A))) (hA : A.isNop = false := by rfl) : PO X (some a) (liftO P (evo Φ A)) := ⟨fun pins s σ H Q I ⟨e, R, p⟩ => by
  refine (po_some ha).run pins s σ H Q I ⟨e, R, ?_⟩
  unfold evo at p
  rw [hA, if_neg (by decide)] at p
  cases q : ev Φ A e with
  | ok d =>
    rw [q] at p
    cases d with
    | int i => exact fun v H' s hd => ⟨i, d2_int hd, p H' s⟩
    | _ => exact p.elim
  | ex c => rw [q] at p; exact p
  | stuck => rw [q] at p; exact p⟩
theorem bindO {β : Type} {Z : Hp → Res β → Prop} {e : Sl} {σ : L2.St} {H : Hp} (gd : Gd P σ Z) (R : Rel P e σ H) {F : Option Int → Res β} {r : Res (Option Int)} (h : Z H (r.bind F)) :
    PostO P σ H (fun o H1 => Same H H1 ∧ Rel P e σ H1 ∧ Z H1 (F o)) r := by
  cases r with
  | ok d => exact fun H1 s => ⟨s, R.same s, gd.back s h⟩
  | ex c => exact gd.ex h
  | stuck => exact gd.no h
theorem PostO.weaken {σ : L2.St} {H : Hp} {Q Q' : Option Int → Hp → Prop} {r : Res (Option Int)} (h : PostO P σ H Q r) (w : ∀ k H', Q k H' → Q' k H') : PostO P σ H Q' r := by
  cases r with
  | ok d => exact fun H' s => w _ _ (h H' s)
  | ex c => exact h
  | stuck => exact h
theorem se_sl (C : Ctx X P N sc) {lo hi : Option Expr} {p2 : Pos} {L U : Exp} (ha : PE X a (lift P (sub m) (ev Φ A))) (hl : PO X lo (liftO P (evo Φ L))) (hh : PO X hi (liftO P (evo Φ U))) :
    PE X (.Subscript a (.Slice lo hi none p2) pos) (liftN P m (ev Φ (.sl A L U))) := by
  have o := slD (X := X)
  rw [C.hK] at o
  refine PE.imp (pe_slice o ha hl hh) fun σ H Q ⟨e, R, p⟩ => ⟨e, R, ?_⟩
  simp only [ev] at p
  refine Post.weaken (bindZ (α := D) (m := sub m) gdPostN R p) fun v H1 ⟨x, _, s1, R1, d1, p1⟩ => ⟨e, R1, ?_⟩
  refine PostO.weaken (bindO (r := evo Φ L e) gdPostN R1 p1) fun l H2 ⟨s2, R2, p2⟩ => ⟨e, R2, ?_⟩
  refine PostO.weaken (bindO (r := evo Φ U e) gdPostN R2 p2) fun u H3 ⟨s3, R3, p3⟩ => ?_
  cases q : sliceD x l u with
  | none => rw [q] at p3; exact p3.elim
  | some d =>
    rw [q] at p3
    have d1' := (d1.same s2).same s3
    unfold DenM at d1'
    rw [av1_sub] at d1'
    exact ⟨_, _, x, d, d1', q, fun z H' s hz => p3 z H' s hz⟩
/-! ### calls -/
theorem se_call (C : Ctx X P N sc) {x : Str} {F : Nat} {p : Pos} (fn : Fn1 X.prog X.w X.K X.mg X.base X.A P.ca Φ x F) (hg : X.env.kindOf x = some .globalImplicit) (ha : PA X (a :: es) (lifts P (cm m) (evs Φ ES))) (hdb : (x == ("__debug__" : Str)) = false := by decide)
    (he : starEach (a :: es) X.env = (false, eval a X.env) :: starEach es X.env := by rfl) (hpl : (backTo pos (starEach es X.env)).any (·.1) = false := by rfl) :
    PE X (.Call (.Name x p) (a :: es) [] pos) (lift P m (ev Φ (.call F ES))) := by
  obtain ⟨k, fA, fd, ps, ok, hr, hm, hk, hb⟩ := fn.ex
  refine PE.imp (pe_callS ok hr hg hm hk hb (fun σ => passAt C.tk σ) ha hdb he hpl) fun σ H Q ⟨e, R, p⟩ => ⟨e, R, ?_⟩
  simp only [ev] at p
  refine Posts.weaken (bindZs (m := cm m) (gdPost (m := m)) R p) fun vs H1 ⟨xs, hx, s1, R1, d1, p1⟩ => ?_
  refine ⟨av1 P e σ m, xs, fun a z => ?_, by rw [C.hK]; exact d1.dens, ?_⟩
  · match m with
    | 0 => exact R1.av_ne (.inl z)
    | _ + 1 => exact R1.av_ne z
  · cases q : Φ F xs with
    | ok d => rw [q] at p1; exact fun v H' s hd => p1 v H' s (DenM.up (by rw [C.hK] at hd; exact hd))
    | ex c => rw [q] at p1; exact p1
    | stuck => rw [q] at p1; exact p1.elim
theorem se_callv (C : Ctx X P N sc) {x : Str} {F : Nat} {p : Pos} (fn : Fn1 X.prog X.w X.K X.mg X.base X.A P.ca Φ x F) (hg : X.env.kindOf x = some .globalImplicit) (ha : PA X (a :: es) (lifts P 0 (evs Φ ES))) (hdb : (x == ("__debug__" : Str)) = false := by decide)
    (he : starEach (a :: es) X.env = (false, eval a X.env) :: starEach es X.env := by rfl) (hpl : (backTo pos (starEach es X.env)).any (·.1) = false := by rfl) :
    PE X (.Call (.Name x p) (a :: es) [] pos) (lift P m (ev Φ (.callv F ES))) := by
  refine PE.imp (se_call (m := 0) C fn hg ha hdb he hpl) fun σ H Q ⟨e, R, p⟩ => ⟨e, R, ?_⟩
  simp only [ev] at p ⊢
  cases q : evs Φ ES e with
  | ok xs =>
    simp only [q, Res.bind_ok] at p ⊢
    cases q2 : Φ F xs with
    | ok y =>
      simp only [q2, Res.bind_ok] at p ⊢
      cases q3 : noLst y with
      | true =>
        rw [q3, if_pos rfl] at p
        exact fun v H' s hd => p v H' s (hd.flat q3).mm
      | false => rw [q3, if_neg (by decide)] at p; exact p.elim
    | ex c => rw [q2] at p; exact p
    | stuck => rw [q2] at p; exact p.elim
  | ex c => rw [q] at p; exact p
  | stuck => rw [q] at p; exact p.elim
/-! ### built-ins -/
theorem tCB_of {σ : L2.St} {H : Hp} {Q : VK} {Bl : Blt} (h : liftN P m (ev Φ (.blt Bl ES)) σ H Q) : tCB (RCl P.K (bltD Bl)) (lifts P (sub m) (evs Φ ES)) σ H Q := by
  obtain ⟨e, R, p⟩ := h
  refine ⟨e, R, ?_⟩
  simp only [ev] at p
  refine Posts.weaken (bindZs (m := sub m) (gdPostN (m := m)) R p) fun vs H1 ⟨xs, hx, s1, R1, d1, p1⟩ => ?_
  cases q : bltD Bl xs with
  | none => rw [q] at p1; exact p1.elim
  | some d =>
    rw [q] at p1
    have da := d1.dena
    rw [av1_sub] at da
    exact ⟨_, xs, d, da, q, fun z H' s hz => p1 z H' s hz⟩
/-- a built-in function -/
theorem se_bltB (C : Ctx X P N sc) {x : Str} {p : Pos} {id : String} {Bl : Blt} (hc : CallR X (.builtin id) (RCl X.K (bltD Bl))) (hg : X.env.kindOf x = some .globalImplicit) (hm : X.mg x = none) (hv : bootBuiltins x = some (.builtin id))
    (ha : PA X (a :: es) (lifts P (sub m) (evs Φ ES))) (hn : x ≠ ("__name__" : Str) := by decide) (hdb : (x == ("__debug__" : Str)) = false := by decide)
    (he : starEach (a :: es) X.env = (false, eval a X.env) :: starEach es X.env := by rfl) (hpl : (backTo pos (starEach es X.env)).any (·.1) = false := by rfl) :
    PE X (.Call (.Name x p) (a :: es) [] pos) (liftN P m (ev Φ (.blt Bl ES))) := by
  rw [C.hK] at hc
  exact PE.imp (pe_callB hc hg hm hv ha hn hdb he hpl) fun σ H Q h => tCB_of h
/-- a built-in type -/
theorem se_bltT (C : Ctx X P N sc) {x : Str} {p : Pos} {T : String} {Bl : Blt} (hc : CallR X (.type T) (RCl X.K (bltD Bl))) (hg : X.env.kindOf x = some .globalImplicit) (hm : X.mg x = none) (hv : bootBuiltins x = some (.type T))
    (ha : PA X (a :: es) (lifts P (sub m) (evs Φ ES))) (hn : x ≠ ("__name__" : Str) := by decide) (hdb : (x == ("__debug__" : Str)) = false := by decide)
    (he : starEach (a :: es) X.env = (false, eval a X.env) :: starEach es X.env := by rfl) (hpl : (backTo pos (starEach es X.env)).any (·.1) = false := by rfl) :
    PE X (.Call (.Name x p) (a :: es) [] pos) (liftN P m (ev Φ (.blt Bl ES))) := by
  rw [C.hK] at hc
  exact PE.imp (pe_callTy hc hg hm hv ha hn hdb he hpl) fun σ H Q h => tCB_of h
/-- a result that holds no list is strong -/
theorem PE.flat {f : Sl → Res D} (hf : ∀ e d, f e = .ok d → noLst d = true) (h : PE X a (liftN P 0 f)) : PE X a (lift P m f) := Rf.PE.imp (Rf.PE.new h) fun σ H Q ⟨e, R, p⟩ => ⟨e, R, by
  cases q : f e with
  | ok d => rw [q] at p; exact fun v H' s hd => p v H' s (hd.flat (hf e d q)).mm
  | ex c => rw [q] at p; exact p
  | stuck => rw [q] at p; exact p⟩
def Blt.flat : Blt → Bool
  | .tuple => false
  | .list => false
  | .sorted => false
  | .dict => false
  | _ => true
theorem bltD_flat {Bl : Blt} (hB : Bl.flat = true) {ds : List D} {d : D} (h : bltD Bl ds = some d) : noLst d = true := by
  unfold bltD at h
  split at h <;> first
    | (exact absurd hB (by decide))
    | (simp only [Option.some.injEq] at h; subst h; rfl)
    | (split at h <;> first | (simp only [Option.some.injEq] at h; subst h; rfl) | (simp only [Option.map_eq_some_iff] at h; obtain ⟨_, _, rfl⟩ := h; rfl) | (exact absurd h (by simp)))
    | (simp only [Option.map_eq_some_iff] at h; obtain ⟨_, _, rfl⟩ := h; rfl)
    | (exact absurd h (by simp))
theorem se_flat {Bl : Blt} (hB : Bl.flat = true) (h : PE X a (liftN P 0 (ev Φ (.blt Bl ES)))) : PE X a (lift P m (ev Φ (.blt Bl ES))) := PE.flat (fun e d q => by
  simp only [ev] at q
  cases q1 : evs Φ ES e with
  | ok xs =>
    rw [q1] at q
    cases q2 : bltD Bl xs with
    | none => simp [q2] at q
    | some y =>
      simp only [Res.bind_ok, q2, Res.of_some, Res.ok.injEq] at q
      subst q
      exact bltD_flat hB q2
  | ex c => rw [q1] at q; simp at q
  | stuck => rw [q1] at q; simp at q) h
theorem binD_flat {op : BOp} {x y : D} (fx : noLst x = true) (fy : noLst y = true) {d : D} (h : binD op x y = some d) : noLst d = true := by
  unfold binD at h
  split at h <;> first
    | (simp only [Option.some.injEq] at h; subst h; rfl)
    | (simp [noLst] at fx; done)
    | (split at h <;> first
        | (simp only [Option.some.injEq] at h; subst h; rfl)
        | (simp only [Option.some.injEq] at h; subst h; simp only [noLst, noLsts, Bool.and_eq_true, List.cons_append] at fx fy ⊢; refine ⟨fx.1, ?_⟩; exact noLsts_append fx.2 fy)
        | (exact absurd h (by simp)))
    | (exact absurd h (by simp))
theorem se_isi (C : Ctx X P N sc) {x y : Str} {p py : Pos} {T : Nat} (hT : T < 5) (hx : x = "isinstance") (hg : X.env.kindOf x = some .globalImplicit) (hm : X.mg x = none)
    (hy : X.env.kindOf y = some .globalImplicit) (hmy : X.mg y = none) (hvy : bootBuiltins y = some (.type (tyN T))) (ha : PE X a (lift P 0 (ev Φ A)))
    (he : starEach [a, .Name y py] X.env = (false, eval a X.env) :: starEach [.Name y py] X.env := by rfl) (hpl : (backTo pos (starEach [.Name y py] X.env)).any (·.1) = false := by rfl)
    (he2 : starEach [.Name y py] X.env = (false, eval (.Name y py) X.env) :: starEach [] X.env := by rfl) (hn : y ≠ ("__name__" : Str) := by decide) (hdb : (y == ("__debug__" : Str)) = false := by decide) :
    PE X (.Call (.Name x p) [a, .Name y py] [] pos) (lift P m (ev Φ (.blt (.isi T) [A]))) := by
  subst hx
  have o := cl_isi (X := X) hT
  rw [C.hK] at o
  refine PE.imp (pe_callB o hg hm (by decide +kernel) (pa_cons ha (pa_cons (pe_bltn hy hmy hvy (v := .ty (tyN T)) rfl hn hdb) pa_nil he2) he) (by decide) (by decide) he hpl) fun σ H Q ⟨e, R, p⟩ => ⟨e, R, ?_⟩
  simp only [ev, evs] at p
  cases q : ev Φ A e with
  | ok d =>
    simp only [q, Res.bind_ok] at p
    refine fun v H1 s hd => ?_
    cases q2 : isiD T d with
    | none => simp only [bltD, q2, Option.map_none, Res.of_none] at p; exact p.elim
    | some b =>
      simp only [bltD, q2, Option.map_some, Res.of_some] at p
      exact ⟨v, _, _, d, b, rfl, hd, q2, p _ H1 s bl_m⟩
  | ex c => simp only [q, Res.bind_ex] at p; exact p
  | stuck => simp only [q, Res.bind_stuck] at p; exact p.elim

/-! ### methods -/
theorem se_m0 (C : Ctx X P N sc) (M : Mth) {o : Expr} {apos : Pos} (hM : M ≠ .get ∧ M ≠ .bits ∧ M ≠ .join) (ho : PE X o (lift P 0 (ev Φ A))) (hb : attributeBase o (mthN M) X.env (eval o X.env) = eval o X.env := by rfl) (hl : (apos.endLine == pos.line) = true := by rfl) :
    PE X (.Call (.Attribute o (mthN M) apos) [] [] pos) (lift P m (ev Φ (.mth M A []))) := by
  have w := pe_str0 (X := X) (pos := pos) M hM ho hb hl
  rw [C.hK] at w
  refine PE.imp w fun σ H Q ⟨e, R, p⟩ => ⟨e, R, ?_⟩
  simp only [ev, evs] at p
  refine Post.weaken (bindZ (α := D) (m := 0) gdPost R p) fun v H1 ⟨x, _, s1, R1, d1, p1⟩ => ?_
  simp only [Res.bind_ok] at p1
  cases x with
  | str z =>
    obtain rfl := d2_str d1
    have e1 : mthD M (.str z) [] = strM M z := by
      cases M with
      | get => exact absurd rfl hM.1
      | bits => exact absurd rfl hM.2.1
      | join => exact absurd rfl hM.2.2
      | _ => rfl
    rw [e1] at p1
    cases q : strM M z with
    | none => rw [q] at p1; exact p1.elim
    | some d => rw [q] at p1; exact ⟨⟨z, rfl⟩, z, rfl, d, rfl, q, fun w hw => p1 w H1 (Same.refl _) (DenM.up (hw.flat2 (strM_flat q)))⟩
  | _ =>
    cases M with
    | get => exact absurd rfl hM.1
    | bits => exact absurd rfl hM.2.1
    | join => exact absurd rfl hM.2.2
    | _ => exact p1.elim
theorem se_bits {o : Expr} {apos : Pos} (ho : PE X o (lift P 0 (ev Φ A))) (hb : attributeBase o "bit_length" X.env (eval o X.env) = eval o X.env := by rfl) (hl : (apos.endLine == pos.line) = true := by rfl) :
    PE X (.Call (.Attribute o "bit_length" apos) [] [] pos) (lift P m (ev Φ (.mth .bits A []))) := by
  refine PE.imp (pe_bits ho hb hl) fun σ H Q ⟨e, R, p⟩ => ⟨e, R, ?_⟩
  simp only [ev, evs] at p
  refine Post.weaken (bindZ (α := D) (m := 0) gdPost R p) fun v H1 ⟨x, _, s1, R1, d1, p1⟩ => ?_
  simp only [Res.bind_ok] at p1
  cases x with
  | int i => exact ⟨i, d2_int d1, p1 _ H1 (Same.refl _) int_m⟩
  | _ => exact p1.elim
theorem se_join (C : Ctx X P N sc) {o : Expr} {apos : Pos} {z : Str} (ho : PE X o (tC (.str z))) (ha : PE X a (lift P 0 (ev Φ B))) (he : starEach [a] X.env = [(false, eval a X.env)] := by rfl) (hb : attributeBase o "join" X.env (eval o X.env) = eval o X.env := by rfl) (hl : (apos.endLine == pos.line) = true := by rfl) :
    PE X (.Call (.Attribute o "join" apos) [a] [] pos) (lift P m (ev Φ (.mth .join (.con (.str z)) [B]))) := by
  refine PE.imp (pe_m1 PySem.F.slot_str_join PySem.F.type_str_join mt_join ho ha he hb hl) fun σ H Q ⟨e, R, p⟩ => ⟨⟨z, rfl⟩, e, R, ?_⟩
  simp only [ev, evs, Res.bind_ok] at p
  cases q : ev Φ B e with
  | ok y =>
    simp only [q, Res.bind_ok] at p
    intro w H2 s2 d2
    cases y with
    | list xs =>
      obtain ⟨b, ys, rfl, hr, dd⟩ := d2_lst d2
      simp only [mthD] at p
      cases q2 : allStrs xs with
      | none => simp only [q2, Option.bind_none, Res.of_none] at p; exact p.elim
      | some l =>
        simp only [q2, Option.bind_some] at p
        by_cases hz : (l.map (·.length)).sum + l.length * z.length ≤ line
        · rw [if_pos hz] at p
          rw [allStrs_of dd q2, ← C.hK] at hr
          exact ⟨z, b, l, rfl, rfl, .inl hr, Nat.le_trans hz (by decide), p _ H2 s2 (DenM.up (.str _))⟩
        · rw [if_neg hz] at p; exact p.elim
    | _ => exact p.elim
  | ex c => simp only [q, Res.bind_ex] at p; exact p
  | stuck => simp only [q, Res.bind_stuck] at p; exact p.elim
end
end Rf

set_option Elab.async false
set_option linter.all false
set_option maxRecDepth 100000
set_option maxHeartbeats 1000000
/-! Rf, part F: how the relation changes; targets, sources. -/
namespace Rf
open PySem PySem.Spec PyProof.Rows L2
section
variable {K : PySem.W.Frag} {av : Addr → Prop} {H : Hp} {a : Addr} {o : HO}
theorem upd_rd (hk : ∀ ys, H a ≠ some (.tup ys)) (hf : ∀ o u, H a ≠ some (.frz o u)) {b : Addr} {ys : List V} (h : Rd H b (.tup ys)) : Rd (upd H a o) b (.tup ys) := by
  have hb : b ≠ a := fun e => by
    subst e
    rcases h with h | ⟨o, h⟩
    · exact hk _ h
    · exact hf _ _ h
  rcases h with h | ⟨o, h⟩
  · exact .inl (by rw [upd_ne hb]; exact h)
  · exact .inr ⟨o, by rw [upd_ne hb]; exact h⟩
theorem upd_rd2 {b : Addr} {u : HO} (hb : b ≠ a) (h : Rd H b u) : Rd (upd H a o) b u := by
  rcases h with h | ⟨o, h⟩
  · exact .inl (by rw [upd_ne hb]; exact h)
  · exact .inr ⟨o, by rw [upd_ne hb]; exact h⟩
mutual
theorem Den.upd (hk : ∀ ys, H a ≠ some (.tup ys)) (hf : ∀ o u, H a ≠ some (.frz o u)) (ha : av a) : ∀ {v : V} {d : D}, Den K av H v d → Den K av (L2.upd H a o) v d
  | _, _, .none => .none
  | _, _, .bool b => .bool b
  | _, _, .int i => .int i
  | _, _, .str x => .str x
  | _, _, .list h n t => .list (n.elim (fun n => h.imp (upd_rd2 fun e => n (e ▸ ha)) id) .inr) n (Dens.upd hk hf ha t)
  | _, _, .tuple h t => .tuple (h.imp (upd_rd hk hf) id) (Dens.upd hk hf ha t)
  | _, _, .dict h n t => .dict (upd_rd2 (fun e => n (e ▸ ha)) h) n (DenKs.upd hk hf ha t)
theorem Dens.upd (hk : ∀ ys, H a ≠ some (.tup ys)) (hf : ∀ o u, H a ≠ some (.frz o u)) (ha : av a) : ∀ {v : List V} {d : List D}, Dens K av H v d → Dens K av (L2.upd H a o) v d
  | _, _, .nil => .nil
  | _, _, .cons x y => .cons (Den.upd hk hf ha x) (Dens.upd hk hf ha y)
theorem DenKs.upd (hk : ∀ ys, H a ≠ some (.tup ys)) (hf : ∀ o u, H a ≠ some (.frz o u)) (ha : av a) : ∀ {v : List (Key × V)} {d : List (D × D)}, DenKs K av H v d → DenKs K av (L2.upd H a o) v d
  | _, _, .nil => .nil
  | _, _, .cons x y => .cons (Den.upd hk hf ha x) (DenKs.upd hk hf ha y)
end
theorem SlotOk.imp {av' : Addr → Prop} (g : ∀ a, H a ≠ none → av' a → av a) : ∀ {s : Slot} {o : Option V}, SlotOk K av H s o → SlotOk K av' H s o
  | .un, _, _ => trivial
  | .d _, _, ⟨v, h, d⟩ => ⟨v, h, d.imp (fun _ _ z => z) g⟩
  | .ol _, _, ⟨a, ys, h, q, d⟩ => ⟨a, ys, h, q, d.imp (fun _ _ z => z) g⟩
  | .od _, _, ⟨a, ys, h, q, d⟩ => ⟨a, ys, h, q, d.imp (fun _ _ z => z) g⟩
end

section
variable {P : Pk} {e : Sl} {σ : L2.St} {H H' : Hp} {i : Nat}
theorem own_set_d {a : Addr} {s : Slot} {o : Option V} (hs : isOwn s = false) (h : Owns (e.set i s) (σ.set i o) a) : Owns e σ a := by
  obtain ⟨j, t, h1, h2, h3⟩ := h
  by_cases hj : i = j
  · subst hj
    rw [List.getElem?_set_self'] at h1
    cases q : e[i]? with
    | none => rw [q] at h1; simp at h1
    | some x => rw [q] at h1; simp only [Option.map_eq_map, Option.map_some, Function.const_apply, Option.some.injEq] at h1; subst h1; rw [hs] at h2; cases h2
  · rw [List.getElem?_set_ne hj] at h1 h3
    exact ⟨j, t, h1, h2, h3⟩
/-- a slot that takes what is not own -/
theorem Rel.set (R : Rel P e σ H) {s : Slot} {o : Option V} (hs : isOwn s = false) (hd : SlotOk P.K (avo P e σ) H s o) : Rel P (e.set i s) (σ.set i o) H where
  len := by rw [List.length_set, List.length_set, R.len]
  slot := fun j t o' h1 h2 => by
    have mono : ∀ b, avo P (e.set i s) (σ.set i o) b → avo P e σ b := fun b z => z.imp id (own_set_d hs)
    by_cases hj : i = j
    · subst hj
      rw [List.getElem?_set_self'] at h1 h2
      cases q : e[i]? with
      | none => rw [q] at h1; simp at h1
      | some x =>
        cases q2 : σ[i]? with
        | none => rw [q2] at h2; simp at h2
        | some y =>
          rw [q] at h1
          rw [q2] at h2
          simp only [Option.map_eq_map, Option.map_some, Function.const_apply, Option.some.injEq] at h1 h2
          subst h1 h2
          exact hd.imp fun a _ => mono a
    · rw [List.getElem?_set_ne hj] at h1 h2
      exact (R.slot j t o' h1 h2).imp fun a _ => mono a
  inj := fun j k s1 s2 a h1 h2 h3 h4 h5 h6 => by
    have get : ∀ {j : Nat} {t : Slot} {p : Option V}, (e.set i s)[j]? = some t → isOwn t = true → (σ.set i o)[j]? = some p → e[j]? = some t ∧ σ[j]? = some p := fun {j t p} h1 h2 h3 => by
      by_cases hj : i = j
      · subst hj
        rw [List.getElem?_set_self'] at h1
        cases q : e[i]? with
        | none => rw [q] at h1; simp at h1
        | some x => rw [q] at h1; simp only [Option.map_eq_map, Option.map_some, Function.const_apply, Option.some.injEq] at h1; subst h1; rw [hs] at h2; cases h2
      · rw [List.getElem?_set_ne hj] at h1 h3
        exact ⟨h1, h3⟩
    obtain ⟨a1, a2⟩ := get h1 h2 h5
    obtain ⟨b1, b2⟩ := get h3 h4 h6
    exact R.inj j k s1 s2 a a1 h2 b1 h4 a2 b2
  fr := R.fr
  new := fun a h => R.new a (own_set_d hs h)
theorem Rel.setD (R : Rel P e σ H) {x : D} {v : V} (hd : Den P.K (avo P e σ) H v x) : Rel P (e.set i (.d x)) (σ.set i (some v)) H := R.set rfl ⟨v, rfl, hd⟩
theorem own_set_new {a p : Addr} {s : Slot} (h : Owns (e.set i s) (σ.set i (some (.ref p))) a) : Owns e σ a ∨ a = p := by
  obtain ⟨j, t, h1, h2, h3⟩ := h
  by_cases hj : i = j
  · subst hj
    rw [List.getElem?_set_self'] at h3
    cases q : σ[i]? with
    | none => rw [q] at h3; simp at h3
    | some x =>
      rw [q] at h3
      simp only [Option.map_eq_map, Option.map_some, Function.const_apply, Option.some.injEq, V.ref.injEq] at h3
      exact .inr h3.symm
  · rw [List.getElem?_set_ne hj] at h1 h3
    exact .inl ⟨j, t, h1, h2, h3⟩
/-- a slot that takes a new list or dict as its own -/
theorem Rel.setNew (R : Rel P e σ H) {s : Slot} {p : Addr} (hp : H p = none) (sm : Same H H') (hs : SlotOk P.K (fun a => avo P e σ a ∨ a = p) H' s (some (.ref p))) : Rel P (e.set i s) (σ.set i (some (.ref p))) H' where
  len := by rw [List.length_set, List.length_set, R.len]
  slot := fun j t o' h1 h2 => by
    have mono : ∀ b, avo P (e.set i s) (σ.set i (some (.ref p))) b → avo P e σ b ∨ b = p := fun b z => z.elim (fun z => .inl (.inl z)) fun z => (own_set_new z).imp .inr id
    by_cases hj : i = j
    · subst hj
      rw [List.getElem?_set_self'] at h1 h2
      cases q : e[i]? with
      | none => rw [q] at h1; simp at h1
      | some x =>
        cases q2 : σ[i]? with
        | none => rw [q2] at h2; simp at h2
        | some y =>
          rw [q] at h1
          rw [q2] at h2
          simp only [Option.map_eq_map, Option.map_some, Function.const_apply, Option.some.injEq] at h1 h2
          subst h1 h2
          exact hs.imp fun a _ => mono a
    · rw [List.getElem?_set_ne hj] at h1 h2
      refine ((R.slot j t o' h1 h2).imp fun a ha z => ?_).same sm
      exact (mono a z).elim id fun z => absurd (z ▸ hp) ha
  inj := fun j k s1 s2 a h1 h2 h3 h4 h5 h6 => by
    have get : ∀ {j : Nat} {t : Slot} {a : Addr}, (e.set i s)[j]? = some t → isOwn t = true → (σ.set i (some (.ref p)))[j]? = some (some (V.ref a)) → (i = j ∧ a = p) ∨ (i ≠ j ∧ e[j]? = some t ∧ σ[j]? = some (some (V.ref a)) ∧ a ≠ p) := fun {j t a} h1 h2 h3 => by
      by_cases hj : i = j
      · subst hj
        rw [List.getElem?_set_self'] at h3
        cases q : σ[i]? with
        | none => rw [q] at h3; simp at h3
        | some x => rw [q] at h3; simp only [Option.map_eq_map, Option.map_some, Function.const_apply, Option.some.injEq, V.ref.injEq] at h3; exact .inl ⟨rfl, h3.symm⟩
      · rw [List.getElem?_set_ne hj] at h1 h3
        exact .inr ⟨hj, h1, h3, fun z => R.own_ne ⟨j, t, h1, h2, h3⟩ (z ▸ hp)⟩
    rcases get h1 h2 h5 with ⟨r1, r2⟩ | ⟨r1, r2, r3, r4⟩ <;> rcases get h3 h4 h6 with ⟨q1, q2⟩ | ⟨q1, q2, q3, q4⟩
    · exact r1.symm.trans q1
    · exact absurd r2 q4
    · exact absurd q2 r4
    · exact R.inj j k s1 s2 a r2 h2 q2 h4 r3 q3
  fr := R.fr.trans sm
  new := fun a h => by
    rcases own_set_new h with h | rfl
    · exact R.new a h
    · cases q : P.H0 a with
      | none => rfl
      | some o => rw [R.fr _ _ q] at hp; cases hp
/-- an own list or dict is changed -/
theorem Rel.updOwn (R : Rel P e σ H) {s s' : Slot} {a : Addr} {o : HO} (h1 : e[i]? = some s) (hs : isOwn s = true) (hs' : isOwn s' = true) (h2 : σ[i]? = some (some (.ref a))) (hd : SlotOk P.K (avo P e σ) (upd H a o) s' (some (.ref a))) : Rel P (e.set i s') σ (upd H a o) := by
  have oa : Owns e σ a := ⟨i, s, h1, hs, h2⟩
  have hkk : (∃ ys, H a = some (.lst ys)) ∨ ∃ ks, H a = some (.dK ks) := by
    have q := R.slot i s _ h1 h2
    cases s with
    | un => cases hs
    | d _ => cases hs
    | ol xs => obtain ⟨b, ys, e1, e2, _⟩ := q; cases e1; exact .inl ⟨_, e2⟩
    | od xs => obtain ⟨b, ys, e1, e2, _⟩ := q; cases e1; exact .inr ⟨_, e2⟩
  have hk : ∀ ys, H a ≠ some (.tup ys) := fun ys z => by rcases hkk with ⟨_, q⟩ | ⟨_, q⟩ <;> rw [q] at z <;> cases z
  have hf : ∀ o u, H a ≠ some (.frz o u) := fun o u z => by rcases hkk with ⟨_, q⟩ | ⟨_, q⟩ <;> rw [q] at z <;> cases z
  have own : ∀ b, Owns (e.set i s') σ b → Owns e σ b := fun b ⟨j, t, q1, q2, q3⟩ => by
    by_cases hj : i = j
    · subst hj; exact ⟨i, s, h1, hs, q3⟩
    · rw [List.getElem?_set_ne hj] at q1; exact ⟨j, t, q1, q2, q3⟩
  have mono : ∀ b, avo P (e.set i s') σ b → avo P e σ b := fun b z => z.imp id (own b)
  refine ⟨by rw [List.length_set]; exact R.len, fun j t o' q1 q2 => ?_, fun j k t1 t2 b q1 q2 q3 q4 q5 q6 => ?_, fun b x q => ?_, fun b z => R.new b (own b z)⟩
  · by_cases hj : i = j
    · subst hj
      rw [List.getElem?_set_self (by rw [← R.len]; exact (List.getElem?_eq_some_iff.mp h2).1)] at q1
      cases q1
      rw [h2] at q2
      cases q2
      exact hd.imp fun b _ => mono b
    · rw [List.getElem?_set_ne hj] at q1
      have q := R.slot j t o' q1 q2
      cases t with
      | un => trivial
      | d x => obtain ⟨v, e1, dd⟩ := q; exact ⟨v, e1, (dd.upd hk hf (.inr oa)).imp (fun _ _ z => z) fun b _ => mono b⟩
      | ol x =>
        obtain ⟨b, ys, e1, e2, dd⟩ := q
        have nb : b ≠ a := fun z => hj (R.inj i j s _ a h1 hs q1 rfl h2 (by rw [q2, e1, z]))
        exact ⟨b, ys, e1, by rw [upd_ne nb]; exact e2, (dd.upd hk hf (.inr oa)).imp (fun _ _ z => z) fun b _ => mono b⟩
      | od x =>
        obtain ⟨b, ys, e1, e2, dd⟩ := q
        have nb : b ≠ a := fun z => hj (R.inj i j s _ a h1 hs q1 rfl h2 (by rw [q2, e1, z]))
        exact ⟨b, ys, e1, by rw [upd_ne nb]; exact e2, (dd.upd hk hf (.inr oa)).imp (fun _ _ z => z) fun b _ => mono b⟩
  · have get : ∀ {j : Nat} {t : Slot}, (e.set i s')[j]? = some t → isOwn t = true → ∃ t', e[j]? = some t' ∧ isOwn t' = true := fun {j t} q1 q2 => by
      by_cases hj : i = j
      · subst hj; exact ⟨s, h1, hs⟩
      · rw [List.getElem?_set_ne hj] at q1; exact ⟨t, q1, q2⟩
    obtain ⟨u1, a1, a2⟩ := get q1 q2
    obtain ⟨u2, b1, b2⟩ := get q3 q4
    exact R.inj j k u1 u2 b a1 a2 b1 b2 q5 q6
  · have nb : b ≠ a := fun z => by rw [z, R.new a oa] at q; cases q
    rw [upd_ne nb]
    exact R.fr _ _ q
/-- own no more -/
theorem Rel.give (R : Rel P e σ H) {xs : List D} (h1 : e[i]? = some (.ol xs)) : Rel P (e.set i (.d (.list xs))) σ H := by
  obtain ⟨o, h2, a, ys, rfl, ha, dd⟩ := R.at h1
  have own : ∀ b, Owns (e.set i (.d (.list xs))) σ b → Owns e σ b ∧ b ≠ a := fun b ⟨j, t, q1, q2, q3⟩ => by
    by_cases hj : i = j
    · subst hj
      rw [List.getElem?_set_self (List.getElem?_eq_some_iff.mp h1).1] at q1
      cases q1; cases q2
    · rw [List.getElem?_set_ne hj] at q1
      exact ⟨⟨j, t, q1, q2, q3⟩, fun z => hj (R.inj i j _ t a h1 rfl q1 q2 h2 (by rw [q3, z]))⟩
  have mono : ∀ b, avo P (e.set i (.d (.list xs))) σ b → avo P e σ b := fun b z => z.imp id fun z => (own b z).1
  refine ⟨by rw [List.length_set]; exact R.len, fun j t o' q1 q2 => ?_, fun j k t1 t2 b q1 q2 q3 q4 q5 q6 => ?_, R.fr, fun b z => R.new b (own b z).1⟩
  · by_cases hj : i = j
    · subst hj
      rw [List.getElem?_set_self (List.getElem?_eq_some_iff.mp h1).1] at q1
      cases q1
      rw [h2] at q2
      cases q2
      refine ⟨_, rfl, .list (.inl (.inl ha)) (.inl fun z => ?_) (dd.imp (fun _ _ z => z) fun b _ => mono b)⟩
      rcases z with z | z
      · exact R.own_av ⟨i, _, h1, rfl, h2⟩ z
      · exact (own _ z).2 rfl
    · rw [List.getElem?_set_ne hj] at q1
      exact (R.slot j t o' q1 q2).imp fun b _ => mono b
  · have get : ∀ {j : Nat} {t : Slot}, (e.set i (.d (.list xs)))[j]? = some t → isOwn t = true → e[j]? = some t := fun {j t} q1 q2 => by
      by_cases hj : i = j
      · subst hj
        rw [List.getElem?_set_self (List.getElem?_eq_some_iff.mp h1).1] at q1
        cases q1; cases q2
      · rw [List.getElem?_set_ne hj] at q1; exact q1
    exact R.inj j k t1 t2 b (get q1 q2) q2 (get q3 q4) q4 q5 q6
theorem wipeS_length : ∀ vs : List Nat, (wipeS e vs).length = e.length
  | [] => rfl
  | v :: vs => by unfold wipeS; rw [List.length_set, wipeS_length vs]
theorem Rel.wipe (R : Rel P e σ H) : ∀ vs : List Nat, Rel P (wipeS e vs) (L2.wipe σ vs) H
  | [] => R
  | v :: vs => (R.wipe vs).set rfl trivial
theorem wipeS_own : ∀ {vs : List Nat} {j : Nat} {t : Slot}, e[j]? = some t → isOwn t = true → freeOf e vs = true → (wipeS e vs)[j]? = some t ∧ (L2.wipe σ vs)[j]? = σ[j]?
  | [], _, _, h, _, _ => ⟨h, rfl⟩
  | v :: vs, j, t, h, ht, hf => by
    unfold freeOf at hf
    simp only [List.all_cons, Bool.and_eq_true] at hf
    obtain ⟨h1, h2⟩ := wipeS_own (vs := vs) h ht hf.2
    have hj : v ≠ j := fun z => by
      subst z
      rw [h] at hf
      simp only [ht] at hf
      exact absurd hf.1 (by decide)
    unfold wipeS L2.wipe
    rw [List.getElem?_set_ne hj, List.getElem?_set_ne hj]
    exact ⟨h1, h2⟩
theorem avo_wipe {vs : List Nat} (hf : freeOf e vs = true) {a : Addr} (h : avo P e σ a) : avo P (wipeS e vs) (L2.wipe σ vs) a := by
  refine h.imp id fun ⟨j, t, h1, h2, h3⟩ => ?_
  obtain ⟨q1, q2⟩ := wipeS_own (σ := σ) h1 h2 hf
  exact ⟨j, t, q1, h2, by rw [q2]; exact h3⟩

/-! ### a later base -/
@[reducible] def Pk.at (P : Pk) (h0 : Hp) (hav : ∀ a, P.Av a → h0 a ≠ none) : Pk := { P with H0 := h0, avok := hav }
open Classical in
/-- the heap without the own ones -/
noncomputable def lessOwn (e : Sl) (σ : L2.St) (H : Hp) : Hp := fun a => if Owns e σ a then none else H a
theorem lessOwn_av (R : Rel P e σ H) : ∀ a, P.Av a → lessOwn e σ H a ≠ none := fun a h => by
  unfold lessOwn
  rw [if_neg fun z => R.own_av z h]
  exact R.av_ne (.inl h)
theorem Rel.into (R : Rel P e σ H) : Rel (P.at (lessOwn e σ H) (lessOwn_av R)) e σ H where
  len := R.len
  slot := R.slot
  inj := R.inj
  fr := fun b o h => by
    have h : lessOwn e σ H b = some o := h
    unfold lessOwn at h
    split at h
    · cases h
    · exact h
  new := fun a h => by
    show lessOwn e σ H a = none
    unfold lessOwn
    rw [if_pos h]
theorem base_same (R : Rel P e σ H) : Same P.H0 (lessOwn e σ H) := fun b o h => by
  unfold lessOwn
  rw [if_neg fun z => by rw [R.new b z] at h; cases h]
  exact R.fr _ _ h
theorem Rel.out (R : Rel P e σ H) {e' : Sl} {σ' : L2.St} (R' : Rel (P.at (lessOwn e σ H) (lessOwn_av R)) e' σ' H') : Rel P e' σ' H' where
  len := R'.len
  slot := R'.slot
  inj := R'.inj
  fr := (base_same R).trans R'.fr
  new := fun a h => by
    have q := R'.new a h
    cases q2 : P.H0 a with
    | none => rfl
    | some o => have := base_same R _ _ q2; rw [show lessOwn e σ H a = none from q] at this; cases this
end

/-! ### statements' ends -/
def PostS (P : Pk) (D : Ends) : Out → Prop
  | .nx e' => ∀ σ' H', Rel P e' σ' H' → D.nx σ' H'
  | .ret x => ∀ v H', Same P.H0 H' → Den P.K P.Av H' v x → D.rt v H'
  | .bk e' => ∀ σ' H', Rel P e' σ' H' → D.bk σ' H'
  | .ct e' => ∀ σ' H', Rel P e' σ' H' → D.ct σ' H'
  | .ex c e' => ∀ σ' H', Rel P e' σ' H' → P.W (.ref (P.ca c)) none σ' H'
  | .stuck => False
def liftS (P : Pk) (f : Sl → Out) : L2.TS := fun D σ H => ∃ e, Rel P e σ H ∧ PostS P D (f e)
theorem PostS.into {P : Pk} {e : Sl} {σ : L2.St} {H : Hp} (R : Rel P e σ H) {D : Ends} : ∀ {o : Out}, PostS P D o → PostS (P.at (lessOwn e σ H) (lessOwn_av R)) D o
  | .nx _, h => fun σ' H' r => h σ' H' (R.out r)
  | .ret _, h => fun v H' s d => h v H' ((base_same R).trans s) d
  | .bk _, h => fun σ' H' r => h σ' H' (R.out r)
  | .ct _, h => fun σ' H' r => h σ' H' (R.out r)
  | .ex _ _, h => fun σ' H' r => h σ' H' (R.out r)
  | .stuck, h => h
theorem gdS {P : Pk} {e : Sl} {σ : L2.St} {D : Ends} : Gd P σ (fun (H : Hp) (r : Res Out) => Rel P e σ H ∧ PostS P D (match r with | .ok o => o | .ex c => .ex c e | .stuck => .stuck)) where
  back := fun s h => ⟨h.1.same s, h.2⟩
  ex := fun h H' s => h.2 σ H' (h.1.same s)
  no := fun h => h.2
theorem PSs.ofAll {ι : Type} {X : Cx} {st : List Stmt} {t : ι → L2.TS} (h : ∀ i, PSs X st (t i)) : PSs X st (fun D σ H => ∃ i, t i D σ H) := ⟨fun pins s σ H D I ⟨i, q⟩ => (h i).run pins s σ H D I q⟩
theorem PE.ofAll {ι : Sort _} {X : Cx} {ex : Expr} {t : ι → L2.TE} (h : ∀ i, PE X ex (t i)) : PE X ex (fun σ H Q => ∃ i, t i σ H Q) := ⟨fun pins s σ H Q I ⟨i, q⟩ => (h i).run pins s σ H Q I q⟩
theorem PTs.ofAll {ι : Sort _} {X : Cx} {ex : List Expr} {t : ι → L2.TT} (h : ∀ i, PTs X ex (t i)) : PTs X ex (fun σ H Q => ∃ i, t i σ H Q) := ⟨fun pins s σ H Q I ⟨i, q⟩ => (h i).run pins s σ H Q I q⟩

/-! ### targets -/
/-- the same but for the places vs -/
def Agr (σ σ1 : L2.St) (vs : List Nat) : Prop := σ1.length = σ.length ∧ ∀ j, j ∉ vs → σ1[j]? = σ[j]?
theorem wipe_in {σ : L2.St} {j : Nat} : ∀ {vs : List Nat}, j ∈ vs → (L2.wipe σ vs)[j]? = if j < σ.length then some none else none
  | v :: vs, h => by
    unfold L2.wipe
    by_cases e : v = j
    · subst e
      rw [List.getElem?_set_self']
      by_cases hl : v < σ.length
      · rw [if_pos hl, List.getElem?_eq_getElem (by rw [L2.wipe_length]; exact hl)]
        rfl
      · rw [if_neg hl, List.getElem?_eq_none (by rw [L2.wipe_length]; omega)]
        rfl
    · rw [List.getElem?_set_ne e]
      exact wipe_in ((List.mem_cons.mp h).resolve_left fun z => e z.symm)
theorem Agr.wipe {σ σ1 : L2.St} {vs : List Nat} (h : Agr σ σ1 vs) : L2.wipe σ1 vs = L2.wipe σ vs := by
  apply List.ext_getElem?
  intro j
  by_cases hj : j ∈ vs
  · rw [wipe_in hj, wipe_in hj, h.1]
  · rw [wipe_out hj, wipe_out hj]
    exact h.2 j hj
mutual
theorem bindT_out : ∀ {t : Tgt} {d : D} {e e1 : Sl}, bindT t d e = some e1 → ∀ j, (j ∉ t.ix → e1[j]? = e[j]?) ∧ (j ∈ t.ix → ∃ x, e1[j]? = some (.d x))
  | .nm i, d, e, e1, h, j => by
    simp only [bindT] at h
    split at h
    · rename_i hl
      simp only [Option.some.injEq] at h
      subst h
      refine ⟨fun hj => ?_, fun hj => ?_⟩
      · rw [List.getElem?_set_ne]
        intro z; exact hj (by rw [z]; exact List.mem_cons_self ..)
      · have : j = i := by simpa [Tgt.ix] using hj
        subst this
        exact ⟨d, List.getElem?_set_self hl⟩
    · cases h
  | .tp ts, d, e, e1, h, j => by
    cases d with
    | tuple xs => exact bindTs_out (by simpa only [bindT] using h) j
    | _ => simp [bindT] at h
theorem bindTs_out : ∀ {ts : List Tgt} {ds : List D} {e e1 : Sl}, bindTs ts ds e = some e1 → ∀ j, (j ∉ Tgt.ixs ts → e1[j]? = e[j]?) ∧ (j ∈ Tgt.ixs ts → ∃ x, e1[j]? = some (.d x))
  | [], [], e, e1, h, j => by
    simp only [bindTs, Option.some.injEq] at h
    subst h
    exact ⟨fun _ => rfl, fun z => by simp [Tgt.ixs] at z⟩
  | t :: ts, x :: xs, e, e1, h, j => by
    simp only [bindTs] at h
    cases q : bindT t x e with
    | none => rw [q] at h; simp at h
    | some e' =>
      rw [q] at h
      have h : bindTs ts xs e' = some e1 := h
      have a := bindT_out q j
      have b := bindTs_out h j
      simp only [Tgt.ixs, List.mem_append, not_or]
      refine ⟨fun z => (b.1 z.2).trans (a.1 z.1), fun z => ?_⟩
      by_cases hj : j ∈ Tgt.ixs ts
      · exact b.2 hj
      · rw [b.1 hj]
        exact a.2 (z.resolve_right hj)
  | [], _ :: _, _, _, h, _ => by simp [bindTs] at h
  | _ :: _, [], _, _, h, _ => by simp [bindTs] at h
end
theorem avo_out {P : Pk} {e e1 : Sl} {σ σ1 : L2.St} {vs : List Nat} (g : Agr σ σ1 vs) (h1 : ∀ j, j ∉ vs → e1[j]? = e[j]?) (h2 : ∀ j, j ∈ vs → ∃ x, e1[j]? = some (.d x)) {a : Addr} (h : avo P e1 σ1 a) : avo P e σ a := by
  refine h.imp id fun ⟨j, t, q1, q2, q3⟩ => ?_
  by_cases hj : j ∈ vs
  · obtain ⟨x, z⟩ := h2 j hj
    rw [q1] at z
    cases z
    cases q2
  · exact ⟨j, t, by rw [← h1 j hj]; exact q1, q2, by rw [← g.2 j hj]; exact q3⟩
def liftG (K : PySem.W.Frag) (t : Tgt) : L2.TG := fun v σ H Q => ∃ (P : Pk) (e : Sl) (d : D) (e1 : Sl), P.K = K ∧ Rel P e σ H ∧ Den P.K (avo P e σ) H v d ∧ bindT t d e = some e1 ∧ ∀ σ1, Rel P e1 σ1 H → Agr σ σ1 t.ix → Q σ1 H
def liftGs (K : PySem.W.Frag) (ts : List Tgt) : L2.TGs := fun vs σ H Q => ∃ (P : Pk) (e : Sl) (ds : List D) (e1 : Sl), P.K = K ∧ Rel P e σ H ∧ Dens P.K (avo P e σ) H vs ds ∧ bindTs ts ds e = some e1 ∧ ∀ σ1, Rel P e1 σ1 H → Agr σ σ1 (Tgt.ixs ts) → Q σ1 H
theorem PG.imp {X : Cx} {ex : Expr} {t t' : L2.TG} (h : PG X ex t) (i : ∀ v σ H Q, t' v σ H Q → t v σ H Q) : PG X ex t' := ⟨fun pins s σ H v u Q I r q => h.run pins s σ H v u Q I r (i _ _ _ _ q)⟩
theorem PGs.imp {X : Cx} {ex : List Expr} {t t' : L2.TGs} (h : PGs X ex t) (i : ∀ v σ H Q, t' v σ H Q → t v σ H Q) : PGs X ex t' := ⟨fun pins s σ H v u Q I r q => h.run pins s σ H v u Q I r (i _ _ _ _ q)⟩
section
variable {X : Cx} {K : PySem.W.Frag} {N : List Str} {pos : Pos}
theorem sg_nm (hN : X.N = N) (nd : N.Nodup) {i : Nat} {x : Str} (hi : N[i]? = some x) (hx : Loc X.env.scope x) (hf : X.fn x = true ∨ X.env.scope.names.lookup x = some .local) : PG X (.Name x pos) (liftG K (.nm i)) := by
  refine PG.imp (pg_name (i := i) (by rw [hN]; exact nd) (by rw [hN]; exact hi) hx hf) fun v σ H Q ⟨P, e, d, e1, hK, R, hd, hb, q⟩ => ?_
  simp only [bindT] at hb
  split at hb
  · simp only [Option.some.injEq] at hb
    subst hb
    exact q _ (R.setD hd) ⟨List.length_set .., fun j hj => List.getElem?_set_ne fun z => hj (by rw [z]; exact List.mem_cons_self ..)⟩
  · cases hb
theorem sgs_nil : PGs X [] (liftGs K []) := PGs.imp pgs_nil fun vs σ H Q ⟨P, e, d, e1, hK, R, hd, hb, q⟩ => by
  cases d with
  | nil =>
    cases hd
    simp only [bindTs, Option.some.injEq] at hb
    subst hb
    exact ⟨rfl, q _ R ⟨rfl, fun _ _ => rfl⟩⟩
  | cons x d => simp [bindTs] at hb
theorem sgs_cons {a : Expr} {es : List Expr} {t : Tgt} {ts : List Tgt} (h1 : PG X a (liftG K t)) (h2 : PGs X es (liftGs K ts)) (hs : (assignEach (a :: es) X.env).map (·.2) = assign a X.env :: (assignEach es X.env).map (·.2) := by rfl) : PGs X (a :: es) (liftGs K (t :: ts)) := by
  refine PGs.imp (pgs_cons h1 h2 hs) fun vs σ H Q ⟨P, e, d, e1, hK, R, hd, hb, q⟩ => ?_
  cases hd with
  | nil => simp [bindTs] at hb
  | @cons v x vs xs hd hr =>
    simp only [bindTs] at hb
    cases q1 : bindT t x e with
    | none => rw [q1] at hb; simp at hb
    | some e' =>
      rw [q1] at hb
      have hb : bindTs ts xs e' = some e1 := hb
      refine ⟨_, _, rfl, P, e, x, e', hK, R, hd, q1, fun σ1 R1 g1 => ?_⟩
      have sm := bindT_out q1
      refine ⟨P, e', xs, e1, hK, R1, hr.imp (fun _ _ z => z) (fun b _ z => avo_out g1 (fun j => (sm j).1) (fun j => (sm j).2) z), hb, fun σ2 R2 g2 => q σ2 R2 ⟨g2.1.trans g1.1, fun j hj => ?_⟩⟩
      simp only [Tgt.ixs, List.mem_append, not_or] at hj
      exact (g2.2 j hj.2).trans (g1.2 j hj.1)
theorem bindTs_len : ∀ {ts : List Tgt} {ds : List D} {e e1 : Sl}, bindTs ts ds e = some e1 → ds.length = ts.length
  | [], [], _, _, _ => rfl
  | t :: ts, x :: xs, e, e1, h => by
    simp only [bindTs] at h
    cases q : bindT t x e with
    | none => rw [q] at h; simp at h
    | some e' => rw [q] at h; exact congrArg (· + 1) (bindTs_len (show bindTs ts xs e' = some e1 from h))
  | [], _ :: _, _, _, h => by simp [bindTs] at h
  | _ :: _, [], _, _, h => by simp [bindTs] at h
theorem sg_tp (hc : X.calm = true) (hK : X.K = K) {es : List Expr} {k : Nat} {ts : List Tgt} (h : PGs X es (liftGs K ts)) (hn : (assignEach es X.env).length = ts.length := by rfl) (hst : (assignEach es X.env).findIdx? (·.1) = none := by rfl) : PG X (.Tuple es k pos) (liftG K (.tp ts)) := by
  refine PG.imp (pg_tup hc h hn hst) fun v σ H Q ⟨P, e, d, e1, hK', R, hd, hb, q⟩ => ?_
  cases d with
  | tuple xs =>
    simp only [bindT] at hb
    cases hd with
    | tuple hq ht =>
      refine ⟨_, _, rfl, by rw [hK, ← hK']; exact hq, by rw [ht.length]; exact bindTs_len hb, P, e, xs, e1, hK', R, ht, hb, q⟩
  | _ => simp [bindT] at hb
end
end Rf

set_option Elab.async false
set_option linter.all false
set_option maxRecDepth 100000
set_option maxHeartbeats 1000000
/-! Rf, part G: what is walked; comprehensions. -/
namespace Rf
open PySem PySem.Spec PyProof.Rows L2
section
variable {K : PySem.W.Frag} {av ow : Addr → Prop} {H H' : Hp}
mutual
theorem Den.keep (hw : ∀ b, ow b → av b) (ht : ∀ b, ow b → (∀ ys, H b ≠ some (.tup ys)) ∧ ∀ o u, H b ≠ some (.frz o u)) (kp : ∀ b o, H b = some o → ¬ ow b → H' b = some o) : ∀ {v : V} {d : D}, Den K av H v d → Den K (fun a => av a ∨ H a = none) H' v d
  | _, _, .none => .none
  | _, _, .bool b => .bool b
  | _, _, .int i => .int i
  | _, _, .str x => .str x
  | _, _, .list h n t => .list (n.elim (fun n => h.imp (fun h => h.imp (fun q => kp _ _ q fun z => n (hw _ z)) fun ⟨o, q⟩ => ⟨o, kp _ _ q fun z => n (hw _ z)⟩) id) .inr) (n.elim (fun n => h.elim (fun h => .inl fun z => z.elim n (rd_ne h)) .inr) .inr) (Dens.keep hw ht kp t)
  | _, _, .tuple h t => .tuple (h.imp (fun h => h.imp (fun q => kp _ _ q fun z => (ht _ z).1 _ q) fun ⟨o, q⟩ => ⟨o, kp _ _ q fun z => (ht _ z).2 _ _ q⟩) id) (Dens.keep hw ht kp t)
  | _, _, .dict h n t => .dict (h.imp (fun q => kp _ _ q fun z => n (hw _ z)) fun ⟨o, q⟩ => ⟨o, kp _ _ q fun z => n (hw _ z)⟩) (fun z => z.elim n (rd_ne h)) (DenKs.keep hw ht kp t)
theorem Dens.keep (hw : ∀ b, ow b → av b) (ht : ∀ b, ow b → (∀ ys, H b ≠ some (.tup ys)) ∧ ∀ o u, H b ≠ some (.frz o u)) (kp : ∀ b o, H b = some o → ¬ ow b → H' b = some o) : ∀ {v : List V} {d : List D}, Dens K av H v d → Dens K (fun a => av a ∨ H a = none) H' v d
  | _, _, .nil => .nil
  | _, _, .cons x y => .cons (Den.keep hw ht kp x) (Dens.keep hw ht kp y)
theorem DenKs.keep (hw : ∀ b, ow b → av b) (ht : ∀ b, ow b → (∀ ys, H b ≠ some (.tup ys)) ∧ ∀ o u, H b ≠ some (.frz o u)) (kp : ∀ b o, H b = some o → ¬ ow b → H' b = some o) : ∀ {v : List (Key × V)} {d : List (D × D)}, DenKs K av H v d → DenKs K (fun a => av a ∨ H a = none) H' v d
  | _, _, .nil => .nil
  | _, _, .cons x y => .cons (Den.keep hw ht kp x) (DenKs.keep hw ht kp y)
end
/-- an iterator that walks its -/
def ItOk (K : PySem.W.Frag) (av ow : Addr → Prop) (H : Hp) (J : It) (its : List D) : Prop :=
  ∀ i H', (∀ b o, H b = some o → ¬ ow b → H' b = some o) → (i < its.length → J.go i H') ∧ (its.length ≤ i → J.stop i H') ∧ ∀ x H'', J.yld i H' x H'' → ∀ d, its[i]? = some d → Same H' H'' ∧ Den K (fun a => av a ∨ H a = none) H'' x d
end
theorem Rel.kinds {P : Pk} {e : Sl} {σ : L2.St} {H : Hp} (R : Rel P e σ H) : ∀ b, Owns e σ b → (∀ ys, H b ≠ some (.tup ys)) ∧ ∀ o u, H b ≠ some (.frz o u) := fun b ⟨i, s, h1, hs, h2⟩ => by
  have q := R.slot i s _ h1 h2
  cases s with
  | un => cases hs
  | d _ => cases hs
  | ol xs => obtain ⟨c, ys, e1, e2, _⟩ := q; cases e1; exact ⟨fun _ z => by (rw [e2] at z; cases z), fun _ _ z => by (rw [e2] at z; cases z)⟩
  | od xs => obtain ⟨c, ys, e1, e2, _⟩ := q; cases e1; exact ⟨fun _ z => by (rw [e2] at z; cases z), fun _ _ z => by (rw [e2] at z; cases z)⟩
def PostI (P : Pk) (e : Sl) (σ : L2.St) (H : Hp) (Q : It → Hp → Prop) : Res (List D) → Prop
  | .ok its => ∀ J H', Same H H' → ItOk P.K (avo P e σ) (Owns e σ) H' J its → Q J H'
  | .ex c => ∀ H', Same H H' → P.W (.ref (P.ca c)) none σ H'
  | .stuck => False
def liftI (P : Pk) (f : Sl → Res (List D)) : L2.TI := fun σ H Q => ∃ e, Rel P e σ H ∧ PostI P e σ H Q (f e)
def srcs (Φ : FT) (k : SrcK) (ES : List Exp) (e : Sl) : Res (List D) := (evs Φ ES e).bind fun xs => Res.of (srcD k xs)
theorem PI.imp {X : Cx} {tg ex : Expr} {t t' : L2.TI} (h : PI X tg ex t) (i : ∀ σ H Q, t' σ H Q → t σ H Q) : PI X tg ex t' := ⟨fun pins s σ H Q I q => h.run pins s σ H Q I (i _ _ _ q)⟩
theorem gdI {P : Pk} {e : Sl} {σ : L2.St} {Q : It → Hp → Prop} : Gd P σ (fun H r => PostI P e σ H Q r) := ⟨fun {H H' r} s h => match r, h with
  | .ok _, h => fun v H2 s2 d => h v H2 (s.trans s2) d
  | .ex _, h => fun H2 s2 => h H2 (s.trans s2)
  | .stuck, h => h, fun h => h, fun h => h⟩
section
variable {X : Cx} {P : Pk} {N : List Str} {sc : Scope} {m : Nat} {Φ : FT} {A B E : Exp} {ES : List Exp} {a b c tg : Expr} {es : List Expr} {pos : Pos}
theorem rd_keep {ow : Addr → Prop} {H H' : Hp} {l : Addr} {u : HO} (kp : ∀ b o, H b = some o → ¬ ow b → H' b = some o) (n : ¬ ow l) (h : Rd H l u) : Rd H' l u := h.imp (fun q => kp _ _ q n) fun ⟨o, q⟩ => ⟨o, kp _ _ q n⟩
theorem sqt_keep {K : PySem.W.Frag} {ow : Addr → Prop} {H H' : Hp} {l : Addr} {us : List V} (ht : ∀ b, ow b → (∀ ys, H b ≠ some (.tup ys)) ∧ ∀ o u, H b ≠ some (.frz o u)) (kp : ∀ b o, H b = some o → ¬ ow b → H' b = some o) (h : SqT K H l us) : SqT K H' l us :=
  h.imp (fun h => h.imp (fun q => kp _ _ q fun z => (ht _ z).1 _ q) fun ⟨o, q⟩ => ⟨o, kp _ _ q fun z => (ht _ z).2 _ _ q⟩) id
theorem it_list {K : PySem.W.Frag} {av ow : Addr → Prop} {H : Hp} {l : Addr} {us : List V} {ds : List D} (hw : ∀ b, ow b → av b) (ht : ∀ b, ow b → (∀ ys, H b ≠ some (.tup ys)) ∧ ∀ o u, H b ≠ some (.frz o u)) (n : ¬ av l ∨ KLst K l us) (h : SqL K H l us) (hd : Dens K av H us ds) : ItOk K av ow H (Itl K l) ds := fun i H' kp => by
  have h' : SqL K H' l us := n.elim (fun n => h.imp (rd_keep kp fun z => n (hw _ z)) id) .inr
  have hl := hd.length
  refine ⟨fun hi => ⟨us, us[i], h', List.getElem?_eq_getElem (by omega)⟩, fun hi => ⟨us, h', by omega⟩, fun x H'' y d hdd => ?_⟩
  obtain ⟨rfl, y⟩ := y
  refine ⟨Same.refl _, ?_⟩
  obtain ⟨d', e1, e2⟩ := hd.get (y us h')
  rw [hdd] at e1
  cases e1
  exact e2.keep hw ht kp
theorem it_tup {K : PySem.W.Frag} {av ow : Addr → Prop} {H : Hp} {l : Addr} {us : List V} {ds : List D} (hw : ∀ b, ow b → av b) (ht : ∀ b, ow b → (∀ ys, H b ≠ some (.tup ys)) ∧ ∀ o u, H b ≠ some (.frz o u)) (h : SqT K H l us) (hd : Dens K av H us ds) : ItOk K av ow H (Itt K l) ds := fun i H' kp => by
  have h' := sqt_keep ht kp h
  have hl := hd.length
  refine ⟨fun hi => ⟨us, us[i], h', List.getElem?_eq_getElem (by omega)⟩, fun hi => ⟨us, h', by omega⟩, fun x H'' y d hdd => ?_⟩
  obtain ⟨rfl, y⟩ := y
  refine ⟨Same.refl _, ?_⟩
  obtain ⟨d', e1, e2⟩ := hd.get (y us h')
  rw [hdd] at e1
  cases e1
  exact e2.keep hw ht kp
theorem ow_av {e : Sl} {σ : L2.St} : ∀ b, Owns e σ b → avo P e σ b := fun _ z => .inr z
theorem si_lst (C : Ctx X P N sc) (ha : PE X a (lift P 2 (ev Φ A))) : PI X tg a (liftI P (srcs Φ .lst [A])) := by
  refine PI.imp (pi_list ha) fun σ H Q ⟨e, R, p⟩ => ⟨e, R, ?_⟩
  unfold srcs at p
  cases q : ev Φ A e with
  | ok d =>
    simp only [evs, q, Res.bind_ok] at p
    intro v H1 s hd
    cases d with
    | list ds =>
      obtain ⟨l, us, rfl, h1, h2, h3⟩ := hd
      exact ⟨l, rfl, ⟨us, by rw [C.hK]; exact h1⟩, by rw [C.hK]; exact p _ H1 s (it_list ow_av (R.same s).kinds h2 h1 h3)⟩
    | _ => exact p.elim
  | ex c => simp only [evs, q, Res.bind_ex] at p; exact p
  | stuck => simp only [evs, q, Res.bind_stuck] at p; exact p.elim
theorem si_tup (C : Ctx X P N sc) (ha : PE X a (lift P 2 (ev Φ A))) : PI X tg a (liftI P (srcs Φ .tup [A])) := by
  refine PI.imp (pi_tup ha) fun σ H Q ⟨e, R, p⟩ => ⟨e, R, ?_⟩
  unfold srcs at p
  cases q : ev Φ A e with
  | ok d =>
    simp only [evs, q, Res.bind_ok] at p
    intro v H1 s hd
    cases d with
    | tuple ds =>
      obtain ⟨l, us, rfl, h1, h3⟩ := d2_tup hd
      exact ⟨l, rfl, ⟨us, by rw [C.hK]; exact h1⟩, by rw [C.hK]; exact p _ H1 s (it_tup ow_av (R.same s).kinds h1 h3)⟩
    | _ => exact p.elim
  | ex c => simp only [evs, q, Res.bind_ex] at p; exact p
  | stuck => simp only [evs, q, Res.bind_stuck] at p; exact p.elim
theorem si_str (ha : PE X a (lift P 0 (ev Φ A))) : PI X tg a (liftI P (srcs Φ .str [A])) := by
  refine PI.imp (pi_str ha) fun σ H Q ⟨e, R, p⟩ => ⟨e, R, ?_⟩
  unfold srcs at p
  cases q : ev Φ A e with
  | ok d =>
    simp only [evs, q, Res.bind_ok] at p
    intro v H1 s hd
    cases d with
    | str z =>
      obtain rfl := d2_str hd
      refine ⟨z, rfl, p _ H1 s fun i H' kp => ?_⟩
      have hl : (z.cps.toList.map fun c => PyData.str (S [c])).length = z.cps.size := by simp
      refine ⟨fun hi => by rw [hl] at hi; exact hi, fun hi => by rw [hl] at hi; exact hi, fun x H'' y d hdd => ?_⟩
      obtain ⟨rfl, c, hc, rfl⟩ := y
      refine ⟨Same.refl _, ?_⟩
      rw [List.getElem?_map, Array.getElem?_toList, hc] at hdd
      simp only [Option.map_some, Option.some.injEq] at hdd
      subst hdd
      exact .str _
    | _ => exact p.elim
  | ex c => simp only [evs, q, Res.bind_ex] at p; exact p
  | stuck => simp only [evs, q, Res.bind_stuck] at p; exact p.elim
theorem it_rng {K : PySem.W.Frag} {av ow : Addr → Prop} {H : Hp} (lo : Int) (n : Nat) : ItOk K av ow H (Itr lo n) (rngD lo n) := fun i H' kp => by
  have hl : (rngD lo n).length = n := by simp [rngD]
  refine ⟨fun hi => by rw [hl] at hi; exact hi, fun hi => by rw [hl] at hi; exact hi, fun x H'' y d hdd => ?_⟩
  obtain ⟨rfl, rfl⟩ := y
  refine ⟨Same.refl _, ?_⟩
  unfold rngD at hdd
  rw [List.getElem?_map] at hdd
  cases q : (List.range n)[i]? with
  | none => rw [q] at hdd; cases hdd
  | some j =>
    rw [q] at hdd
    have : j = i := by
      have := List.getElem?_eq_some_iff.mp q
      obtain ⟨h, e⟩ := this
      rw [List.getElem_range] at e
      exact e.symm
    subst this
    simp only [Option.map_some, Option.some.injEq] at hdd
    subst hdd
    exact .int _
theorem si_rng1 {p pos : Pos} (hg : X.env.kindOf "range" = some .globalImplicit) (hm : X.mg "range" = none) (ha : PA X [a] (lifts P 0 (evs Φ [A]))) (hs : starEach [a] X.env = [(false, eval a X.env)] := by rfl) :
    PI X tg (.Call (.Name "range" p) [a] [] pos) (liftI P (srcs Φ .rng [A])) := by
  refine PI.imp (pi_range1 hg hm ha hs) fun σ H Q ⟨e, R, p⟩ => ⟨e, R, ?_⟩
  refine Posts.weaken (bindZs (m := 0) (gdI) R p) fun vs H1 ⟨xs, hx, s1, R1, d1, p1⟩ => ?_
  have hlen := evs_len hx
  match xs, hlen with
  | [x], _ =>
    match vs, d1 with
    | [v], d1 =>
      cases x with
      | int n =>
        simp only [srcD] at p1
        split at p1
        · rename_i hr
          obtain rfl := d2_int d1.1
          exact ⟨n, rfl, hr.1, hr.2, p1 _ H1 (Same.refl _) (it_rng 0 n.toNat)⟩
        · exact p1.elim
      | _ => exact p1.elim
theorem si_rng2 {p pos : Pos} (hg : X.env.kindOf "range" = some .globalImplicit) (hm : X.mg "range" = none) (ha : PA X [a, b] (lifts P 0 (evs Φ [A, B]))) (hs : starEach [a, b] X.env = [(false, eval a X.env), (false, eval b X.env)] := by rfl) (hs2 : starEach [b] X.env = [(false, eval b X.env)] := by rfl) :
    PI X tg (.Call (.Name "range" p) [a, b] [] pos) (liftI P (srcs Φ .rng [A, B])) := by
  refine PI.imp (pi_range2 hg hm ha hs hs2) fun σ H Q ⟨e, R, p⟩ => ⟨e, R, ?_⟩
  refine Posts.weaken (bindZs (m := 0) (gdI) R p) fun vs H1 ⟨xs, hx, s1, R1, d1, p1⟩ => ?_
  have hlen := evs_len hx
  match xs, hlen with
  | [x, y], _ =>
    match vs, d1 with
    | [v, w], d1 =>
      cases x with
      | int i =>
        cases y with
        | int j =>
          simp only [srcD] at p1
          split at p1
          · rename_i hr
            obtain rfl := d2_int d1.1
            obtain rfl := d2_int d1.2.1
            exact ⟨i, j, rfl, hr, p1 _ H1 (Same.refl _) (it_rng i (j - i).toNat)⟩
          · exact p1.elim
        | _ => exact p1.elim
      | _ => exact p1.elim

theorem zip_len : ∀ {xs ys : List D}, (zipD xs ys).length = min xs.length ys.length
  | [], _ => by simp [zipD]
  | _ :: _, [] => by simp [zipD]
  | x :: xs, y :: ys => by simp only [zipD, List.length_cons, zip_len]; omega
theorem zip_get : ∀ {xs ys : List D} {i : Nat} {d : D}, (zipD xs ys)[i]? = some d → ∃ x y, xs[i]? = some x ∧ ys[i]? = some y ∧ d = .tuple [x, y]
  | [], _, _, _, h => by simp [zipD] at h
  | _ :: _, [], _, _, h => by simp [zipD] at h
  | x :: xs, y :: ys, 0, d, h => by simp only [zipD, List.getElem?_cons_zero, Option.some.injEq] at h; exact ⟨x, y, rfl, rfl, h.symm⟩
  | x :: xs, y :: ys, i + 1, d, h => by simp only [zipD, List.getElem?_cons_succ] at h ⊢; exact zip_get h
theorem si_zip (C : Ctx X P N sc) {p tpos : Pos} {elts : List Expr} {kk : Nat} (hg : X.env.kindOf "zip" = some .globalImplicit) (hm : X.mg "zip" = none) (ha : PA X [a, b] (lifts P 2 (evs Φ [A, B]))) (hs : starEach [a, b] X.env = (false, eval a X.env) :: starEach [b] X.env := by rfl) (hpl : (backTo pos (starEach [b] X.env)).any (·.1) = false := by rfl) :
    PI X (.Tuple elts kk tpos) (.Call (.Name "zip" p) [a, b] [] pos) (liftI P (srcs Φ .zip [A, B])) := by
  refine PI.imp (RZ.pi_zipA hg hm ha hs hpl) fun σ H Q ⟨e, R, p⟩ => ⟨e, R, ?_⟩
  refine Posts.weaken (bindZs (m := 2) (gdI) R p) fun vs H1 ⟨xs, hx, s1, R1, d1, p1⟩ => ?_
  have hlen := evs_len hx
  match xs, hlen with
  | [x, y], _ =>
    match vs, d1 with
    | [v, w], d1 =>
      have fin : ∀ {T : Addr} {H' : Hp} {x1 y1 : V} {x2 y2 : D}, H' T = none → Den P.K (fun a => avo P e σ a ∨ H1 a = none) H' x1 x2 → Den P.K (fun a => avo P e σ a ∨ H1 a = none) H' y1 y2 → Same H' (upd H' T (.tup [x1, y1])) ∧ Den P.K (fun a => avo P e σ a ∨ H1 a = none) (upd H' T (.tup [x1, y1])) (.ref T) (.tuple [x2, y2]) := fun {T H' x1 y1 x2 y2} nT hx hy =>
        ⟨same_upd nT, .tuple (.inl (.inl upd_same)) (.cons (hx.same (same_upd nT)) (.cons (hy.same (same_upd nT)) .nil))⟩
      cases x with
      | list xs =>
        cases y with
        | list ys =>
          obtain ⟨l, us, rfl, h1, h2, h3⟩ := d1.1
          obtain ⟨k, ws, rfl, g1, g2, g3⟩ := d1.2.1
          suffices io : ItOk P.K (avo P e σ) (Owns e σ) H1 (Itz P.K l k) (zipD xs ys) from ⟨l, k, us, ws, rfl, .inl ⟨by rw [C.hK]; exact h1, by rw [C.hK]; exact g1, by rw [C.hK]; exact p1 _ H1 (Same.refl _) io⟩⟩
          intro i H' kp
          have h' : SqL P.K H' l us := h2.elim (fun n => h1.imp (rd_keep kp fun z => n (.inr z)) id) .inr
          have g' : SqL P.K H' k ws := g2.elim (fun n => g1.imp (rd_keep kp fun z => n (.inr z)) id) .inr
          have hl := h3.length
          have gl := g3.length
          refine ⟨fun hi => ?_, fun hi => ?_, fun x H'' y d hdd => ?_⟩
          · rw [zip_len] at hi
            exact ⟨us, ws, us[i], ws[i], h', g', List.getElem?_eq_getElem (by omega), List.getElem?_eq_getElem (by omega)⟩
          · rw [zip_len] at hi
            exact ⟨us, ws, h', g', by omega⟩
          · obtain ⟨T, x1, y1, rfl, nT, rfl, f1, f2⟩ := y
            obtain ⟨x2, y2, e1, e2, rfl⟩ := zip_get hdd
            obtain ⟨x2', r1, r2⟩ := h3.get (f1 us h')
            obtain ⟨y2', q1, q2⟩ := g3.get (f2 ws g')
            rw [e1] at r1; cases r1
            rw [e2] at q1; cases q1
            exact fin nT (r2.keep ow_av R1.kinds kp) (q2.keep ow_av R1.kinds kp)
        | _ => exact p1.elim
      | tuple xs =>
        cases y with
        | tuple ys =>
          obtain ⟨l, us, rfl, h1, h3⟩ := d2_tup d1.1
          obtain ⟨k, ws, rfl, g1, g3⟩ := d2_tup d1.2.1
          suffices io : ItOk P.K (avo P e σ) (Owns e σ) H1 (RZ.ItzT P.K l k) (zipD xs ys) from ⟨l, k, us, ws, rfl, .inr ⟨by rw [C.hK]; exact h1, by rw [C.hK]; exact g1, by rw [C.hK]; exact p1 _ H1 (Same.refl _) io⟩⟩
          intro i H' kp
          have h' := sqt_keep R1.kinds kp h1
          have g' := sqt_keep R1.kinds kp g1
          have hl := h3.length
          have gl := g3.length
          refine ⟨fun hi => ?_, fun hi => ?_, fun x H'' y d hdd => ?_⟩
          · rw [zip_len] at hi
            exact ⟨us, ws, us[i], ws[i], h', g', List.getElem?_eq_getElem (by omega), List.getElem?_eq_getElem (by omega)⟩
          · rw [zip_len] at hi
            exact ⟨us, ws, h', g', by omega⟩
          · obtain ⟨T, x1, y1, rfl, nT, rfl, f1, f2⟩ := y
            obtain ⟨x2, y2, e1, e2, rfl⟩ := zip_get hdd
            obtain ⟨x2', r1, r2⟩ := h3.get (f1 us h')
            obtain ⟨y2', q1, q2⟩ := g3.get (f2 ws g')
            rw [e1] at r1; cases r1
            rw [e2] at q1; cases q1
            exact fin nT (r2.keep ow_av R1.kinds kp) (q2.keep ow_av R1.kinds kp)
        | _ => exact p1.elim
      | _ => exact p1.elim

/-! ### comprehensions -/
/-- the pack of a block: Av more, no exception -/
@[reducible] def Pk.blk (P : Pk) (av : Addr → Prop) (h0 : Hp) (hav : ∀ a, av a → h0 a ≠ none) : Pk := { K := P.K, H0 := h0, Av := av, avok := hav, W := fun _ _ _ _ => False, ca := P.ca }
def liftTs (P : Pk) (f : Sl → Res Bool) : L2.TT := fun σ H Q => ∃ e, Rel P e σ H ∧ match f e with
  | .ok b => ∀ H', Same H H' → Q b H'
  | .ex c => ∀ H', Same H H' → P.W (.ref (P.ca c)) none σ H'
  | .stuck => False
theorem sf_nil : PTs X [] (liftTs P (evt Φ [])) := ⟨fun pins s σ H Q I ⟨e, R, p⟩ => by
  simp only [evt] at p
  exact (pts_nil (X := X)).run pins s σ H Q I (p H (Same.refl _))⟩
theorem sf_one (ha : PT X a (liftT P (ev Φ A))) : PTs X [a] (liftTs P (evt Φ [A])) := ⟨fun pins s σ H Q I ⟨e, R, p⟩ => (pts_one ha).run pins s σ H Q I ⟨e, R, by
  simp only [evt] at p
  cases q : ev Φ A e with
  | ok d =>
    simp only [q, Res.bind_ok] at p
    cases d with
    | bool k => cases k <;> exact p
    | _ => exact p.elim
  | ex c => simp only [q, Res.bind_ex] at p; exact p
  | stuck => simp only [q, Res.bind_stuck] at p⟩⟩
theorem compL_len {f : Sl → Res D} {g : Sl → Res Bool} {t : Tgt} {e : Sl} : ∀ {its zs : List D}, compL f g t its e = .ok zs → zs.length ≤ its.length
  | [], zs, h => by simp only [compL, Res.ok.injEq] at h; subst h; exact Nat.le_refl _
  | x :: its, zs, h => by
    simp only [compL] at h
    cases q1 : bindT t x e with
    | none => simp [q1] at h
    | some e1 =>
      simp only [q1] at h
      cases q2 : g e1 with
      | ok b =>
        simp only [q2, Res.bind_ok] at h
        cases b with
        | true =>
          rw [if_pos rfl] at h
          cases q3 : f e1 with
          | ok y =>
            simp only [q3, Res.bind_ok] at h
            cases q4 : compL f g t its e with
            | ok ys => simp only [q4, Res.bind_ok, Res.ok.injEq] at h; subst h; have := compL_len q4; simp only [List.length_cons]; omega
            | ex c => simp [q4] at h
            | stuck => simp [q4] at h
          | ex c => simp [q3] at h
          | stuck => simp [q3] at h
        | false => rw [if_neg (by decide)] at h; have := compL_len h; simp only [List.length_cons]; omega
      | ex c => simp [q2] at h
      | stuck => simp [q2] at h
/-- one turn -/
theorem compL_cons {f : Sl → Res D} {g : Sl → Res Bool} {t : Tgt} {e : Sl} {x : D} {its zs : List D} (h : compL f g t (x :: its) e = .ok zs) :
    ∃ e1 b, bindT t x e = some e1 ∧ g e1 = .ok b ∧ ((b = true ∧ ∃ y ys, f e1 = .ok y ∧ compL f g t its e = .ok ys ∧ zs = y :: ys) ∨ (b = false ∧ compL f g t its e = .ok zs)) := by
  simp only [compL] at h
  cases q1 : bindT t x e with
  | none => simp [q1] at h
  | some e1 =>
    simp only [q1] at h
    cases q2 : g e1 with
    | ok b =>
      simp only [q2, Res.bind_ok] at h
      cases b with
      | true =>
        rw [if_pos rfl] at h
        cases q3 : f e1 with
        | ok y =>
          simp only [q3, Res.bind_ok] at h
          cases q4 : compL f g t its e with
          | ok ys => simp only [q4, Res.bind_ok, Res.ok.injEq] at h; exact ⟨e1, true, rfl, q2, .inl ⟨rfl, y, ys, q3, rfl, h.symm⟩⟩
          | ex c => simp [q4] at h
          | stuck => simp [q4] at h
        | ex c => simp [q3] at h
        | stuck => simp [q3] at h
      | false => rw [if_neg (by decide)] at h; exact ⟨e1, false, rfl, q2, .inr ⟨rfl, h⟩⟩
    | ex c => simp [q2] at h
    | stuck => simp [q2] at h
theorem Dens.mono {K : PySem.W.Frag} {a1 b1 : Addr → Prop} {H : Hp} {vs : List V} {ds : List D} (h : Dens K a1 H vs ds) (f : ∀ a, H a ≠ none → b1 a → a1 a) : Dens K b1 H vs ds := h.imp (fun _ _ z => z) f
theorem tLc_of {own : List Nat} {t : Tgt} {k : SrcK} {IFS : List Exp} (hown : own = t.ix) {σ : L2.St} {H : Hp} {Q : VK} (h : liftN P 2 (ev Φ (.comp E t k ES IFS)) σ H Q) :
    tLc (liftI P (srcs Φ k ES)) (liftG P.K t) (fun σ H Q => ∃ i : ((av : Addr → Prop) ×' (h0 : Hp) ×' (∀ a, av a → h0 a ≠ none)), liftTs (P.blk i.1 i.2.1 i.2.2) (evt Φ IFS) σ H Q) (fun σ H Q => ∃ i : ((av : Addr → Prop) ×' (h0 : Hp) ×' (∀ a, av a → h0 a ≠ none)), lift (P.blk i.1 i.2.1 i.2.2) 2 (ev Φ E) σ H Q) own σ H Q := by
  subst hown
  obtain ⟨e, R, p⟩ := h
  refine ⟨e, R, ?_⟩
  simp only [ev] at p
  have p : PostN P e σ 2 H Q ((srcs Φ k ES e).bind fun its => if (freeOf e t.ix && decide (its.length ≤ line)) = true then (noEx (compL (fun e' => ev Φ E e') (fun e' => evt Φ IFS e') t its (wipeS e t.ix))).bind fun ys => .ok (.list ys) else .stuck) := by
    unfold srcs
    cases q : evs Φ ES e with
    | ok xs => simpa only [q, Res.bind_ok] using p
    | ex c => simpa only [q, Res.bind_ex] using p
    | stuck => simpa only [q, Res.bind_stuck] using p
  cases q : srcs Φ k ES e with
  | ex c => rw [q] at p; exact p
  | stuck => rw [q] at p; exact p
  | ok its =>
    rw [q] at p
    simp only [Res.bind_ok] at p
    intro J H1 s1 io D nD
    have R1 := R.same s1
    cases hf : (freeOf e t.ix && decide (its.length ≤ line)) with
    | false => rw [hf, if_neg (by decide)] at p; exact p.elim
    | true =>
      rw [hf, if_pos rfl] at p
      simp only [Bool.and_eq_true, decide_eq_true_eq] at hf
      cases hz : compL (fun e' => ev Φ E e') (fun e' => evt Φ IFS e') t its (wipeS e t.ix) with
      | ex c => rw [hz] at p; exact p.elim
      | stuck => rw [hz] at p; exact p.elim
      | ok zs =>
        rw [hz] at p
        simp only [noEx, Res.bind_ok] at p
        have zl : zs.length ≤ its.length := compL_len hz
        -- the block's relation, at any later heap
        let avD : Addr → Prop := fun a => P.Av a ∨ a = D
        refine ⟨fun i m H2 => m = its.length - i ∧ i ≤ its.length ∧ Same H1 H2 ∧ ∃ acc ys zs', H2 D = some (.lst acc) ∧ Dens P.K (fun a => avo P e σ a ∨ a = D) H2 acc ys ∧ compL (fun e' => ev Φ E e') (fun e' => evt Φ IFS e') t (its.drop i) (wipeS e t.ix) = .ok zs' ∧ zs = ys ++ zs',
          ⟨its.length, by omega, Nat.zero_le _, same_upd nD, [], [], zs, upd_same, .nil, by simpa using hz, rfl⟩, ?_⟩
        rintro i m H2 ⟨rfl, hi, s2, acc, ys, zs', hD, dn, hc, hzs⟩
        obtain ⟨hgo, hstop, hy⟩ := io i H2 fun b o q _ => s2 _ _ q
        by_cases hlt : i < its.length
        · refine .inr ⟨hgo hlt, fun H' => Same H1 H' ∧ ∃ acc ys zs', H' D = some (.lst acc) ∧ Dens P.K (fun a => avo P e σ a ∨ a = D) H' acc ys ∧ compL (fun e' => ev Φ E e') (fun e' => evt Φ IFS e') t (its.drop (i + 1)) (wipeS e t.ix) = .ok zs' ∧ zs = ys ++ zs', fun H' hN => ⟨its.length - (i + 1), by omega, rfl, by omega, hN⟩, fun x H3 y => ?_⟩
          rw [List.drop_eq_getElem_cons hlt] at hc
          obtain ⟨e1, b, hb, hg, hrest⟩ := compL_cons hc
          obtain ⟨s3, dx⟩ := hy x H3 y _ (List.getElem?_eq_getElem hlt)
          -- the relation in the block
          have noD : ¬ Owns (wipeS e t.ix) (L2.wipe σ t.ix) D := fun z => (R1.wipe t.ix).own_ne z nD
          have s13 : Same H1 H3 := s2.trans s3
          have hD3 : H3 D = some (.lst acc) := s3 _ _ hD
          have hav : ∀ a, avD a → lessOwn (wipeS e t.ix) (L2.wipe σ t.ix) H3 a ≠ none := fun a z => by
            unfold lessOwn
            rcases z with z | rfl
            · rw [if_neg fun w => (R1.wipe t.ix).own_av w z]
              exact ((R1.wipe t.ix).same s13).av_ne (.inl z)
            · rw [if_neg noD, hD3]
              exact fun z => nomatch z
          have RB : Rel (P.blk avD (lessOwn (wipeS e t.ix) (L2.wipe σ t.ix) H3) hav) (wipeS e t.ix) (L2.wipe σ t.ix) H3 := by
            have R3 := (R1.wipe t.ix)
            refine ⟨R3.len, fun j s o q1 q2 => ((R3.slot j s o q1 q2).imp fun a ha z => ?_).same s13, R3.inj, fun b o q => ?_, fun a z => ?_⟩
            · rcases z with (z | rfl) | z
              · exact .inl z
              · exact absurd nD ha
              · exact .inr z
            · have q : lessOwn (wipeS e t.ix) (L2.wipe σ t.ix) H3 b = some o := q
              unfold lessOwn at q
              split at q
              · cases q
              · exact q
            · show lessOwn (wipeS e t.ix) (L2.wipe σ t.ix) H3 a = none
              unfold lessOwn
              rw [if_pos z]
          have ownsub : ∀ b, Owns (wipeS e t.ix) (L2.wipe σ t.ix) b → Owns e σ b := fun b ⟨j, s, q1, q2, q3⟩ => by
            have : ∀ {vs : List Nat} {j : Nat} {s : Slot}, (wipeS e vs)[j]? = some s → isOwn s = true → e[j]? = some s := by
              intro vs
              induction vs with
              | nil => intro j s h _; exact h
              | cons v vs ih =>
                intro j s h hs
                unfold wipeS at h
                by_cases hv : v = j
                · subst hv
                  rw [List.getElem?_set_self'] at h
                  cases q : (wipeS e vs)[v]? with
                  | none => rw [q] at h; simp at h
                  | some w => rw [q] at h; simp only [Option.map_eq_map, Option.map_some, Function.const_apply, Option.some.injEq] at h; subst h; cases hs
                · rw [List.getElem?_set_ne hv] at h
                  exact ih h hs
            exact ⟨j, s, this q1 q2, q2, (wipe_some q3).1⟩
          refine ⟨P.blk avD _ hav, wipeS e t.ix, _, e1, rfl, RB, dx.imp (fun _ _ z => z) (fun b _ z => ?_), hb, fun σ2 R2 g2 => ⟨?_, ⟨avD, _, hav⟩, e1, R2, ?_⟩⟩
          · rcases z with (z | rfl) | z
            · exact .inl (.inl z)
            · exact .inr nD
            · exact .inl (.inr (ownsub b z))
          · rw [g2.wipe]
            apply List.ext_getElem?
            intro j
            by_cases hj : j ∈ t.ix
            · rw [wipe_in hj, wipe_in hj, wipe_length]
            · rw [wipe_out hj]
          · rw [hg]
            intro H4 s4
            rcases hrest with ⟨rfl, y', ys', hfy, hc', rfl⟩ | ⟨rfl, hc'⟩
            · rw [if_pos rfl]
              refine ⟨⟨avD, _, hav⟩, e1, R2.same s4, ?_⟩
              rw [hfy]
              intro v H5 s5 hv
              have s15 : Same H1 H5 := (s13.trans s4).trans s5
              have hD5 : H5 D = some (.lst acc) := s5 _ _ (s4 _ _ hD3)
              have sm := bindT_out hb
              have d5 : Den P.K (fun a => avo P e σ a ∨ a = D) H5 v y' := hv.d2.imp (fun _ _ z => z) fun a _ z => by
                rcases z with (z | z) | rfl
                · exact .inl (.inl z)
                · obtain ⟨j, s, q1, q2, q3⟩ := z
                  obtain ⟨r1, r2⟩ := wipeS_own (σ := σ) q1 q2 hf.1
                  have hj : j ∉ t.ix := fun hj => by
                    obtain ⟨x0, r⟩ := (sm j).2 hj
                    have := hf.1
                    unfold freeOf at this
                    rw [List.all_eq_true] at this
                    have := this j hj
                    rw [q1] at this
                    simp only [q2] at this
                    exact absurd this (by decide)
                  exact .inr ⟨j, s, by rw [(sm j).1 hj]; exact r1, q2, by rw [g2.2 j hj, r2]; exact q3⟩
                · exact .inl (.inr rfl)
              have hk5 : (∀ ys, H5 D ≠ some (.tup ys)) ∧ ∀ o u, H5 D ≠ some (.frz o u) := ⟨fun _ z => by (rw [hD5] at z; cases z), fun _ _ z => by (rw [hD5] at z; cases z)⟩
              have acl : acc.length < sizeLine := by
                have h1 := dn.length
                have h2 : zs.length = ys.length + (ys'.length + 1) := by rw [hzs, List.length_append, List.length_cons]
                exact line_lt (by have := hf.2; omega)
              refine ⟨acc, hD5, acl, fun b o q => ?_, acc ++ [v], ys ++ [y'], ys', upd_same, ?_, hc', by rw [hzs, List.append_assoc]; rfl⟩
              · rw [upd_ne (fun z => by rw [z, nD] at q; cases q)]
                exact s15 _ _ q
              · have d6 := ((dn.same s3).same s4).same s5
                exact (d6.append (.cons d5 .nil)).upd hk5.1 hk5.2 (.inr rfl)
            · rw [if_neg (by decide)]
              exact ⟨s13.trans s4, acc, ys, zs', s4 _ _ hD3, (dn.same s3).same s4, hc', hzs⟩
        · refine .inl ⟨hstop (by omega), ?_⟩
          rw [List.drop_of_length_le (by omega)] at hc
          simp only [compL, Res.ok.injEq] at hc
          subst hc
          rw [List.append_nil] at hzs
          subst hzs
          have nD0 : H D = none := by
            cases q : H D with
            | none => rfl
            | some o => rw [s1 _ _ q] at nD; cases nD
          exact p _ H2 (fun b o q => s2 _ _ (s1 _ _ q)) ⟨D, acc, rfl, nD0, hD, dn⟩
end
end Rf

set_option Elab.async false
set_option linter.all false
set_option maxRecDepth 100000
set_option maxHeartbeats 1000000
/-! Rf, part H: statements. -/
namespace Rf
open PySem PySem.Spec PyProof.Rows L2
section
variable {X : Cx} {P : Pk} {N : List Str} {sc : Scope} {m : Nat} {Φ : FT} {F : Nat} {A B E : Exp} {ES IFS : List Exp} {a b c tg : Expr} {es : List Expr} {pos : Pos}
theorem Ctx.at (C : Ctx X P N sc) (h0 : Hp) (hav : ∀ a, P.Av a → h0 a ≠ none) : Ctx X (P.at h0 hav) N sc := ⟨C.hK, C.hN, C.nd, C.hs, C.calm, C.un, C.tk, C.po⟩
theorem Ctx.blk (C : Ctx X P N sc) {scope : Scope} (av : Addr → Prop) (h0 : Hp) (hav : ∀ a, av a → h0 a ≠ none) (s : Shared) (H : Hp) (Cl : Addr) (cl : List (Str × Addr)) (fp : List Addr) : Ctx (X.blk s H scope (compEnvC scope cl Cl X.env) fp) (P.blk av h0 hav) N (relS scope sc) :=
  ⟨C.hK, C.hN, C.nd, by rw [← C.hs]; rfl, C.calm, C.un, takes0, PassesOwn.never⟩
/-- a comprehension -/
theorem se_comp (C : Ctx X P N sc) {scope : Scope} {own : List (Str × Nat)} {t : Tgt} {k : SrcK} {ifs : List Expr} {iter : Expr} (hi : PI X tg iter (liftI P (srcs Φ k ES))) (hown : own.map (·.2) = t.ix) (ok : BlkOk N sc scope own)
    (hg : ∀ (s : Shared) (H : Hp) (Cl : Addr) (cl : List (Str × Addr)) (fp : List Addr) (Pb : Pk), Ctx (X.blk s H scope (compEnvC scope cl Cl X.env) fp) Pb N (relS scope sc) → PG (X.blk s H scope (compEnvC scope cl Cl X.env) fp) tg (liftG P.K t))
    (ht : ∀ (s : Shared) (H : Hp) (Cl : Addr) (cl : List (Str × Addr)) (fp : List Addr) (av : Addr → Prop) (h0 : Hp) (hav : ∀ a, av a → h0 a ≠ none), Ctx (X.blk s H scope (compEnvC scope cl Cl X.env) fp) (P.blk av h0 hav) N (relS scope sc) → PTs (X.blk s H scope (compEnvC scope cl Cl X.env) fp) ifs (liftTs (P.blk av h0 hav) (evt Φ IFS)))
    (he : ∀ (s : Shared) (H : Hp) (Cl : Addr) (cl : List (Str × Addr)) (fp : List Addr) (av : Addr → Prop) (h0 : Hp) (hav : ∀ a, av a → h0 a ≠ none), Ctx (X.blk s H scope (compEnvC scope cl Cl X.env) fp) (P.blk av h0 hav) N (relS scope sc) → PE (X.blk s H scope (compEnvC scope cl Cl X.env) fp) a (lift (P.blk av h0 hav) 2 (ev Φ E)))
    (hs : ∀ x, foldedSetIterable iter X.env x = pure x := by intro _; rfl) :
    PE X (.ListComp a [⟨tg, iter, ifs, 0⟩] scope pos) (liftN P 2 (ev Φ (.comp E t k ES IFS))) :=
  PE.imp (pe_lc C.calm (by rw [C.hN]; exact C.nd) hi (by rw [C.hN, C.hs]; exact ok)
    (fun s H Cl cl fp => hg s H Cl cl fp (P.blk (fun _ => False) (fun _ => none) (fun _ z => z.elim)) (C.blk _ _ _ s H Cl cl fp))
    (fun s H Cl cl fp => PTs.ofAll fun i => ht s H Cl cl fp i.1 i.2.1 i.2.2 (C.blk _ _ _ s H Cl cl fp))
    (fun s H Cl cl fp => PE.ofAll fun i => he s H Cl cl fp i.1 i.2.1 i.2.2 (C.blk _ _ _ s H Cl cl fp)) hs) fun σ H Q h => tLc_of hown h
/-- name = a comprehension, in one row -/
theorem ss_lc {f : Sl → Out} (C : Ctx X P N sc) {y : Str} {py cpos : Pos} {i : Nat} {scope : Scope} {own : List (Str × Nat)} {t : Tgt} {k : SrcK} {ifs : List Expr} {iter : Expr} (hy : N[i]? = some y) (hyl : sc.names.lookup y = some .local)
    (hsw : swapsWith (.ListComp a [⟨tg, iter, ifs, 0⟩] scope cpos) (some (.Name y py)) pos.line X.env = pure true)
    (hi : PI X tg iter (liftI P (srcs Φ k ES))) (hown : own.map (·.2) = t.ix) (ok : BlkOk N sc scope own)
    (hg : ∀ (s : Shared) (H : Hp) (Cl : Addr) (cl : List (Str × Addr)) (fp : List Addr) (Pb : Pk), Ctx (X.blk s H scope (compEnvC scope cl Cl X.env) fp) Pb N (relS scope sc) → PG (X.blk s H scope (compEnvC scope cl Cl X.env) fp) tg (liftG P.K t))
    (ht : ∀ (s : Shared) (H : Hp) (Cl : Addr) (cl : List (Str × Addr)) (fp : List Addr) (av : Addr → Prop) (h0 : Hp) (hav : ∀ a, av a → h0 a ≠ none), Ctx (X.blk s H scope (compEnvC scope cl Cl X.env) fp) (P.blk av h0 hav) N (relS scope sc) → PTs (X.blk s H scope (compEnvC scope cl Cl X.env) fp) ifs (liftTs (P.blk av h0 hav) (evt Φ IFS)))
    (he : ∀ (s : Shared) (H : Hp) (Cl : Addr) (cl : List (Str × Addr)) (fp : List Addr) (av : Addr → Prop) (h0 : Hp) (hav : ∀ a, av a → h0 a ≠ none), Ctx (X.blk s H scope (compEnvC scope cl Cl X.env) fp) (P.blk av h0 hav) N (relS scope sc) → PE (X.blk s H scope (compEnvC scope cl Cl X.env) fp) a (lift (P.blk av h0 hav) 2 (ev Φ E)))
    (hf : ∀ D σ H, liftS P f D σ H → tAsg (liftN P 2 (ev Φ (.comp E t k ES IFS))) (gName i) D σ H)
    (hs : ∀ x, foldedSetIterable iter X.env x = pure x := by intro _; rfl) :
    PS X (.Assign [.Name y py] (.ListComp a [⟨tg, iter, ifs, 0⟩] scope cpos) pos) (liftS P f) :=
  PS.imp (ps_setLc C.calm (by rw [C.hN]; exact C.nd) (by rw [C.hN]; exact hy) (by rw [C.hs]; exact hyl) hsw hi (by rw [C.hN, C.hs]; exact ok)
    (fun s H Cl cl fp => hg s H Cl cl fp (P.blk (fun _ => False) (fun _ => none) (fun _ z => z.elim)) (C.blk _ _ _ s H Cl cl fp))
    (fun s H Cl cl fp => PTs.ofAll fun i => ht s H Cl cl fp i.1 i.2.1 i.2.2 (C.blk _ _ _ s H Cl cl fp))
    (fun s H Cl cl fp => PE.ofAll fun i => he s H Cl cl fp i.1 i.2.1 i.2.2 (C.blk _ _ _ s H Cl cl fp)) hs) fun D σ H h => tLc_of hown (hf D σ H h)

/-! ### assignments -/
theorem bindS {e : Sl} {σ : L2.St} {H : Hp} (R : Rel P e σ H) {D : Ends} {r : Res Rf.D} {G : Rf.D → Out} (h : PostS P D (Out.ofR r e G)) : Post P e σ m H (fun v H1 => ∃ x, r = .ok x ∧ Same H H1 ∧ Rel P e σ H1 ∧ DenM P e σ m H1 v x ∧ PostS P D (G x)) r := by
  cases r with
  | ok x => exact fun v H1 s d => ⟨x, rfl, s, R.same s, d, h⟩
  | ex c => exact fun H1 s => h σ H1 (R.same s)
  | stuck => exact h.elim
theorem bindSN {e : Sl} {σ : L2.St} {H : Hp} (R : Rel P e σ H) {D : Ends} {r : Res Rf.D} {G : Rf.D → Out} (h : PostS P D (Out.ofR r e G)) : PostN P e σ m H (fun v H1 => ∃ x, r = .ok x ∧ Same H H1 ∧ Rel P e σ H1 ∧ Fr2 P.K (av1 P e σ m) H v H1 x ∧ PostS P D (G x)) r := by
  cases r with
  | ok x => exact fun v H1 s d => ⟨x, rfl, s, R.same s, d, h⟩
  | ex c => exact fun H1 s => h σ H1 (R.same s)
  | stuck => exact h.elim
theorem bindST {e : Sl} {σ : L2.St} {H : Hp} (R : Rel P e σ H) {D : Ends} {r : Res Rf.D} {G : Rf.D → Out} (hG : ∀ d, (∀ k, d ≠ .bool k) → G d = .stuck) (h : PostS P D (Out.ofR r e G)) : PostT P σ H (fun k H1 => Same H H1 ∧ Rel P e σ H1 ∧ PostS P D (G (.bool k))) r := by
  cases r with
  | ok d =>
    cases d with
    | bool k => exact fun H1 s => ⟨s, R.same s, h⟩
    | none => have := hG .none (fun _ z => nomatch z); rw [Out.ofR_ok, this] at h; exact h.elim
    | int i => have := hG (.int i) (fun _ z => nomatch z); rw [Out.ofR_ok, this] at h; exact h.elim
    | str i => have := hG (.str i) (fun _ z => nomatch z); rw [Out.ofR_ok, this] at h; exact h.elim
    | list i => have := hG (.list i) (fun _ z => nomatch z); rw [Out.ofR_ok, this] at h; exact h.elim
    | tuple i => have := hG (.tuple i) (fun _ z => nomatch z); rw [Out.ofR_ok, this] at h; exact h.elim
    | dict i => have := hG (.dict i) (fun _ z => nomatch z); rw [Out.ofR_ok, this] at h; exact h.elim
  | ex c => exact fun H1 s => h σ H1 (R.same s)
  | stuck => exact h.elim
theorem PostN.weaken {e : Sl} {σ : L2.St} {H : Hp} {Q Q' : VK} {r : Res Rf.D} (h : PostN P e σ m H Q r) (w : ∀ v H', Q v H' → Q' v H') : PostN P e σ m H Q' r := by
  cases r with
  | ok d => exact fun v H' s hd => w _ _ (h v H' s hd)
  | ex c => exact h
  | stuck => exact h
theorem asg_of {i : Nat} {D : Ends} {σ : L2.St} {H : Hp} (h : liftS P (exec Φ F (.asg (.nm i) A)) D σ H) : tAsg (lift P 2 (ev Φ A)) (gName i) D σ H := by
  obtain ⟨e, R, p⟩ := h
  refine ⟨e, R, ?_⟩
  simp only [exec] at p
  refine Post.weaken (bindS (m := 2) R p) fun v H1 ⟨x, _, s, R1, hd, q⟩ => ?_
  simp only [bindT] at q
  split at q
  · rename_i e' hb
    split at hb
    · simp only [Option.some.injEq] at hb; subst hb; exact q _ H1 (R1.setD hd.d2)
    · cases hb
  · exact q.elim
theorem own_of {i : Nat} {D : Ends} {σ : L2.St} {H : Hp} (h : liftS P (exec Φ F (.own i A)) D σ H) : tAsg (liftN P 2 (ev Φ A)) (gName i) D σ H := by
  obtain ⟨e, R, p⟩ := h
  refine ⟨e, R, ?_⟩
  simp only [exec] at p
  refine PostN.weaken (bindSN (m := 2) R p) fun v H1 ⟨x, _, s, R1, hd, q⟩ => ?_
  cases x with
  | list xs =>
    obtain ⟨l, us, rfl, nl, hl, hx⟩ := hd
    simp only [ownS] at q
    split at q
    · exact q _ H1 (R.setNew nl s ⟨l, us, rfl, hl, hx⟩)
    · exact q.elim
  | dict kvs =>
    obtain ⟨l, us, rfl, nl, hl, hx⟩ := hd
    simp only [ownS] at q
    by_cases hk : keysOk kvs = true
    · rw [if_pos hk] at q
      simp only [] at q
      split at q
      · exact q _ H1 (R.setNew nl s ⟨l, us, rfl, hl, hx⟩)
      · exact q.elim
    · rw [if_neg hk] at q; exact q.elim
  | _ => exact q.elim
theorem ss_set (C : Ctx X P N sc) {i : Nat} {x : Str} {px : Pos} (hi : N[i]? = some x) (hx : Loc sc x) (he : PE X a (lift P 2 (ev Φ A))) (hs : swapsWith a (some (.Name x px)) pos.line X.env = pure false := by rfl) (hf : X.fn x = true ∨ X.env.scope.names.lookup x = some .local := by first | exact .inl rfl | exact .inr rfl) :
    PS X (.Assign [.Name x px] a pos) (liftS P (exec Φ F (.asg (.nm i) A))) :=
  PS.imp (ps_set (by rw [C.hN]; exact C.nd) (by rw [C.hN]; exact hi) (by rw [C.hs]; exact hx) he hs hf) fun D σ H h => asg_of h
theorem ss_own (C : Ctx X P N sc) {i : Nat} {x : Str} {px : Pos} (hi : N[i]? = some x) (hx : Loc sc x) (he : PE X a (liftN P 2 (ev Φ A))) (hs : swapsWith a (some (.Name x px)) pos.line X.env = pure false := by rfl) (hf : X.fn x = true ∨ X.env.scope.names.lookup x = some .local := by first | exact .inl rfl | exact .inr rfl) :
    PS X (.Assign [.Name x px] a pos) (liftS P (exec Φ F (.own i A))) :=
  PS.imp (ps_set (by rw [C.hN]; exact C.nd) (by rw [C.hN]; exact hi) (by rw [C.hs]; exact hx) he hs hf) fun D σ H h => own_of h
theorem asgN_of {i : Nat} {D : Ends} {σ : L2.St} {H : Hp} (h : liftS P (exec Φ F (.asg (.nm i) A)) D σ H) : tAsg (liftN P 2 (ev Φ A)) (gName i) D σ H := by
  obtain ⟨e, R, p⟩ := asg_of h
  exact ⟨e, R, PostN.post R p⟩
theorem ss_tgt (C : Ctx X P N sc) {t : Tgt} (hg : PG X tg (liftG P.K t)) (he : PE X a (lift P 2 (ev Φ A))) (hs : swapsWithSole [tg] a pos.line X.env = pure false := by rfl) (hw : swappedStores [tg] a X.env = pure none := by rfl) (h1 : (assignEach [tg] X.env).map (·.2) = [assign tg X.env] := by rfl) :
    PS X (.Assign [tg] a pos) (liftS P (exec Φ F (.asg t A))) := by
  refine PS.imp (ps_asg he hg hs hw h1) fun D σ H ⟨e, R, p⟩ => ⟨e, R, ?_⟩
  simp only [exec] at p
  refine Post.weaken (bindS (m := 2) R p) fun v H1 ⟨x, _, s, R1, hd, q⟩ => ?_
  cases hb : bindT t x e with
  | none => rw [hb] at q; exact q.elim
  | some e' => rw [hb] at q; exact ⟨P, e, x, e', rfl, R1, hd.d2, hb, fun σ1 R2 _ => q _ _ R2⟩
theorem ss_par (C : Ctx X P N sc) {i j : Nat} {x y : Str} {px py pt : Pos} {kt k2 : Nat} {pt2 : Pos} (hi : N[i]? = some x) (hj : N[j]? = some y) (hij : i ≠ j) (hx : sc.names.lookup x = some .local) (hy : sc.names.lookup y = some .local) (ha : PA X [a, b] (lifts P 2 (evs Φ [A, B])))
    (hw : swappedStores [.Tuple [.Name x px, .Name y py] kt pt] (.Tuple [a, b] k2 pt2) X.env = pure (some [x, y])) (hs : swapsWithSole [.Tuple [.Name x px, .Name y py] kt pt] (.Tuple [a, b] k2 pt2) pos.line X.env = pure false := by rfl) :
    PS X (.Assign [.Tuple [.Name x px, .Name y py] kt pt] (.Tuple [a, b] k2 pt2) pos) (liftS P (exec Φ F (.par i j A B))) := by
  refine PS.imp (ps_par C.calm (by rw [C.hN]; exact C.nd) (by rw [C.hN]; exact hi) (by rw [C.hN]; exact hj) hij (by rw [C.hs]; exact hx) (by rw [C.hs]; exact hy) ha hw hs) fun D σ H ⟨e, R, p⟩ => ⟨e, R, ?_⟩
  simp only [exec] at p
  cases q1 : ev Φ A e with
  | ex c => simp only [evs, q1, Res.bind_ex, Out.ofR_ex] at p ⊢; exact fun H1 s => p σ H1 (R.same s)
  | stuck => simp only [q1, Out.ofR_stuck] at p; exact p.elim
  | ok x1 =>
    cases q2 : ev Φ B e with
    | ex c => simp only [evs, q1, q2, Res.bind_ex, Res.bind_ok, Out.ofR_ex, Out.ofR_ok] at p ⊢; exact fun H1 s => p σ H1 (R.same s)
    | stuck => simp only [q1, q2, Out.ofR_stuck, Out.ofR_ok] at p; exact p.elim
    | ok y1 =>
      simp only [evs, q1, q2, Res.bind_ok, Out.ofR_ok] at p ⊢
      intro vs H1 s hd
      match vs, hd with
      | [v, w], hd =>
        refine ⟨v, w, rfl, ?_⟩
        split at p
        · have R1 := R.same s
          have r2 := R1.setD (i := i) hd.1.d2
          refine p _ H1 (r2.setD (hd.2.1.d2.imp (fun _ _ z => z) fun b _ z => z.imp id (own_set_d rfl)))
        · exact p.elim
theorem ss_aug (C : Ctx X P N sc) (op : BOp) (hop : op ≠ .pow) {i : Nat} {x : Str} {px : Pos} (hi : N[i]? = some x) (hx : Loc sc x) (he : PE X a (lift P 1 (ev Φ A))) (hf : X.fn x = true ∨ X.env.scope.names.lookup x = some .local := by first | exact .inl rfl | exact .inr rfl) :
    PS X (.AugAssign (.Name x px) (bOp op) a pos) (liftS P (exec Φ F (.aug i op A))) := by
  have o : PIp X (bOp op) (RB X.K (augD op)) := op_augD op hop
  rw [C.hK] at o
  refine PS.imp (ps_aug (by rw [C.hN]; exact C.nd) (by rw [C.hN]; exact hi) (by rw [C.hs]; exact hx) he o hf) fun D σ H ⟨e, R, p⟩ => ?_
  simp only [exec] at p
  cases q : e[i]? with
  | none => rw [q] at p; exact p.elim
  | some s =>
    rw [q] at p
    cases s with
    | d x1 =>
      obtain ⟨o1, h1, v, rfl, hd⟩ := R.at q
      refine ⟨v, h1, e, R, ?_⟩
      refine Post.weaken (bindS (m := 1) R p) fun w H1 ⟨y, _, s, R1, hy, q⟩ => ?_
      cases qz : augD op x1 y with
      | none => rw [qz] at q; exact q.elim
      | some z =>
        rw [qz] at q
        have R1 := R.same s
        refine ⟨_, _, _, x1, y, z, (hd.same s).mm (m := 1), hy, qz, fun u H2 s2 hz => q _ H2 ((R1.same s2).setD ?_)⟩
        exact (hz.two (c0 := avo P e σ) fun a z => R1.av_ne z).one
    | _ => exact p.elim

/-! ### own lists and dicts -/
theorem ss_app (C : Ctx X P N sc) {i : Nat} {x : Str} {px apos cpos : Pos} (hi : N[i]? = some x) (hv : Vis sc x) (he : PE X a (lift P 2 (ev Φ A)))
    (h1 : (((backTo cpos (starEach [a] X.env)).all fun x => !x.1) && (backToKw cpos (keywordEach [] X.env)).all (fun x => x.1.isSome) && decide (([a] : List Expr).length + ([] : List Keyword).length + (if ([] : List Keyword).isEmpty then 0 else 1) < 30)) = true := by rfl)
    (h2 : (apos.endLine == cpos.line) = true := by rfl) (h3 : starEach [a] X.env = (false, eval a X.env) :: starEach [] X.env := by rfl) (h4 : ((backTo cpos (starEach [] X.env)).any fun x => x.1) = false := by rfl) (hd : (x == ("__debug__" : Str)) = false := by decide) (hcd : (x == ("__classdict__" : Str)) = false := by decide)
    (hb : attributeBase (.Name x px) "append" X.env (eval (.Name x px) X.env) = eval (.Name x px) X.env := by rfl) (hs : swapsWith (.Call (.Attribute (.Name x px) "append" apos) [a] [] cpos) none pos.line X.env = pure false := by rfl) :
    PS X (.Expr (.Call (.Attribute (.Name x px) "append" apos) [a] [] cpos) pos) (liftS P (exec Φ F (.app i A))) := by
  refine PS.imp (ps_expr (pe_bm PySem.F.plainAttrs_list PySem.F.slot_list_append PySem.F.type_list_append mt_append (pe_var (i := i) (by rw [C.hN]; exact hi) (by rw [C.hs]; exact hv) hd hcd) (pa_cons he pa_nil h3) hb h1 h2 h3 h4) hs) fun D σ H ⟨e, R, p⟩ => ?_
  simp only [exec] at p
  cases q : e[i]? with
  | none => rw [q] at p; exact p.elim
  | some s =>
    rw [q] at p
    cases s with
    | ol xs =>
      obtain ⟨o1, h1, l, us, rfl, hl, dd⟩ := R.at q
      refine ⟨_, h1, .inl ⟨rfl, us, .inl (.inl hl)⟩, e, R, ?_⟩
      refine Post.weaken (bindS (m := 2) R p) fun w H1 ⟨y, _, s, R1, hy, p⟩ => ?_
      split at p
      · rename_i hz
        refine ⟨l, us, w, rfl, rfl, s _ _ hl, by rw [dd.length]; exact line_lt hz, p σ _ (R1.updOwn q rfl rfl h1 ⟨l, us ++ [w], rfl, upd_same, ?_⟩)⟩
        exact ((dd.same s).append (.cons hy.d2 .nil)).upd (R1.kinds _ ⟨i, _, q, rfl, h1⟩).1 (R1.kinds _ ⟨i, _, q, rfl, h1⟩).2 (.inr ⟨i, _, q, rfl, h1⟩)
      · exact p.elim
    | _ => exact p.elim
theorem ss_setl (C : Ctx X P N sc) {i : Nat} {x : Str} {px tp : Pos} (hi : N[i]? = some x) (hv : Vis sc x) (he : PE X a (lift P 2 (ev Φ A))) (hk : PE X b (lift P 0 (ev Φ B))) (hd : (x == ("__debug__" : Str)) = false := by decide) (hcd : (x == ("__classdict__" : Str)) = false := by decide)
    (ha : ∀ v, assign (.Subscript (.Name x px) b tp) X.env v = (do
      let ov ← holding [v] (eval (.Name x px) X.env)
      let iv ← holding [v, ov] (eval b X.env)
      standAt tp
      holding [v, ov, iv] (setItem ov iv v)
      release [v, ov, iv] []) := by intro _; rfl) (hs : swapsWithSole [.Subscript (.Name x px) b tp] a pos.line X.env = pure false := by rfl) (hw : swappedStores [.Subscript (.Name x px) b tp] a X.env = pure none := by rfl) (h1 : (assignEach [.Subscript (.Name x px) b tp] X.env).map (·.2) = [assign (.Subscript (.Name x px) b tp) X.env] := by rfl) :
    PS X (.Assign [.Subscript (.Name x px) b tp] a pos) (liftS P (exec Φ F (.setl i B A))) := by
  refine PS.imp (ps_asg he (pg_sub (pe_var (i := i) (by rw [C.hN]; exact hi) (by rw [C.hs]; exact hv) hd hcd) hk set_list ha) hs hw h1) fun D σ H ⟨e, R, p⟩ => ⟨e, R, ?_⟩
  simp only [exec] at p
  cases q : e[i]? with
  | none => rw [q] at p; exact p.elim
  | some s =>
    rw [q] at p
    cases s with
    | ol xs =>
      obtain ⟨o1, h1, l, us, rfl, hl, dd⟩ := R.at q
      refine Post.weaken (bindS (m := 2) R p) fun w H1 ⟨y, _, s, R1, hy, p⟩ => ⟨_, h1, e, R1, ?_⟩
      refine Post.weaken (bindS (m := 0) R1 p) fun k H2 ⟨k', _, s2, R2, hk', p⟩ => ?_
      cases k' with
      | int k' =>
        obtain rfl := d2_int hk'
        simp only [] at p
        cases qj : ixN xs.length k' with
        | none => rw [qj] at p; exact p.elim
        | some j =>
          rw [qj] at p
          refine ⟨l, us, k', j, rfl, rfl, s2 _ _ (s _ _ hl), by rw [dd.length]; exact qj, p σ _ (R2.updOwn q rfl rfl h1 ⟨l, us.set j w, rfl, upd_same, ?_⟩)⟩
          exact (((dd.same s).same s2).set j (hy.d2.same s2)).upd (R2.kinds _ ⟨i, _, q, rfl, h1⟩).1 (R2.kinds _ ⟨i, _, q, rfl, h1⟩).2 (.inr ⟨i, _, q, rfl, h1⟩)
      | _ => exact p.elim
    | _ => exact p.elim
theorem ss_setd (C : Ctx X P N sc) {i : Nat} {x : Str} {px tp : Pos} (hi : N[i]? = some x) (hv : Vis sc x) (he : PE X a (lift P 2 (ev Φ A))) (hk : PE X b (lift P 0 (ev Φ B))) (hd : (x == ("__debug__" : Str)) = false := by decide) (hcd : (x == ("__classdict__" : Str)) = false := by decide)
    (hs : swapsWith a (some (.Subscript (.Name x px) b tp)) pos.line X.env = pure false := by rfl) :
    PS X (.Assign [.Subscript (.Name x px) b tp] a pos) (liftS P (exec Φ F (.setd i B A))) := by
  refine PS.imp (ps_dput C.u1 (pe_var (i := i) (by rw [C.hN]; exact hi) (by rw [C.hs]; exact hv) hd hcd) hk he hs) fun D σ H ⟨e, R, p⟩ => ⟨e, R, ?_⟩
  simp only [exec] at p
  cases q : e[i]? with
  | none => rw [q] at p; exact p.elim
  | some s =>
    rw [q] at p
    cases s with
    | od xs =>
      obtain ⟨o1, h1, l, us, rfl, hl, dd⟩ := R.at q
      refine Post.weaken (bindS (m := 2) R p) fun w H1 ⟨y, _, s, R1, hy, p⟩ => ⟨_, h1, e, R1, ?_⟩
      refine Post.weaken (bindS (m := 0) R1 p) fun k H2 ⟨k', _, s2, R2, hk', p⟩ => ?_
      split at p
      · rename_i hz
        obtain ⟨hz1, hz2⟩ := hz
        obtain ⟨c, hc⟩ := Option.isSome_iff_exists.mp hz1
        obtain rfl := keyD_of hc
        obtain rfl := keyV hk'
        refine ⟨l, _, rfl, DPut.k (s2 _ _ (s _ _ hl)) (by rw [dd.length]; exact line_lt hz2), p σ _ (R2.updOwn q rfl rfl h1 ⟨l, _, rfl, upd_same, ?_⟩)⟩
        exact (put_of c (hy.d2.same s2) ((dd.same s).same s2)).upd (R2.kinds _ ⟨i, _, q, rfl, h1⟩).1 (R2.kinds _ ⟨i, _, q, rfl, h1⟩).2 (.inr ⟨i, _, q, rfl, h1⟩)
      · exact p.elim
    | _ => exact p.elim
theorem pop_of {i : Nat} {σ : L2.St} {H : Hp} {e : Sl} {xs : List D} {x : D} {Q : VK} (R : Rel P e σ H) (q : e[i]? = some (.ol xs)) (hx : xs[xs.length - 1]? = some x)
    (h : ∀ v H', Rel P (e.set i (.ol xs.dropLast)) σ H' → Den P.K (avo P (e.set i (.ol xs.dropLast)) σ) H' v x → Q v H') : tBM0 P.K "list" rPop (tVar i) σ H Q := by
  obtain ⟨o1, h1, l, us, rfl, hl, dd⟩ := R.at q
  have hlen := dd.length
  obtain ⟨v, hv, dv⟩ := dd.getD hx
  have ow : Owns e σ l := ⟨i, _, q, rfl, h1⟩
  refine ⟨_, h1, .inl ⟨rfl, us, .inl (.inl hl)⟩, l, us, v, rfl, rfl, hl, by rw [hlen]; exact hv, h _ _ ?_ ?_⟩
  · exact R.updOwn q rfl rfl h1 ⟨l, _, rfl, upd_same, dd.dropLast.upd (R.kinds _ ow).1 (R.kinds _ ow).2 (.inr ow)⟩
  · refine (dv.upd (R.kinds _ ow).1 (R.kinds _ ow).2 (.inr ow)).imp (fun _ _ z => z) fun b _ z => z.imp id fun ⟨j, t, q1, q2, q3⟩ => ?_
    by_cases hj : i = j
    · subst hj; exact ⟨i, _, q, rfl, q3⟩
    · rw [List.getElem?_set_ne hj] at q1; exact ⟨j, t, q1, q2, q3⟩
theorem ss_pop (C : Ctx X P N sc) {i : Nat} {x : Str} {px apos cpos : Pos} (hi : N[i]? = some x) (hv : Vis sc x)
    (h2 : (apos.endLine == cpos.line) = true := by rfl) (hd : (x == ("__debug__" : Str)) = false := by decide) (hcd : (x == ("__classdict__" : Str)) = false := by decide)
    (hb : attributeBase (.Name x px) "pop" X.env (eval (.Name x px) X.env) = eval (.Name x px) X.env := by rfl) (hs : swapsWith (.Call (.Attribute (.Name x px) "pop" apos) [] [] cpos) none pos.line X.env = pure false := by rfl) :
    PS X (.Expr (.Call (.Attribute (.Name x px) "pop" apos) [] [] cpos) pos) (liftS P (exec Φ F (.pop i))) := by
  refine PS.imp (ps_expr (pe_bm0 PySem.F.plainAttrs_list PySem.F.slot_list_pop PySem.F.type_list_pop mt_pop (pe_var (i := i) (by rw [C.hN]; exact hi) (by rw [C.hs]; exact hv) hd hcd) hb h2) hs) fun D σ H ⟨e, R, p⟩ => ?_
  simp only [exec] at p
  cases q : e[i]? with
  | none => rw [q] at p; exact p.elim
  | some s =>
    rw [q] at p
    cases s with
    | ol xs =>
      simp only [] at p
      split at p
      · exact p.elim
      · rename_i hx
        have hx : xs.length - 1 < xs.length := by
          cases xs with
          | nil => exact absurd rfl hx
          | cons _ _ => simp
        unfold tDrop
        rw [C.hK]
        exact pop_of R q (List.getElem?_eq_getElem hx) fun v H' R' _ => p σ H' R'
    | _ => exact p.elim
theorem ss_popto (C : Ctx X P N sc) {i t : Nat} {x y : Str} {px py apos cpos : Pos} (hi : N[i]? = some x) (hv : Vis sc x) (hy : N[t]? = some y) (hyl : Loc sc y)
    (h2 : (apos.endLine == cpos.line) = true := by rfl) (hd : (x == ("__debug__" : Str)) = false := by decide) (hcd : (x == ("__classdict__" : Str)) = false := by decide)
    (hb : attributeBase (.Name x px) "pop" X.env (eval (.Name x px) X.env) = eval (.Name x px) X.env := by rfl) (hs : swapsWith (.Call (.Attribute (.Name x px) "pop" apos) [] [] cpos) (some (.Name y py)) pos.line X.env = pure false := by rfl) (hf : X.fn y = true ∨ X.env.scope.names.lookup y = some .local := by first | exact .inl rfl | exact .inr rfl) :
    PS X (.Assign [.Name y py] (.Call (.Attribute (.Name x px) "pop" apos) [] [] cpos) pos) (liftS P (exec Φ F (.popto t i))) := by
  refine PS.imp (ps_set (i := t) (by rw [C.hN]; exact C.nd) (by rw [C.hN]; exact hy) (by rw [C.hs]; exact hyl) (pe_bm0 PySem.F.plainAttrs_list PySem.F.slot_list_pop PySem.F.type_list_pop mt_pop (pe_var (i := i) (by rw [C.hN]; exact hi) (by rw [C.hs]; exact hv) hd hcd) hb h2) hs hf) fun D σ H ⟨e, R, p⟩ => ?_
  simp only [exec] at p
  cases q : e[i]? with
  | none => rw [q] at p; exact p.elim
  | some s =>
    rw [q] at p
    cases s with
    | ol xs =>
      simp only [] at p
      cases hx : xs[xs.length - 1]? with
      | none => rw [hx] at p; exact p.elim
      | some x1 =>
        rw [hx] at p
        simp only [] at p
        split at p
        · unfold tAsg
          rw [C.hK]
          exact pop_of R q hx fun v H' R' dv => p _ H' (R'.setD dv)
        · exact p.elim
    | _ => exact p.elim

/-! ### flow -/
theorem ss_expr (he : PE X a (lift P 0 (ev Φ A))) (hs : swapsWith a none pos.line X.env = pure false := by rfl) : PS X (.Expr a pos) (liftS P (exec Φ F (.expr A))) := by
  refine PS.imp (ps_expr he hs) fun D σ H ⟨e, R, p⟩ => ⟨e, R, ?_⟩
  simp only [exec] at p
  exact Post.weaken (bindS (m := 0) R p) fun v H1 ⟨x, _, s, R1, hd, q⟩ => q σ H1 R1
theorem ss_ret (he : PE X a (lift P 0 (ev Φ A))) : PS X (.Return (some a) pos) (liftS P (exec Φ F (.ret A))) := by
  refine PS.imp (ps_ret he) fun D σ H ⟨e, R, p⟩ => ⟨e, R, ?_⟩
  simp only [exec] at p
  exact Post.weaken (bindS (m := 0) R p) fun v H1 ⟨x, _, s, R1, hd, q⟩ => q v H1 R1.fr hd.weak
theorem ss_retn : PS X (.Return none pos) (liftS P (exec Φ F .retn)) := PS.imp ps_retN fun D σ H ⟨e, R, p⟩ => by
  simp only [exec] at p
  exact p .non H R.fr .none
theorem ss_if {ba bb : List Stmt} {BA BB : List Stm} (hc : PT X c (liftT P (ev Φ E))) (ha : PSs X ba (liftS P (execs Φ F BA))) (hb : PSs X bb (liftS P (execs Φ F BB))) : PS X (.If c ba bb pos) (liftS P (exec Φ F (.ifs E BA BB))) := by
  refine PS.imp (ps_if hc ha hb) fun D σ H ⟨e, R, p⟩ => ⟨e, R, ?_⟩
  simp only [exec] at p
  refine PostT.weaken (bindST R (fun d hd => ?_) p) fun k H1 ⟨s, R1, q⟩ => ?_
  · cases d with
    | bool k => exact absurd rfl (hd k)
    | _ => rfl
  · cases k with
    | true => exact ⟨e, R1, q⟩
    | false => exact ⟨e, R1, q⟩
theorem ss_pass : PS X (.Pass pos) (liftS P (exec Φ F .pas)) := PS.imp ps_pass fun D σ H ⟨e, R, p⟩ => by
  simp only [exec] at p
  exact p σ H R
theorem ss_brk : PS X (.Break pos) (liftS P (exec Φ F .brk)) := PS.imp ps_break fun D σ H ⟨e, R, p⟩ => by
  simp only [exec] at p
  exact p σ H R
theorem ss_cnt : PS X (.Continue pos) (liftS P (exec Φ F .cnt)) := PS.imp ps_continue fun D σ H ⟨e, R, p⟩ => by
  simp only [exec] at p
  exact p σ H R
theorem sss_nil : PSs X [] (liftS P (execs Φ F [])) := PSs.imp pss_nil fun D σ H ⟨e, R, p⟩ => by
  simp only [execs] at p
  exact p σ H R
theorem sss_cons {st : Stmt} {r : List Stmt} {S1 : Stm} {SR : List Stm} (h1 : PS X st (liftS P (exec Φ F S1))) (h2 : PSs X r (liftS P (execs Φ F SR))) : PSs X (st :: r) (liftS P (execs Φ F (S1 :: SR))) := by
  refine PSs.imp (pss_cons h1 h2) fun D σ H ⟨e, R, p⟩ => ⟨e, R, ?_⟩
  simp only [execs] at p
  cases q : exec Φ F S1 e with
  | nx e' => rw [q] at p; exact fun σ' H' R' => ⟨e', R', p⟩
  | ret x => rw [q] at p; exact p
  | bk e' => rw [q] at p; exact p
  | ct e' => rw [q] at p; exact p
  | ex c e' => rw [q] at p; exact p
  | stuck => rw [q] at p; exact p
theorem sss_give {r : List Stmt} {SR : List Stm} {i : Nat} (h2 : PSs X r (liftS P (execs Φ F SR))) : PSs X r (liftS P (execs Φ F (.give i :: SR))) := PSs.imp h2 fun D σ H ⟨e, R, p⟩ => by
  simp only [execs, exec] at p
  cases q : e[i]? with
  | none => rw [q] at p; exact p.elim
  | some s =>
    rw [q] at p
    cases s with
    | ol xs => exact ⟨_, R.give q, p⟩
    | _ => exact p.elim
/-- a turn's end -/
theorem PostS.turn {D : Ends} {N : L2.St → Hp → Prop} {G : Sl → Out} (hN : ∀ e' σ' H', Rel P e' σ' H' → PostS P D (G e') → N σ' H') : ∀ {o : Out}, PostS P D (o.turn G) → PostS P { D with nx := N, ct := N, bk := D.nx } o
  | .nx e', h => fun σ' H' R => hN e' σ' H' R h
  | .ct e', h => fun σ' H' R => hN e' σ' H' R h
  | .bk _, h => h
  | .ret _, h => h
  | .ex _ _, h => h
  | .stuck, h => h
theorem ss_while {body : List Stmt} {BD : List Stm} (C : Ctx X P N sc) (hc : PT X c (liftT P (ev Φ E))) (hb : PSs X body (liftS P (execs Φ F BD))) : PS X (.While c body [] pos) (liftS P (exec Φ F (.whl E BD))) := by
  refine PS.imp (ps_while C.po hc hb) fun D σ H ⟨e, R, p⟩ => ?_
  simp only [exec] at p
  refine ⟨fun n σ H => ∃ e, Rel P e σ H ∧ PostS P D (whileF (fun e' => ev Φ E e') (fun e' => execs Φ F BD e') n e), ⟨F, e, R, p⟩, ?_⟩
  rintro n σ1 H1 ⟨e1, R1, p1⟩
  cases n with
  | zero => exact p1.elim
  | succ n =>
    refine ⟨e1, R1, ?_⟩
    simp only [whileF] at p1
    refine PostT.weaken (bindST R1 (fun d hd => ?_) p1) fun k H2 ⟨s, R2, q⟩ => ?_
    · cases d with
      | bool k => exact absurd rfl (hd k)
      | _ => rfl
    · cases k with
      | true =>
        rw [if_pos rfl]
        exact ⟨fun σ' H' => ∃ e, Rel P e σ' H' ∧ PostS P D (whileF (fun e' => ev Φ E e') (fun e' => execs Φ F BD e') n e), fun σ' H' z => ⟨n, Nat.lt_succ_self n, z⟩, e1, R2, PostS.turn (fun e' σ' H' R' z => ⟨e', R', z⟩) q⟩
      | false => rw [if_neg (by decide)]; exact q σ1 H2 R2
theorem ss_for {body : List Stmt} {BD : List Stm} {iter : Expr} {t : Tgt} {k : SrcK} (C : Ctx X P N sc) (hi : PI X tg iter (liftI P (srcs Φ k ES))) (hg : PG X tg (liftG P.K t)) (hb : ∀ (h0 : Hp) (hav : ∀ a, P.Av a → h0 a ≠ none), Ctx X (P.at h0 hav) N sc → PSs X body (liftS (P.at h0 hav) (execs Φ F BD)))
    (hs : ∀ x, foldedSetIterable iter X.env x = pure x := by intro _; rfl) : PS X (.For tg iter body [] pos) (liftS P (exec Φ F (.for t k ES BD))) := by
  refine PS.imp (ps_for C.po C.calm hi hg (PSs.ofAll (ι := { h0 : Hp // ∀ a, P.Av a → h0 a ≠ none }) fun i => hb i.1 i.2 (C.at i.1 i.2)) hs) fun D σ H ⟨e, R, p⟩ => ⟨e, R, ?_⟩
  simp only [exec] at p
  unfold srcs
  cases qx : evs Φ ES e with
  | ex c => rw [qx] at p; exact fun H1 s => p σ H1 (R.same s)
  | stuck => rw [qx] at p; exact p.elim
  | ok xs =>
    rw [qx] at p
    simp only [Out.ofR_ok] at p
    simp only [Res.bind_ok]
    cases qs : srcD k xs with
    | none => rw [qs] at p; exact p.elim
    | some its =>
      rw [qs] at p
      simp only [] at p
      intro J H1 s1 io
      have R1 := R.same s1
      refine ⟨fun i m σ2 H2 => m = its.length - i ∧ i ≤ its.length ∧ ∃ e2, Rel (P.at (lessOwn e σ H1) (lessOwn_av R1)) e2 σ2 H2 ∧ PostS (P.at (lessOwn e σ H1) (lessOwn_av R1)) D (forL (fun e' => execs Φ F BD e') t (its.drop i) e2), ⟨its.length, by omega, Nat.zero_le _, e, R1.into, PostS.into R1 (by simpa using p)⟩, ?_⟩
      rintro i m σ2 H2 ⟨rfl, hi, e2, R2, p2⟩
      obtain ⟨hgo, hstop, hy⟩ := io i H2 fun b o q n => R2.fr _ _ (show lessOwn e σ H1 b = some o by unfold lessOwn; rw [if_neg n]; exact q)
      by_cases hlt : i < its.length
      · refine .inr ⟨hgo hlt, fun σ' H' => ∃ e3, Rel (P.at (lessOwn e σ H1) (lessOwn_av R1)) e3 σ' H' ∧ PostS (P.at (lessOwn e σ H1) (lessOwn_av R1)) D (forL (fun e' => execs Φ F BD e') t (its.drop (i + 1)) e3), fun σ' H' z => ⟨its.length - (i + 1), by omega, rfl, by omega, z⟩, fun x H' y => ?_⟩
        rw [List.drop_eq_getElem_cons hlt] at p2
        simp only [forL] at p2
        cases qb : bindT t its[i] e2 with
        | none => rw [qb] at p2; exact p2.elim
        | some e3 =>
          rw [qb] at p2
          obtain ⟨s3, dx⟩ := hy x H' y _ (List.getElem?_eq_getElem hlt)
          have R3 := R2.same s3
          refine ⟨P.at (lessOwn e σ H1) (lessOwn_av R1), e2, _, e3, rfl, R3, dx.imp (fun _ _ z => z) (fun b _ z => ?_), qb, fun σ3 R4 _ => ⟨⟨lessOwn e σ H1, lessOwn_av R1⟩, e3, R4, PostS.turn (fun e' σ' H' R' z => ⟨e', R', z⟩) p2⟩⟩
          rcases z with z | z
          · exact .inl (.inl z)
          · have q := R2.new b z
            have q : lessOwn e σ H1 b = none := q
            unfold lessOwn at q
            split at q
            · rename_i w; exact .inl (.inr w)
            · exact .inr q
      · refine .inl ⟨hstop (by omega), ?_⟩
        rw [List.drop_of_length_le (by omega)] at p2
        simp only [forL] at p2
        exact p2 σ2 H2 R2
end
end Rf

set_option Elab.async false
set_option linter.all false
set_option maxRecDepth 100000
set_option maxHeartbeats 1000000
/-! Rf, part I: a def's promise; the program. -/
namespace Rf
open PySem PySem.Spec PyProof.Rows L2
section
variable {pr : Program} {w : World} {K : PySem.W.Frag} {mg : Str → Option Value} {base : Heap} {ca : Nat → Addr}
/-- what the top has written of a def -/
structure Txt (K : PySem.W.Frag) (mg : Str → Option Value) (x : Str) (st : Stmt) (ps : List Str) : Prop where
  ex : ∃ f fd, Fun K x x st f fd ∧ mg x = some (.ref f) ∧ Binds K fd ps []
/-- the def i, called n deep -/
structure Good (pr : Program) (w : World) (K : PySem.W.Frag) (mg : Str → Option Value) (base : Heap) (ca : Nat → Addr) (T : List Fdef) (F : Nat) (x : Str) (i n : Nat) : Prop where
  ex : ∃ f fd ps, FnOk pr w K mg base (L2.CX pr w) n f fd ps (spP K ca (phi T F n) i) ∧ mg x = some (.ref f) ∧ PySem.W.keepIn K (.ref f) = true ∧ Binds K fd ps []
theorem Good.fn {T : List Fdef} {F : Nat} {x : Str} {i n : Nat} {A : Around} (g : Good pr w K mg base ca T F x i n) (hr : Room n A) : Fn1 pr w K mg base A ca (phi T F n) x i := by
  obtain ⟨f, fd, ps, ok, h1, h2, h3⟩ := g.ex
  exact ⟨n, f, fd, ps, ok, hr, h1, h2, h3⟩
theorem good_zero {T : List Fdef} {F : Nat} {x : Str} {i : Nat} {st : Stmt} {ps : List Str} (t : Txt K mg x st ps) : Good pr w K mg base ca T F x i 0 := by
  obtain ⟨f, fd, fn, h1, h2⟩ := t.ex
  refine ⟨f, fd, ps, ⟨fun vs H Q E h => ?_, fun A outer s H args us vs Q E hr he hb hv h => ?_⟩, h1, fn.kp, h2⟩ <;> (obtain ⟨av, ds, _, _, h⟩ := h; exact h.elim)
theorem start_get {N : List Str} {vs : List V} {i : Nat} {v : V} (h : vs[i]? = some v) : (L2.start N vs)[i]? = some (some v) := by
  unfold L2.start
  rw [List.getElem?_append_left (by rw [List.length_map]; exact (List.getElem?_eq_some_iff.mp h).1), List.getElem?_map, h]
  rfl
theorem rel_start {P : Pk} {N : List Str} {vs : List V} {ds : List D} (hd : Dens P.K P.Av P.H0 vs ds) (hl : ds.length ≤ N.length) : Rel P (ds.map .d ++ List.replicate (N.length - ds.length) .un) (L2.start N vs) P.H0 := by
  have hlen := hd.length
  have noOwn : ∀ (i : Nat) (s : Slot), (ds.map Slot.d ++ List.replicate (N.length - ds.length) Slot.un)[i]? = some s → isOwn s = false := fun i s h => by
    by_cases hi : i < ds.length
    · rw [List.getElem?_append_left (by rw [List.length_map]; exact hi), List.getElem?_map, List.getElem?_eq_getElem hi] at h
      simp only [Option.map_some, Option.some.injEq] at h
      subst h; rfl
    · rw [List.getElem?_append_right (by rw [List.length_map]; omega), List.getElem?_replicate] at h
      split at h
      · simp only [Option.some.injEq] at h; subst h; rfl
      · cases h
  have no : ∀ a, ¬ Owns (ds.map Slot.d ++ List.replicate (N.length - ds.length) Slot.un) (L2.start N vs) a := fun a ⟨i, s, h1, h2, _⟩ => by
    rw [noOwn i s h1] at h2; cases h2
  refine ⟨?_, fun i s o h1 h2 => ?_, fun i j s t a h1 h2 => ?_, Same.refl _, fun a h => absurd h (no a)⟩
  · unfold L2.start
    simp only [List.length_append, List.length_map, List.length_replicate]
    omega
  · by_cases hi : i < ds.length
    · rw [List.getElem?_append_left (by rw [List.length_map]; exact hi), List.getElem?_map, List.getElem?_eq_getElem hi] at h1
      simp only [Option.map_some, Option.some.injEq] at h1
      subst h1
      obtain ⟨v, hv, dv⟩ := hd.getD (List.getElem?_eq_getElem hi)
      rw [start_get hv] at h2
      simp only [Option.some.injEq] at h2
      subst h2
      exact ⟨v, rfl, dv.imp (fun _ _ z => z) fun a _ z => z.elim id fun z => absurd z (no a)⟩
    · rw [List.getElem?_append_right (by rw [List.length_map]; omega), List.getElem?_replicate] at h1
      split at h1
      · simp only [Option.some.injEq] at h1; subst h1; trivial
      · cases h1
  · rw [noOwn i s h1] at h2; cases h2
/-- the reading of a body, at the entry -/
theorem entry {P : Pk} {N : List Str} {vs : List V} {ds : List D} {fn : Fdef} {Φ : FT} {F : Nat} {Q : VK} {E : XK} (hd : Dens P.K P.Av P.H0 vs ds) (hns : fn.ns = N.length) (hnp : fn.np ≤ N.length) (hW : P.W = fun cls d _ H => E cls d H)
    (h : match fn.run Φ F ds with
      | .ok d => ∀ v H', Same P.H0 H' → Den P.K P.Av H' v d → Q v H'
      | .ex c => ∀ H', Same P.H0 H' → E (.ref (P.ca c)) none H'
      | .stuck => False) : liftS P (execs Φ F fn.body) { nx := fun _ H' => Q .non H', rt := Q } (L2.start N vs) P.H0 := by
  unfold Fdef.run at h
  by_cases hl : ds.length = fn.np
  · rw [if_pos hl, hns, ← hl] at h
    refine ⟨_, rel_start hd (by omega), ?_⟩
    cases q : execs Φ F fn.body (ds.map .d ++ List.replicate (N.length - ds.length) .un) with
    | ret x => rw [q] at h; exact h
    | nx e' => rw [q] at h; exact fun σ' H' R => h .non H' R.fr .none
    | ex c e' => rw [q] at h; exact fun σ' H' R => by rw [hW]; exact h H' R.fr
    | bk e' => rw [q] at h; exact h.elim
    | ct e' => rw [q] at h; exact h.elim
    | stuck => rw [q] at h; exact h.elim
  · rw [if_neg hl] at h; exact h.elim
/-- a body's context -/
@[reducible] def cxG (pr : Program) (w : World) (K : PySem.W.Frag) (mg : Str → Option Value) (base : Heap) (N : List Str) (x : Str) (st : Stmt) (A : Around) (s0 : Shared) (H0 : Hp) (a f : Addr) (cdv : Value) (outer : List Env) (xe : Value → Shared → Prop) : Cx :=
  { prog := pr, w := w, K := K, mg := mg, base := base, A := A, N := N, s_0 := s0, H_0 := H0, env := envOfC x (defScope st) a f cdv, outer := outer, stack := envOfC x (defScope st) a f cdv :: outer, ex := [], calm := true, fn := fun _ => true, pn := [], xe := xe }
/-- a body's walk -/
def Walk (pr : Program) (w : World) (K : PySem.W.Frag) (mg : Str → Option Value) (base : Heap) (ca : Nat → Addr) (N : List Str) (x : Str) (st : Stmt) (n : Nat) (f : Sl → Out) : Prop :=
  ∀ (A : Around) (s0 : Shared) (H0 : Hp) (a fA : Addr) (cdv : Value) (outer : List Env) (xe : Value → Shared → Prop) (h0 : Hp) (av : Addr → Prop) (avok : ∀ a, av a → h0 a ≠ none) (W : WX), Room n A →
    Ctx (cxG pr w K mg base N x st A s0 H0 a fA cdv outer xe) ⟨K, h0, av, avok, W, ca⟩ N (defScope st) → PSs (cxG pr w K mg base N x st A s0 H0 a fA cdv outer xe) (defBody st) (liftS ⟨K, h0, av, avok, W, ca⟩ f)
/-- a def keeps its promise -/
theorem good_succ {T : List Fdef} {F : Nat} {x : Str} {i n : Nat} {st : Stmt} {N ps : List Str} {fn : Fdef} (t : Txt K mg x st ps) (S : FnScope N ps (defScope st)) (hT : T[i]? = some fn) (hnp : fn.np = ps.length) (hns : fn.ns = N.length) (hle : ps.length ≤ N.length)
    (hb : Walk pr w K mg base ca N x st n (execs (phi T F n) F fn.body)) :
    Good pr w K mg base ca T F x i (n + 1) := by
  obtain ⟨f, fd, F0, h1, h2⟩ := t.ex
  refine ⟨f, fd, ps, F0.okX S (fun vs H Q E h => ?_) (fun cdv A outer s H vs Q E hr h => ?_), h1, F0.kp, h2⟩
  · obtain ⟨av, ds, _, hd, h⟩ := h
    simp only [phi, hT] at h
    unfold Fdef.run at h
    by_cases hl : ds.length = fn.np
    · rw [hd.length, hl, hnp]
    · rw [if_neg hl] at h; exact h.elim
  · obtain ⟨av, ds, hav, hd, h⟩ := h
    simp only [phi, hT] at h
    refine ⟨_, hb (A.deeper (envOfC x (defScope st) s.heap.objs.size f cdv)) s H _ f cdv outer _ H av hav (fun cls d _ H => E cls d H) hr ⟨rfl, rfl, S.nd, rfl, rfl, ?_, takes_of rfl rfl rfl rfl, passes_of rfl⟩, entry hd hns (by rw [hnp]; exact hle) rfl h⟩
    have := hr.un
    show (A.deeper (envOfC x (defScope st) s.heap.objs.size f cdv)).units + 190 < cLine
    omega
/-- a def out of which no exception comes -/
theorem calm_ok {T : List Fdef} {F : Nat} {x : Str} {i n : Nat} {st : Stmt} {N ps : List Str} {fn : Fdef} {f : Addr} {fd : FuncData} {sp : Sp} (F0 : Fun K x x st f fd) (S : FnScope N ps (defScope st)) (hT : T[i]? = some fn) (hnp : fn.np = ps.length) (hns : fn.ns = N.length) (hle : ps.length ≤ N.length)
    (hb : Walk pr w K mg base ca N x st n (execs (phi T F n) F fn.body))
    (hsp : ∀ vs H Q E, sp vs H Q E → ∃ ds d, Dens K (fun _ => False) H vs ds ∧ phi T F (n + 1) i ds = .ok d ∧ ∀ v H', Same H H' → Den K (fun _ => False) H' v d → Q v H') : FnOk pr w K mg base L2.CX0 (n + 1) f fd ps sp := by
  refine F0.ok S (fun vs H Q E h => ?_) (fun cdv A outer s H vs Q E hr h => ?_)
  · obtain ⟨ds, d, hd, h, _⟩ := hsp vs H Q E h
    simp only [phi, hT] at h
    unfold Fdef.run at h
    by_cases hl : ds.length = fn.np
    · rw [hd.length, hl, hnp]
    · rw [if_neg hl] at h; cases h
  · obtain ⟨ds, d, hd, h, q⟩ := hsp vs H Q E h
    simp only [phi, hT] at h
    refine ⟨_, hb (A.deeper (envOfC x (defScope st) s.heap.objs.size f cdv)) s H _ f cdv outer (fun _ _ => False) H (fun _ => False) (fun _ z => z.elim) (fun _ _ _ _ => False) hr ⟨rfl, rfl, S.nd, rfl, rfl, ?_, takes0, PassesOwn.never⟩, entry (E := fun _ _ _ => False) hd hns (by rw [hnp]; exact hle) rfl (by rw [h]; exact q)⟩
    have := hr.un
    show (A.deeper (envOfC x (defScope st) s.heap.objs.size f cdv)).units + 190 < cLine
    omega
/-- the law's own promise: at every script of at most k ints it answers True -/
def spLaw (k : Nat) (K : PySem.W.Frag) : Sp := fun vs H Q _ => ∃ (a : Addr) (ns : List Int), vs = [.ref a] ∧ SqL K H a (ns.map V.int) ∧ ns.length ≤ k ∧ ∀ H', Q (.bl true) H'
theorem law_ok {T : List Fdef} {F k : Nat} {x p : Str} {i n : Nat} {st : Stmt} {N : List Str} {fn : Fdef} {f : Addr} {fd : FuncData} (F0 : Fun K x x st f fd) (S : FnScope N [p] (defScope st)) (hT : T[i]? = some fn) (hnp : fn.np = 1) (hns : fn.ns = N.length) (hle : 1 ≤ N.length)
    (hb : Walk pr w K mg base ca N x st n (execs (phi T F n) F fn.body))
    (hm : ∀ ns : List Int, ns.length ≤ k → phi T F (n + 1) i [.list (ns.map .int)] = .ok (.bool true)) : FnOk pr w K mg base L2.CX0 (n + 1) f fd [p] (spLaw k K) :=
  calm_ok F0 S hT hnp hns hle hb fun vs H Q E ⟨a, ns, hv, hS, hl, q⟩ => ⟨[.list (ns.map .int)], .bool true, by rw [hv]; exact .cons (.list hS (.inl fun z => z) (dens_ints ns)) .nil, hm ns hl, fun v H' _ hd => by cases hd; exact q H'⟩
end
end Rf

set_option Elab.async false
set_option linter.all false
set_option maxRecDepth 100000
set_option maxHeartbeats 1000000
/-! Rf, part J: backwards. -/
namespace Rf
open PySem PySem.Spec PyProof.Rows L2
theorem rev_text (z : Str) (u : Tok) : Txt.sliceBy z none none (-1, u) = S z.cps.toList.reverse := by
  have h := step_rev_list z u
  have e : (Txt.sliceBy z none none (-1, u)).cps.toList = z.cps.toList.reverse := by
    rw [h]
    apply List.ext_getElem
    · simp [Str.length]
    · intro i h1 h2
      simp only [List.length_map, List.length_range] at h1
      simp only [List.getElem_map, List.getElem_range, List.getElem_reverse, Array.getElem_toList, Array.length_toList]
      have : z.length - 1 - i < z.cps.size := by show _ < z.length; omega
      rw [Array.getD_eq_getD_getElem?, Array.getElem?_eq_getElem this]
      rfl
  cases q : Txt.sliceBy z none none (-1, u) with
  | mk c =>
    rw [q] at e
    simp only at e
    rw [← e]
section
variable {X : Cx} {P : Pk} {N : List Str} {sc : Scope} {m : Nat} {Φ : FT} {A : Exp} {a : Expr} {pos : Pos}
theorem pe_revS {e : Expr} {te : L2.TE} {k : Nat} {p1 p2 p3 : Pos} (he : PE X e te) : PE X (.Subscript e (.Slice none none (some (.UnaryOp .USub (.Constant (.int 1) k p1) p2)) p3) pos) (fun σ H Q => te σ H fun x H1 => ∃ z, x = .str z ∧ z.length ≤ sizeLine ∧ Q (.str (S z.cps.toList.reverse)) H1) := by
  refine ⟨fun pins s σ H Q I h => ?_⟩
  refine Subscript_ (thn (he.run pins s σ H _ I h) fun v s1 ⟨x, H1, I1, r1, q1⟩ => ?_)
  obtain ⟨z, rfl, hz, q⟩ := q1
  obtain ⟨t, rfl⟩ := r1
  have third : PO X (some (.UnaryOp .USub (.Constant (.int 1) k p1) p2)) (tPart (tUn (rU fun i => .int (-i)) (tC (.int 1)))) := po_some (pe_un un_neg pe_int)
  refine wpAny_Slice (thn (po_none.run pins s1 σ H1 (fun o H2 => o = none ∧ H2 = H1) I1 ⟨rfl, rfl⟩) fun vl s2 ⟨l, H2, I2, pl, w1, w2⟩ => ?_)
  subst w1 w2
  refine thn (po_none.run pins s2 σ H2 (fun o H3 => o = none ∧ H3 = H2) I2 ⟨rfl, rfl⟩) fun vu s3 ⟨u, H3, I3, pu, w1, w2⟩ => ?_
  subst w1 w2
  refine thn (third.run pins s3 σ H3 (fun o H4 => o = some (-1) ∧ H4 = H3) I3 ⟨1, rfl, -1, rfl, rfl, rfl⟩) fun vs s4 ⟨o, H4, I4, ps, w1, w2⟩ => ?_
  subst w1 w2
  obtain ⟨l, rfl, hl⟩ := IsPart.raw pl
  obtain ⟨u, rfl, hu⟩ := IsPart.raw pu
  obtain ⟨st, rfl, hst⟩ := IsPart.raw ps
  have e1 : l = none := by cases l with | none => rfl | some _ => cases hl
  have e2 : u = none := by cases u with | none => rfl | some _ => cases hu
  subst e1 e2
  obtain ⟨tk, rfl⟩ : ∃ tk, st = some (-1, tk) := by
    cases st with
    | none => cases hst
    | some p => obtain ⟨i, tk⟩ := p; cases hst; exact ⟨tk, rfl⟩
  have I5 : Inv X pins σ H4 { s4 with heap := s4.heap.push { cls := .type "slice", data := .fields #[partValue none, partValue none, partValue (some (-1, tk))] } } := I4.kept (t' := s4.toks) fun b ob q => Heap.get?_push_of_some _ q
  show wpAny (model X.prog X.w) X.A (subscriptTail e (.Slice none none (some (.UnaryOp .USub (.Constant (.int 1) k p1) p2)) p3) (.str z t) (.ref s4.heap.objs.size)) (EP X pins σ Q) X.xe { s4 with heap := s4.heap.push { cls := .type "slice", data := .fields #[partValue none, partValue none, partValue (some (-1, tk))] } }
  refine tail_any (ops := [.ref s4.heap.objs.size, .str z t]) (typeIs_str _ z t) (PySem.F.slot_str_getitem.lookup) ?_ (by with_unfolding_all rfl)
  refine wpAny_getItem_str_slice (l := none) (u := none) (st := some (-1, tk)) ⟨_, Heap.get?_push_size _ rfl, rfl, rfl⟩ rfl ?_
  have c : ¬ (((((some ((-1 : Int), tk)).map (·.1)).getD 1 == 1) && ((slicePicked z none none (some (-1, tk))).length == z.length)) = true) := by
    have : ((((some ((-1 : Int), tk)).map (·.1)).getD 1 == 1)) = false := rfl
    rw [this]; simp
  have hs : sliceMade z t none none (some (-1, tk)) = .str (S z.cps.toList.reverse) := by
    rw [← rev_text z tk]
    unfold sliceMade Txt.sliceBy
    rw [if_neg c, if_neg c]
  rw [hs]
  refine ⟨?_, .str _, _, I5.tok _, ⟨_, rfl⟩, q⟩
  show (S z.cps.toList.reverse).cps.size ≤ sizeLine
  simpa [Str.length] using hz
theorem se_revS {k : Nat} {p1 p2 p3 : Pos} (ha : PE X a (lift P 0 (ev Φ A))) : PE X (.Subscript a (.Slice none none (some (.UnaryOp .USub (.Constant (.int 1) k p1) p2)) p3) pos) (lift P m (ev Φ (.revs A))) := by
  refine PE.imp (pe_revS ha) fun σ H Q ⟨e, R, p⟩ => ⟨e, R, ?_⟩
  simp only [ev] at p
  refine Post.weaken (bindZ (α := D) (m := 0) gdPost R p) fun v H1 ⟨x, _, s1, R1, d1, p1⟩ => ?_
  cases x with
  | str z =>
    obtain rfl := d2_str d1
    simp only [revsD] at p1
    split at p1
    · rename_i hz
      exact ⟨z, rfl, line_le hz, p1 _ H1 (Same.refl _) (DenM.up (.str _))⟩
    · exact p1.elim
  | _ => exact p1.elim
theorem se_revL (C : Ctx X P N sc) {k : Nat} {p1 p2 p3 : Pos} (ha : PE X a (lift P (sub m) (ev Φ A))) : PE X (.Subscript a (.Slice none none (some (.UnaryOp .USub (.Constant (.int 1) k p1) p2)) p3) pos) (liftN P m (ev Φ (.rev A))) := by
  refine PE.imp (pe_revL ha) fun σ H Q ⟨e, R, p⟩ => ⟨e, R, ?_⟩
  simp only [ev] at p
  refine Post.weaken (bindZ (α := D) (m := sub m) gdPostN R p) fun v H1 ⟨x, _, s1, R1, d1, p1⟩ => ?_
  cases x with
  | list xs =>
    unfold DenM at d1
    rw [av1_sub] at d1
    obtain ⟨l, us, rfl, h1, h2⟩ := d2_lst d1
    exact ⟨l, us, rfl, by rw [C.hK]; exact h1, fun p np => p1 _ _ (same_upd np) (new_lst np h2.reverse)⟩
  | _ => exact p1.elim
theorem Fr2.mono {K : PySem.W.Frag} {a1 b1 : Addr → Prop} {H H' : Hp} {z : V} {d : D} (f : ∀ a, b1 a → a1 a) (h : Fr2 K a1 H z H' d) : Fr2 K b1 H z H' d := by
  cases d with
  | list ds => obtain ⟨p, xs, e1, n, e, t⟩ := h; exact ⟨p, xs, e1, n, e, t.imp (fun _ _ z => z) fun a _ z => z.imp (f a) id⟩
  | dict ds => obtain ⟨p, xs, e1, n, e, t⟩ := h; exact ⟨p, xs, e1, n, e, t.imp (fun _ _ z => z) fun a _ z => z.imp (f a) id⟩
  | none => exact Den.imp (fun _ _ z => z) (fun a _ => f a) h
  | bool _ => exact Den.imp (fun _ _ z => z) (fun a _ => f a) h
  | int _ => exact Den.imp (fun _ _ z => z) (fun a _ => f a) h
  | str _ => exact Den.imp (fun _ _ z => z) (fun a _ => f a) h
  | tuple _ => exact Den.imp (fun _ _ z => z) (fun a _ => f a) h
theorem PE.modeN {f : Sl → Res D} (h : PE X a (liftN P 2 f)) : PE X a (liftN P m f) := Rf.PE.imp h fun σ H Q ⟨e, R, p⟩ => ⟨e, R, by
  cases q : f e with
  | ok d => rw [q] at p; exact fun v H' s hd => p v H' s (hd.mono fun a z => by
      match m with
      | 0 => exact .inl z
      | _ + 1 => exact z)
  | ex c => rw [q] at p; exact p
  | stuck => rw [q] at p; exact p⟩
theorem se_globI {x : Str} {i : Int} {t : Tok} (hg : X.env.kindOf x = some .globalImplicit) (hm : X.mg x = some (.int i t)) (hdb : (x == ("__debug__" : Str)) = false := by decide) : PE X (.Name x pos) (lift P m (ev Φ (.con (.int i)))) := se_glob (v := .int i) hg hm ⟨_, rfl⟩ (fun _ _ => .int i) hdb
theorem se_globS {x i : Str} {t : Tok} (hg : X.env.kindOf x = some .globalImplicit) (hm : X.mg x = some (.str i t)) (hdb : (x == ("__debug__" : Str)) = false := by decide) : PE X (.Name x pos) (lift P m (ev Φ (.con (.str i)))) := se_glob (v := .str i) hg hm ⟨_, rfl⟩ (fun _ _ => .str i) hdb
theorem se_globB {x : Str} {i : Bool} (hg : X.env.kindOf x = some .globalImplicit) (hm : X.mg x = some (.bool i)) (hdb : (x == ("__debug__" : Str)) = false := by decide) : PE X (.Name x pos) (lift P m (ev Φ (.con (.bool i)))) := se_glob (v := .bl i) hg hm rfl (fun _ _ => .bool i) hdb
end
end Rf

set_option Elab.async false
set_option linter.all false
set_option maxRecDepth 100000
set_option maxHeartbeats 1000000
/-! Rf, part L: raise; try with a clause that returns a constant. -/
namespace Rf
open PySem PySem.Spec PyProof.Rows L2
section
variable {X : Cx} {P : Pk} {N : List Str} {sc : Scope} {Φ : FT} {F : Nat} {a b : Expr} {pos : Pos}
theorem ss_raise (C : Ctx X P N sc) {c : Nat} (pm : PMk X a (fun _ H Q => Q (.ref (P.ca c)) none H)) : PS X (.Raise (some a) none pos) (liftS P (exec Φ F (.rse c))) :=
  PS.imp (ps_raise C.calm C.tk pm) fun D σ H ⟨e, R, p⟩ => by
    simp only [exec] at p
    exact p σ H R
/-- an own class of exceptions at A -/
structure XCls (K : PySem.W.Frag) (mg : Str → Option Value) (x : Str) (A : Addr) : Prop where
  g : mg x = some (.ref A)
  e : PySem.W.excIn K A [.type "ValueError", .type "Exception", .type "BaseException", .type "object"] "ValueError.__new__" = true
  k : PySem.W.keepIn K (.ref A) = true
  b : PySem.W.subIn K (.ref A) (.type "BaseException") = some true
  t : PySem.W.typeIn K (.ref A) = some (.type "type")
theorem pm_own {x m : Str} {j : Nat} {p p2 : Pos} {A : Addr} (h : XCls X.K X.mg x A) (hg : X.env.kindOf x = some .globalImplicit) (hdb : (x == ("__debug__" : Str)) = false := by decide) :
    PMk X (.Call (.Name x p) [.Constant (.str m) j p2] [] pos) (fun _ H Q => Q (.ref A) none H) :=
  pmk_own PySem.F.excBase_ValueError h.e h.g h.k (raises_own h.b h.t) hg hdb
/-- a value read while the error stands in slot i -/
def tK (i : Nat) (e : Addr) (v : V) : L2.TE := fun σ H Q => σ[i]? = some (some (.ref e)) ∧ Q v H
theorem xk_c {i : Nat} {e : Addr} {v : V} (h : PE X a (tC v)) : PE X a (tK i e v) := PE.imp h fun σ H Q h => h.2
theorem xk_and {rest : List Expr} {i : Nat} {e : Addr} {k l : Bool} (ha : PE X a (tK i e (.bl k))) (hb : PE X (.BoolOp .And (b :: rest) pos) (tK i e (.bl l))) : PE X (.BoolOp .And (a :: b :: rest) pos) (tK i e (.bl (k && l))) :=
  PE.imp (pe_and ha hb) fun σ H Q h => ⟨h.1, k, rfl, by
    cases k with
    | true => exact ⟨h.1, h.2⟩
    | false => exact h.2⟩
theorem xk_one {op : BoolOp} {i : Nat} {e : Addr} {v : V} (ha : PE X a (tK i e v)) : PE X (.BoolOp op [a] pos) (tK i e v) := pe_one ha
theorem xk_not {i : Nat} {e : Addr} {k : Bool} (ha : PE X a (tK i e (.bl k))) : PE X (.UnaryOp .Not a pos) (tK i e (.bl (!k))) :=
  PE.imp (pe_not ha) fun σ H Q h => ⟨h.1, k, rfl, h.2⟩
theorem xk_is {i : Nat} {e D A : Addr} {oe : Obj} {pn : List (Addr × Obj)} {n x : Str} {p pn' px : Pos} {k : Bool} (E : ExcC X.K D) (hz : Zc (.ref D) none oe) (hf : ∃ vs, oe.data = .fields vs) (hN : X.N[i]? = some n) (hv : Vis X.env.scope n)
    (hg : X.env.kindOf "isinstance" = some .globalImplicit) (hm : X.mg "isinstance" = none) (hgx : X.env.kindOf x = some .globalImplicit) (hmx : X.mg x = some (.ref A)) (hk : PySem.W.kitOne X.K (.ref D) (.ref A) = some k)
    (hd : (n == ("__debug__" : Str)) = false := by decide) (hcd : (n == ("__classdict__" : Str)) = false := by decide) (hdx : (x == ("__debug__" : Str)) = false := by decide) :
    PE (X.suite e ((e, oe) :: pn)) (.Call (.Name "isinstance" p) [.Name n pn', .Name x px] [] pos) (tK i e (.bl k)) :=
  PE.imp (pe_callB (call_isE E hz hf) hg hm (by decide +kernel) (pa_cons (pe_var (i := i) hN hv hd hcd) (pa_cons (pe_glob (v := .ref A) hgx hmx rfl hdx) pa_nil)) (by decide) (by decide)) fun σ H Q h =>
    ⟨.ref e, h.1, .ref A, .ref A, k, rfl, fun u hu => hu, hk, h.2⟩
/-- a clause that only returns -/
def tX (i : Nat) (e : Addr) (v : V) : L2.TS := fun D σ H => σ[i]? = some (some (.ref e)) ∧ D.rt v H
theorem xs_ret {i : Nat} {e : Addr} {v : V} (h : PE X a (tK i e v)) : PSs X [.Return (some a) pos] (tX i e v) := PSs.imp (pss_one (ps_ret h)) fun D σ H h => h
@[reducible] def Pk.wi (P : Pk) (W : WX) : Pk := { P with W := W }
theorem Rel.wi {P : Pk} {W : WX} {e : Sl} {σ : L2.St} {H : Hp} (R : Rel P e σ H) : Rel (P.wi W) e σ H := ⟨R.len, R.slot, R.inj, R.fr, R.new⟩
theorem Rel.iw {P : Pk} {W : WX} {e : Sl} {σ : L2.St} {H : Hp} (R : Rel (P.wi W) e σ H) : Rel P e σ H := ⟨R.len, R.slot, R.inj, R.fr, R.new⟩
/-- a flat value -/
def flV : D → Option V
  | .bool k => some (.bl k)
  | .none => some .non
  | .int i => some (.int i)
  | _ => none
theorem flV_den {K : PySem.W.Frag} {av : Addr → Prop} {H : Hp} {d : D} {v : V} (h : flV d = some v) : Den K av H v d := by
  cases d <;> simp only [flV, Option.some.injEq, reduceCtorEq] at h <;> subst h
  · exact .none
  · exact .bool _
  · exact .int _
theorem mem_lk : ∀ {r : List (Nat × D)} {c : Nat} {d : D}, r.lookup c = some d → (c, d) ∈ r
  | [], _, _, h => by simp at h
  | (k, v) :: r, c, d, h => by
    rw [List.lookup_cons] at h
    by_cases e : (c == k) = true
    · rw [e] at h
      have e2 : c = k := by simpa using e
      cases h
      rw [e2]
      exact List.mem_cons_self ..
    · rw [show (c == k) = false by simpa using e] at h
      exact List.mem_cons_of_mem _ (mem_lk h)
theorem ss_try (C : Ctx X P N sc) {x n : Str} {A : Addr} {i : Nat} {body suite : List Stmt} {b0 : Stmt} {np pos' : Pos} {B : List Stm} {ok : List Nat} {r : List (Nat × D)} (hs : X.stack = X.env :: X.outer) (hf : X.env.frame = some X.env.locals)
    (hi : N[i]? = some n) (hln : X.env.kindOf n = some .local) (hg : X.env.kindOf x = some .globalImplicit) (hm : X.mg x = some (.ref A))
    (hy : ∀ p ∈ r, PySem.W.exmOne P.K (.ref (P.ca p.1)) (.ref A) = some true ∧ ∃ v, flV p.2 = some v ∧ ∀ (a : Addr) (oe : Obj) (pn : List (Addr × Obj)), Zc (.ref (P.ca p.1)) none oe → (∃ vs, oe.data = .fields vs) → PSs (X.suite a ((a, oe) :: pn)) (b0 :: suite) (tX i a v))
    (hno : ∀ c ∈ ok, PySem.W.exmOne P.K (.ref (P.ca c)) (.ref A) = some false)
    (hb : ∀ (W : WX) (pn : List (Addr × Obj)) (xe : Value → Shared → Prop), Ctx (X.tr pn xe) (P.wi W) N sc → PSs (X.tr pn xe) body (liftS (P.wi W) (execs Φ F B))) (hdb : (x == ("__debug__" : Str)) = false := by decide) :
    PS X (.Try body [.ExceptHandler (some (.Name x np)) (some n) (b0 :: suite) pos'] [] [] pos) (liftS P (exec Φ F (.tri i B ok r))) := by
  have hyes : ∀ c d, r.lookup c = some d → PySem.W.exmOne P.K (.ref (P.ca c)) (.ref A) = some true ∧ ∃ v, flV d = some v ∧ ∀ (a : Addr) (oe : Obj) (pn : List (Addr × Obj)), Zc (.ref (P.ca c)) none oe → (∃ vs, oe.data = .fields vs) → PSs (X.suite a ((a, oe) :: pn)) (b0 :: suite) (tX i a v) := fun c d h => hy (c, d) (mem_lk h)
  refine PS.imp (ps_try_as (c := .ref A) (ts := fun a cls d => fun D σ H => ∃ c dd v, cls = .ref (P.ca c) ∧ d = none ∧ r.lookup c = some dd ∧ flV dd = some v ∧ tX i a v D σ H) (Wout := P.W) (tb := fun W => liftS (P.wi W) (execs Φ F B)) hs hf (by rw [C.hN]; exact C.nd) (by rw [C.hN]; exact hi) hln ⟨hg, hdb, .inl hm⟩ C.tk
    (fun W pn xe tk po => hb W pn xe ⟨C.hK, C.hN, C.nd, C.hs, C.calm, C.un, tk, po⟩)
    (fun a oe cls d pn hz hfl => ⟨fun pins s σ H D I h => ?_⟩)) fun D σ H ⟨e, R, p⟩ => ⟨e, R.wi, ?_⟩
  · obtain ⟨c, dd, v, rfl, rfl, hl, hv, h⟩ := h
    obtain ⟨_, v', hv', hp⟩ := hyes c dd hl
    rw [hv] at hv'
    cases hv'
    exact (hp a oe pn hz hfl).run pins s σ H D I h
  · simp only [exec] at p
    cases q : execs Φ F B e with
    | nx e' => rw [q] at p; exact fun σ' H' R' => p σ' H' R'.iw
    | ret x => rw [q] at p; exact p
    | bk e' => rw [q] at p; exact fun σ' H' R' => p σ' H' R'.iw
    | ct e' => rw [q] at p; exact fun σ' H' R' => p σ' H' R'.iw
    | stuck => rw [q] at p; exact p
    | ex c e' =>
      rw [q] at p
      intro σ' H' R'
      cases ql : r.lookup c with
      | some dd =>
        simp only [ql] at p
        obtain ⟨he, v, hv, _⟩ := hyes c dd ql
        split at p
        · rename_i hlt
          refine ⟨true, by rw [C.hK]; exact he, fun _ a na => ⟨c, dd, v, rfl, rfl, ql, hv, ?_, ?_⟩, fun z => Bool.noConfusion z⟩
          · rw [List.getElem?_set_self]
            rw [R'.len]
            exact hlt
          · exact p v H' R'.fr (flV_den hv)
        · exact p.elim
      | none =>
        simp only [ql] at p
        by_cases ho : ok.contains c = true
        · rw [if_pos ho] at p
          exact ⟨false, by rw [C.hK]; exact hno c (by simpa using ho), fun z => Bool.noConfusion z, fun _ => p σ' H' R'.iw⟩
        · rw [if_neg ho] at p; exact p.elim
theorem se_globK {x : Str} {A : Addr} {d : D} {m : Nat} (hg : X.env.kindOf x = some .globalImplicit) (hm : X.mg x = some (.ref A)) (hd : ∀ (av : Addr → Prop) (H : Hp), Den P.K av H (.ref A) d) (hdb : (x == ("__debug__" : Str)) = false := by decide) : PE X (.Name x pos) (lift P m (ev Φ (.con d))) := se_glob (v := .ref A) hg hm rfl hd hdb
/-- the facts of a class for the clauses that name it, and for its instances -/
structure XFull (K : PySem.W.Frag) (mg : Str → Option Value) (x : Str) (A : Addr) : Prop extends XCls K mg x A where
  hd : PySem.W.hasDictIn K A = true
  ex : ExcC K A
theorem XFull.exm {K : PySem.W.Frag} {mg : Str → Option Value} {x : Str} {A : Addr} {cls : Value} {k : Bool} (h : XFull K mg x A) (s : PySem.W.subIn K cls (.ref A) = some k) : PySem.W.exmOne K cls (.ref A) = some k := PySem.W.exm_ref h.b h.hd h.t s
theorem kit_c {K : PySem.W.Frag} {D A : Addr} {k : Bool} (hd : PySem.W.hasDictIn K A = true) (ht : PySem.W.typeIn K (.ref A) = some (.type "type")) (hs : PySem.W.subIn K (.ref D) (.ref A) = some k) : PySem.W.kitCls K (.ref D) (.ref A) = some k := by
  obtain ⟨cd, hc, _⟩ := PySem.W.any_some hd
  have e2 : ((PySem.W.clsIn K A).isSome && PySem.W.typeIn K (.ref A) == some (.type "type")) = true := by rw [hc, ht] <;> rfl
  show (if ((PySem.W.clsIn K A).isSome && PySem.W.typeIn K (.ref A) == some (.type "type")) = true then PySem.W.subIn K (.ref D) (.ref A) else none) = some k
  rw [if_pos e2]
  exact hs
theorem kit_t {K : PySem.W.Frag} {D A : Addr} (hd : PySem.W.hasDictIn K A = true) (ht : PySem.W.typeIn K (.ref A) = some (.type "type")) (hs : PySem.W.subIn K (.ref D) (.ref A) = some true) : PySem.W.kitOne K (.ref D) (.ref A) = some true := by
  unfold PySem.W.kitOne
  split
  · rfl
  · exact kit_c hd ht hs
theorem kit_f {K : PySem.W.Frag} {D A : Addr} (hd : PySem.W.hasDictIn K A = true) (ht : PySem.W.typeIn K (.ref A) = some (.type "type")) (hs : PySem.W.subIn K (.ref D) (.ref A) = some false) (hn : (Value.ref D == Value.ref A) = false) : PySem.W.kitOne K (.ref D) (.ref A) = some false := by
  unfold PySem.W.kitOne
  rw [if_neg (by rw [hn]; exact Bool.false_ne_true)]
  exact kit_c hd ht hs
end
end Rf

set_option Elab.async false
set_option linter.all false
set_option maxRecDepth 100000
set_option maxHeartbeats 1000000
/-! Rf, part K: tools for the evaluator. -/
namespace Rf
open PySem
section
variable {Φ : FT} {F : Nat} {e : Sl}
@[simp] theorem e_nop : ev Φ .nop e = .ok .none := by simp only [ev]
@[simp] theorem e_con {x : D} : ev Φ (.con x) e = .ok x := by simp only [ev]
def varK : Option Slot → Res D
  | some (.d x) => .ok x
  | _ => .stuck
def vwK : Option Slot → Res D
  | some (.d x) => .ok x
  | some (.ol xs) => .ok (.list xs)
  | some (.od kvs) => .ok (.dict kvs)
  | _ => .stuck
@[simp] theorem varK_d {x : D} : varK (some (.d x)) = .ok x := id rfl
@[simp] theorem vwK_d {x : D} : vwK (some (.d x)) = .ok x := id rfl
@[simp] theorem vwK_l {x : List D} : vwK (some (.ol x)) = .ok (.list x) := id rfl
@[simp] theorem vwK_k {x : List (D × D)} : vwK (some (.od x)) = .ok (.dict x) := id rfl
@[simp] theorem e_var {i : Nat} : ev Φ (.var i) e = varK e[i]? := by simp only [ev]; cases e[i]? with
  | none => rfl
  | some s => cases s <;> rfl
@[simp] theorem e_vw {i : Nat} : ev Φ (.vw i) e = vwK e[i]? := by simp only [ev]; cases e[i]? with
  | none => rfl
  | some s => cases s <;> rfl
def binK (op : BOp) (x y : D) : Res D := .of (binD op x y)
def cmpK (op : COp) (x y : D) : Res D := .of ((cmpD op x y).map .bool)
def andK (Φ : FT) (b : Exp) (e : Sl) : D → Res D
  | .bool true => ev Φ b e
  | .bool false => .ok (.bool false)
  | _ => .stuck
def orK (Φ : FT) (b : Exp) (e : Sl) : D → Res D
  | .bool true => .ok (.bool true)
  | .bool false => ev Φ b e
  | _ => .stuck
def notK : D → Res D
  | .bool k => .ok (.bool (!k))
  | _ => .stuck
def negK : D → Res D
  | .int k => .ok (.int (-k))
  | _ => .stuck
def iteK (Φ : FT) (a b : Exp) (e : Sl) : D → Res D
  | .bool true => ev Φ a e
  | .bool false => ev Φ b e
  | _ => .stuck
def chK2 (o2 : COp) (y z : D) : Res D := .of ((cmpD o2 y z).map .bool)
def chK (Φ : FT) (o2 : COp) (c : Exp) (e : Sl) (y : D) : Bool → Res D
  | true => (ev Φ c e).bind (chK2 o2 y)
  | false => .ok (.bool false)
@[simp] theorem andK_t {b : Exp} : andK Φ b e (.bool true) = ev Φ b e := id rfl
@[simp] theorem andK_f {b : Exp} : andK Φ b e (.bool false) = .ok (.bool false) := id rfl
@[simp] theorem orK_t {b : Exp} : orK Φ b e (.bool true) = .ok (.bool true) := id rfl
@[simp] theorem orK_f {b : Exp} : orK Φ b e (.bool false) = ev Φ b e := id rfl
@[simp] theorem notK_b {b : Bool} : notK (.bool b) = .ok (.bool (!b)) := id rfl
@[simp] theorem negK_i {b : Int} : negK (.int b) = .ok (.int (-b)) := id rfl
@[simp] theorem iteK_t {a b : Exp} : iteK Φ a b e (.bool true) = ev Φ a e := id rfl
@[simp] theorem iteK_f {a b : Exp} : iteK Φ a b e (.bool false) = ev Φ b e := id rfl
@[simp] theorem chK_t {o2 : COp} {c : Exp} {y : D} : chK Φ o2 c e y true = (ev Φ c e).bind (chK2 o2 y) := id rfl
@[simp] theorem chK_f {o2 : COp} {c : Exp} {y : D} : chK Φ o2 c e y false = .ok (.bool false) := id rfl
@[simp] theorem e_bin {op : BOp} {a b : Exp} : ev Φ (.bin op a b) e = (ev Φ a e).bind fun x => (ev Φ b e).bind (binK op x) := by simp only [ev]; rfl
@[simp] theorem e_cmp {op : COp} {a b : Exp} : ev Φ (.cmp op a b) e = (ev Φ a e).bind fun x => (ev Φ b e).bind (cmpK op x) := by simp only [ev]; rfl
@[simp] theorem e_chain {o1 o2 : COp} {a b c : Exp} : ev Φ (.chain o1 o2 a b c) e = (ev Φ a e).bind fun x => (ev Φ b e).bind fun y => (Res.of (cmpD o1 x y)).bind (chK Φ o2 c e y) := by
  simp only [ev]
  congr 1; funext x; congr 1; funext y; congr 1; funext k
  cases k <;> rfl
@[simp] theorem e_and {a b : Exp} : ev Φ (.and a b) e = (ev Φ a e).bind (andK Φ b e) := by simp only [ev]; rfl
@[simp] theorem e_or {a b : Exp} : ev Φ (.or a b) e = (ev Φ a e).bind (orK Φ b e) := by simp only [ev]; rfl
@[simp] theorem e_not {a : Exp} : ev Φ (.not a) e = (ev Φ a e).bind notK := by simp only [ev]; rfl
@[simp] theorem e_neg {a : Exp} : ev Φ (.neg a) e = (ev Φ a e).bind negK := by simp only [ev]; rfl
@[simp] theorem e_ite {c a b : Exp} : ev Φ (.ite c a b) e = (ev Φ c e).bind (iteK Φ a b e) := by simp only [ev]; rfl
@[simp] theorem e_tup {es : List Exp} : ev Φ (.tup es) e = (evs Φ es e).bind fun xs => .ok (.tuple xs) := by simp only [ev]
@[simp] theorem e_lst {es : List Exp} : ev Φ (.lst es) e = (evs Φ es e).bind fun xs => .ok (.list xs) := by simp only [ev]
@[simp] theorem e_emp : ev Φ .emp e = .ok (.dict []) := by simp only [ev]
def idxK (x y : D) : Res D := .of (idxD x y)
@[simp] theorem e_idx {a b : Exp} : ev Φ (.idx a b) e = (ev Φ a e).bind fun x => (ev Φ b e).bind (idxK x) := by simp only [ev]; rfl
def slK (x : D) (l h : Option Int) : Res D := .of (sliceD x l h)
@[simp] theorem e_sl {a l h : Exp} : ev Φ (.sl a l h) e = (ev Φ a e).bind fun x => (evo Φ l e).bind fun l => (evo Φ h e).bind (slK x l) := by simp only [ev]; rfl
@[simp] theorem evo_nop : evo Φ .nop e = .ok none := id rfl
theorem evo_of {a : Exp} {i : Int} (h : a.isNop = false) (h2 : ev Φ a e = .ok (.int i)) : evo Φ a e = .ok (some i) := by unfold evo; rw [h, if_neg (by decide), h2]; rfl
def partK : D → Res (Option Int) := partD
@[simp] theorem partK_i {i : Int} : partK (.int i) = .ok (some i) := id rfl
@[simp] theorem evo_con {x : D} : evo Φ (.con x) e = partK x := id rfl
@[simp] theorem evo_var {i : Nat} : evo Φ (.var i) e = (varK e[i]?).bind partK := by rw [← e_var (Φ := Φ)]; rfl
@[simp] theorem evo_bin {op : BOp} {a b : Exp} : evo Φ (.bin op a b) e = (ev Φ (.bin op a b) e).bind partK := id rfl
@[simp] theorem evo_idx {a b : Exp} : evo Φ (.idx a b) e = (ev Φ (.idx a b) e).bind partK := id rfl
@[simp] theorem evo_neg {a : Exp} : evo Φ (.neg a) e = (ev Φ (.neg a) e).bind partK := id rfl
@[simp] theorem evo_call {f : Nat} {a : List Exp} : evo Φ (.call f a) e = (ev Φ (.call f a) e).bind partK := id rfl
@[simp] theorem evo_blt {f : Blt} {a : List Exp} : evo Φ (.blt f a) e = (ev Φ (.blt f a) e).bind partK := id rfl
@[simp] theorem e_rev {a : Exp} : ev Φ (.rev a) e = (ev Φ a e).bind fun x => .of (revD x) := by simp only [ev]
@[simp] theorem e_revs {a : Exp} : ev Φ (.revs a) e = (ev Φ a e).bind fun x => .of (revsD x) := by simp only [ev]
@[simp] theorem e_call {f : Nat} {es : List Exp} : ev Φ (.call f es) e = (evs Φ es e).bind (Φ f) := by simp only [ev]
def flK (y : D) : Res D := if noLst y then .ok y else .stuck
@[simp] theorem e_callv {f : Nat} {es : List Exp} : ev Φ (.callv f es) e = (evs Φ es e).bind fun xs => (Φ f xs).bind flK := by simp only [ev]; rfl
@[simp] theorem flK_i {i : Int} : flK (.int i) = .ok (.int i) := id rfl
@[simp] theorem flK_b {i : Bool} : flK (.bool i) = .ok (.bool i) := id rfl
@[simp] theorem flK_s {i : Str} : flK (.str i) = .ok (.str i) := id rfl
@[simp] theorem flK_n : flK .none = .ok .none := id rfl
def bltK (b : Blt) (xs : List D) : Res D := .of (bltD b xs)
@[simp] theorem e_blt {b : Blt} {es : List Exp} : ev Φ (.blt b es) e = (evs Φ es e).bind (bltK b) := by simp only [ev]; rfl
def mthK (m : Mth) (x : D) (xs : List D) : Res D := .of (mthD m x xs)
@[simp] theorem e_mth {m : Mth} {o : Exp} {es : List Exp} : ev Φ (.mth m o es) e = (ev Φ o e).bind fun x => (evs Φ es e).bind (mthK m x) := by simp only [ev]; rfl
def compK (Φ : FT) (elt : Exp) (t : Tgt) (ifs : List Exp) (e : Sl) (its : List D) : Res D :=
  if freeOf e t.ix && decide (its.length ≤ line) then (noEx (compL (ev Φ elt) (evt Φ ifs) t its (wipeS e t.ix))).bind fun ys => .ok (.list ys) else .stuck
def srcK (k : SrcK) (xs : List D) : Res (List D) := .of (srcD k xs)
@[simp] theorem e_comp {elt : Exp} {t : Tgt} {k : SrcK} {es ifs : List Exp} : ev Φ (.comp elt t k es ifs) e = (evs Φ es e).bind fun xs => (srcK k xs).bind (compK Φ elt t ifs e) := by simp only [ev]; rfl
@[simp] theorem srcK_l {xs : List D} : srcK .lst [.list xs] = .ok xs := id rfl
@[simp] theorem srcK_t {xs : List D} : srcK .tup [.tuple xs] = .ok xs := id rfl
@[simp] theorem srcK_s {z : Str} : srcK .str [.str z] = .ok (z.cps.toList.map fun c => .str (S [c])) := id rfl
theorem srcK_r1 {n : Int} (h : n ≤ 4611686018427387903) (h0 : 0 ≤ n) : srcK .rng [.int n] = .ok (rngD 0 n.toNat) := by
  have h1 : -(2 ^ 62) ≤ n ∧ n < 2 ^ 62 := ⟨by omega, by omega⟩
  simp only [srcK, srcD, if_pos h1, Res.of_some]
theorem srcK_rn {n : Nat} (h : n ≤ 1000000) : srcK .rng [.int (n : Int)] = .ok (rngD 0 n) := srcK_r1 (by omega) (by omega)
@[simp] theorem srcK_z {xs ys : List D} : srcK .zip [.list xs, .list ys] = .ok (zipD xs ys) := id rfl
@[simp] theorem srcK_zt {xs ys : List D} : srcK .zip [.tuple xs, .tuple ys] = .ok (zipD xs ys) := id rfl
@[simp] theorem es_nil : evs Φ [] e = .ok [] := by simp only [evs]
@[simp] theorem es_cons {a : Exp} {r : List Exp} : evs Φ (a :: r) e = (ev Φ a e).bind fun x => (evs Φ r e).bind fun xs => .ok (x :: xs) := by simp only [evs]
@[simp] theorem et_nil : evt Φ [] e = .ok true := by simp only [evt]
/-! what the operations give -/
@[simp] theorem binK_add {i j : Int} : binK .add (.int i) (.int j) = .ok (.int (i + j)) := id rfl
@[simp] theorem binK_sub {i j : Int} : binK .sub (.int i) (.int j) = .ok (.int (i - j)) := id rfl
theorem binK_mul {i j : Int} (h : i.natAbs < 18446744073709551616 ∨ j.natAbs < 18446744073709551616) : binK .mul (.int i) (.int j) = .ok (.int (i * j)) := by
  have h1 : i.natAbs < 2 ^ 64 ∨ j.natAbs < 2 ^ 64 := h
  simp only [binK, binD, if_pos h1, Res.of_some]
@[simp] theorem binK_mulr {i j : Int} (h : j.natAbs < 18446744073709551616) : binK .mul (.int i) (.int j) = .ok (.int (i * j)) := binK_mul (.inr h)
@[simp] theorem binK_mull {i j : Int} (h : i.natAbs < 18446744073709551616) : binK .mul (.int i) (.int j) = .ok (.int (i * j)) := binK_mul (.inl h)
@[simp] theorem binK_div {i j : Int} (h : 0 < j) (h2 : j < 1073741824) : binK .fdiv (.int i) (.int j) = .ok (.int (i / j)) := by simp only [binK, binD, if_pos (And.intro h h2), Res.of_some]
@[simp] theorem binK_mod {i j : Int} (h : 0 < j) : binK .mod (.int i) (.int j) = .ok (.int (i % j)) := by simp only [binK, binD, if_pos h, Res.of_some]
@[simp] theorem binK_pow {i j : Int} (h : 0 ≤ j) (h2 : j ≤ 1000000) (h3 : i.natAbs < 18446744073709551616) : binK .pow (.int i) (.int j) = .ok (.int (i ^ j.toNat)) := by
  have h1 : 0 ≤ j ∧ j ≤ 1000000 ∧ i.natAbs < 2 ^ 64 := ⟨h, h2, h3⟩
  simp only [binK, binD, if_pos h1, Res.of_some]
theorem binK_str {x y : Str} (h : x.length + y.length ≤ 1000000) : binK .add (.str x) (.str y) = .ok (.str (x ++ y)) := by
  simp only [binK, binD]
  rw [if_pos (show _ ≤ line from h)]
  rfl
theorem binK_lst {x y : List D} (h : x.length + y.length ≤ 1000000) : binK .add (.list x) (.list y) = .ok (.list (x ++ y)) := by
  simp only [binK, binD]
  rw [if_pos (show _ ≤ line from h)]
  rfl
@[simp] theorem cmpK_lt {i j : Int} : cmpK .lt (.int i) (.int j) = .ok (.bool (decide (i < j))) := id rfl
@[simp] theorem cmpK_le {i j : Int} : cmpK .le (.int i) (.int j) = .ok (.bool (decide (i ≤ j))) := id rfl
@[simp] theorem cmpK_gt {i j : Int} : cmpK .gt (.int i) (.int j) = .ok (.bool (decide (j < i))) := id rfl
@[simp] theorem cmpK_ge {i j : Int} : cmpK .ge (.int i) (.int j) = .ok (.bool (decide (j ≤ i))) := id rfl
@[simp] theorem cmpK_eqI {i j : Int} : cmpK .eq (.int i) (.int j) = .ok (.bool (decide (i = j))) := by
  simp [cmpK, cmpD, eqOk, PyData.canLay0, PyData.depth, PyData.eqv, Bool.beq_eq_decide_eq]
@[simp] theorem cmpK_neI {i j : Int} : cmpK .ne (.int i) (.int j) = .ok (.bool (!decide (i = j))) := by
  simp [cmpK, cmpD, eqOk, PyData.canLay0, PyData.depth, PyData.eqv, Bool.beq_eq_decide_eq]
@[simp] theorem cmpK_eqS {i j : Str} (h : PyData.strOk i = true) (h2 : PyData.strOk j = true) : cmpK .eq (.str i) (.str j) = .ok (.bool (i == j)) := by
  simp [cmpK, cmpD, eqOk, PyData.canLay0, PyData.depth, PyData.eqv, h, h2]
@[simp] theorem cmpK_neS {i j : Str} (h : PyData.strOk i = true) (h2 : PyData.strOk j = true) : cmpK .ne (.str i) (.str j) = .ok (.bool (!(i == j))) := by
  simp [cmpK, cmpD, eqOk, PyData.canLay0, PyData.depth, PyData.eqv, h, h2]
@[simp] theorem cmpK_eqB {i j : Bool} : cmpK .eq (.bool i) (.bool j) = .ok (.bool (decide (i = j))) := by
  cases i <;> cases j <;> rfl
@[simp] theorem cmpK_neB {i j : Bool} : cmpK .ne (.bool i) (.bool j) = .ok (.bool (!decide (i = j))) := by
  cases i <;> cases j <;> rfl
@[simp] theorem cmpK_isB {i j : Bool} : cmpK .is (.bool i) (.bool j) = .ok (.bool (decide (i = j))) := id rfl
@[simp] theorem bltK_lenL {xs : List D} : bltK .len [.list xs] = .ok (.int xs.length) := id rfl
@[simp] theorem bltK_lenT {xs : List D} : bltK .len [.tuple xs] = .ok (.int xs.length) := id rfl
@[simp] theorem bltK_lenD {xs : List (D × D)} : bltK .len [.dict xs] = .ok (.int xs.length) := id rfl
theorem bltK_lenS {z : Str} (h : z.length ≤ 1000000) : bltK .len [.str z] = .ok (.int z.length) := by
  simp only [bltK, bltD]
  rw [if_pos (show _ ≤ line from h)]
  rfl
@[simp] theorem bltK_int {i : Int} : bltK .int [.int i] = .ok (.int i) := id rfl
@[simp] theorem bltK_intB {b : Bool} : bltK .int [.bool b] = .ok (.int (if b then 1 else 0)) := id rfl
@[simp] theorem bltK_abs {i : Int} : bltK .abs [.int i] = .ok (.int (if i < 0 then -i else i)) := id rfl
@[simp] theorem bltK_max {i j : Int} : bltK .max [.int i, .int j] = .ok (.int (if j > i then j else i)) := id rfl
@[simp] theorem bltK_min {i j : Int} : bltK .min [.int i, .int j] = .ok (.int (if j < i then j else i)) := id rfl
@[simp] theorem bltK_tupL {xs : List D} : bltK .tuple [.list xs] = .ok (.tuple xs) := id rfl
@[simp] theorem bltK_tupT {xs : List D} : bltK .tuple [.tuple xs] = .ok (.tuple xs) := id rfl
@[simp] theorem bltK_lstL {xs : List D} : bltK .list [.list xs] = .ok (.list xs) := id rfl
@[simp] theorem bltK_isi {T : Nat} {x : D} : bltK (.isi T) [x] = .of ((isiD T x).map .bool) := by unfold bltK bltD; cases x <;> rfl
@[simp] theorem isi_i {T : Nat} {i : Int} : isiD T (.int i) = some (T == 0) := id rfl
@[simp] theorem isi_b {T : Nat} {i : Bool} : isiD T (.bool i) = some (T == 0 || T == 1) := id rfl
@[simp] theorem isi_s {T : Nat} {i : Str} : isiD T (.str i) = some (T == 2) := id rfl
@[simp] theorem isi_t {T : Nat} {i : List D} : isiD T (.tuple i) = some (T == 3) := id rfl
@[simp] theorem isi_l {T : Nat} {i : List D} : isiD T (.list i) = some (T == 4) := id rfl
/-! statements -/
def asgK (t : Tgt) (e : Sl) (x : D) : Out := match bindT t x e with
  | some e' => .nx e'
  | none => .stuck
def ifK (Φ : FT) (F : Nat) (a b : List Stm) (e : Sl) : D → Out
  | .bool true => execs Φ F a e
  | .bool false => execs Φ F b e
  | _ => .stuck
@[simp] theorem ifK_t {a b : List Stm} : ifK Φ F a b e (.bool true) = execs Φ F a e := id rfl
@[simp] theorem ifK_f {a b : List Stm} : ifK Φ F a b e (.bool false) = execs Φ F b e := id rfl
@[simp] theorem asgK_nm {i : Nat} {x : D} (h : i < e.length) : asgK (.nm i) e x = .nx (e.set i (.d x)) := by unfold asgK bindT; rw [if_pos h]
@[simp] theorem x_nil : execs Φ F [] e = .nx e := by simp only [execs]
@[simp] theorem x_cons {s : Stm} {r : List Stm} : execs Φ F (s :: r) e = (exec Φ F s e).seq (execs Φ F r) := by simp only [execs]
@[simp] theorem seq_nil {o : Out} : o.seq (execs Φ F []) = o := by cases o <;> first | rfl | exact x_nil
@[simp] theorem slK_l {xs : List D} {lo hi : Option Int} : slK (.list xs) lo hi = .ok (.list (cutD xs lo hi)) := id rfl
@[simp] theorem slK_t {xs : List D} {lo hi : Option Int} : slK (.tuple xs) lo hi = .ok (.tuple (cutD xs lo hi)) := id rfl
theorem slK_s {z : Str} {lo hi : Option Int} (h : z.length ≤ line) : slK (.str z) lo hi = .ok (.str (S (cutD z.cps.toList lo hi))) := by
  simp only [slK, sliceD]
  rw [if_pos h]
  rfl
theorem cut_to {α : Type} {xs : List α} {n : Nat} : cutD xs none (some (n : Int)) = xs.take n := by
  unfold cutD
  rw [HT.sIx_none, HT.sIx_nat, Nat.sub_zero, List.drop_zero]
  by_cases h : n ≤ xs.length
  · rw [Nat.min_eq_left h]
  · rw [Nat.min_eq_right (by omega), List.take_length, List.take_of_length_le (by omega)]
theorem cut_from {α : Type} {xs : List α} {n : Nat} : cutD xs (some (n : Int)) none = xs.drop n := by
  unfold cutD
  rw [HT.sIx_none, HT.sIx_nat]
  by_cases h : n ≤ xs.length
  · rw [Nat.min_eq_left h, List.take_of_length_le (by rw [List.length_drop]; omega)]
  · rw [Nat.min_eq_right (by omega), Nat.sub_self, List.take_zero, List.drop_of_length_le (by omega)]
theorem cut_mid {α : Type} {xs : List α} {n m : Nat} (h : n ≤ m) (h2 : m ≤ xs.length) : cutD xs (some (n : Int)) (some (m : Int)) = (xs.drop n).take (m - n) := by
  unfold cutD
  rw [HT.sIx_nat, HT.sIx_nat, Nat.min_eq_left h2, Nat.min_eq_left (by omega)]
@[simp] theorem x_asg {t : Tgt} {a : Exp} : exec Φ F (.asg t a) e = Out.ofR (ev Φ a e) e (asgK t e) := by simp only [exec]; rfl
@[simp] theorem x_ifs {c : Exp} {a b : List Stm} : exec Φ F (.ifs c a b) e = Out.ofR (ev Φ c e) e (ifK Φ F a b e) := by simp only [exec]; rfl
@[simp] theorem x_ret {a : Exp} : exec Φ F (.ret a) e = Out.ofR (ev Φ a e) e .ret := by simp only [exec]
@[simp] theorem x_retn : exec Φ F .retn e = .ret .none := by simp only [exec]
@[simp] theorem x_brk : exec Φ F .brk e = .bk e := by simp only [exec]
@[simp] theorem x_cnt : exec Φ F .cnt e = .ct e := by simp only [exec]
@[simp] theorem x_pas : exec Φ F .pas e = .nx e := by simp only [exec]
def ownK (i : Nat) (e : Sl) (x : D) : Out := match ownS x with
  | some s => if i < e.length then .nx (e.set i s) else .stuck
  | none => .stuck
@[simp] theorem ownK_l {i : Nat} {xs : List D} (h : i < e.length) : ownK i e (.list xs) = .nx (e.set i (.ol xs)) := by simp only [ownK, ownS, if_pos h]
@[simp] theorem ownK_e {i : Nat} (h : i < e.length) : ownK i e (.dict []) = .nx (e.set i (.od [])) := by simp only [ownK, ownS, keysOk, if_pos h, if_true]
@[simp] theorem x_own {i : Nat} {a : Exp} : exec Φ F (.own i a) e = Out.ofR (ev Φ a e) e (ownK i e) := by simp only [exec]; rfl
def appK (Φ : FT) (i : Nat) (a : Exp) (e : Sl) : Option Slot → Out
  | some (.ol xs) => Out.ofR (ev Φ a e) e fun x => if xs.length < line then .nx (e.set i (.ol (xs ++ [x]))) else .stuck
  | _ => .stuck
theorem appK_l {i : Nat} {a : Exp} {xs : List D} : appK Φ i a e (some (.ol xs)) = Out.ofR (ev Φ a e) e fun x => if xs.length < line then .nx (e.set i (.ol (xs ++ [x]))) else .stuck := rfl
@[simp] theorem appK_ok {i : Nat} {a : Exp} {xs : List D} (h : xs.length < line) : appK Φ i a e (some (.ol xs)) = Out.ofR (ev Φ a e) e fun x => .nx (e.set i (.ol (xs ++ [x]))) := by
  rw [appK_l]; congr 1; funext x; rw [if_pos h]
@[simp] theorem x_app {i : Nat} {a : Exp} : exec Φ F (.app i a) e = appK Φ i a e e[i]? := by simp only [exec]; cases e[i]? with
  | none => rfl
  | some s => cases s <;> rfl
@[simp] theorem x_for {t : Tgt} {k : SrcK} {es : List Exp} {b : List Stm} : exec Φ F (.for t k es b) e = Out.ofR ((evs Φ es e).bind (srcK k)) e fun its => forL (execs Φ F b) t its e := by
  simp only [exec]
  cases evs Φ es e with
  | ok xs =>
    simp only [Out.ofR_ok, Res.bind_ok]
    unfold srcK
    cases srcD k xs <;> rfl
  | ex c => rfl
  | stuck => rfl
def giveK (i : Nat) (e : Sl) : Option Slot → Out
  | some (.ol xs) => .nx (e.set i (.d (.list xs)))
  | _ => .stuck
@[simp] theorem giveK_l {i : Nat} {xs : List D} : giveK i e (some (.ol xs)) = .nx (e.set i (.d (.list xs))) := id rfl
@[simp] theorem x_give {i : Nat} : exec Φ F (.give i) e = giveK i e e[i]? := by simp only [exec]; cases e[i]? with
  | none => rfl
  | some s => cases s <;> rfl
@[simp] theorem x_par {i j : Nat} {a b : Exp} : exec Φ F (.par i j a b) e = Out.ofR (ev Φ a e) e fun x => Out.ofR (ev Φ b e) e fun y => if i < e.length ∧ j < e.length then .nx ((e.set i (.d x)).set j (.d y)) else .stuck := by simp only [exec]
theorem forL_nil {b : Sl → Out} {t : Tgt} : forL b t [] e = .nx e := by simp only [forL]
theorem forL_cons {b : Sl → Out} {t : Tgt} {x : D} {xs : List D} {e1 : Sl} (h : bindT t x e = some e1) : forL b t (x :: xs) e = (b e1).turn fun e2 => forL b t xs e2 := by simp only [forL, h]
/-- a loop that only goes on -/
theorem forL_inv {b : Sl → Out} {t : Tgt} (I : Nat → Sl → Prop) : ∀ (its : List D) (e : Sl) (k : Nat), I k e → (∀ i x e, its[i]? = some x → I (k + i) e → ∃ e1 e2, bindT t x e = some e1 ∧ (b e1 = .nx e2 ∨ b e1 = .ct e2) ∧ I (k + i + 1) e2) → ∃ e', forL b t its e = .nx e' ∧ I (k + its.length) e'
  | [], e, k, h0, _ => ⟨e, forL_nil, h0⟩
  | x :: xs, e, k, h0, hs => by
    obtain ⟨e1, e2, h1, h2, h3⟩ := hs 0 x e rfl h0
    obtain ⟨e', q1, q2⟩ := forL_inv I xs e2 (k + 1) h3 fun i x e hi h => by
      have := hs (i + 1) x e (by simpa using hi) (by rw [show k + (i + 1) = k + 1 + i by omega]; exact h)
      rw [show k + (i + 1) + 1 = k + 1 + i + 1 by omega] at this
      exact this
    refine ⟨e', ?_, by rw [show k + (x :: xs).length = k + 1 + xs.length by simp only [List.length_cons]; omega]; exact q2⟩
    rw [forL_cons h1]
    rcases h2 with h2 | h2 <;> rw [h2] <;> exact q1
/-- a loop whose turns may also break or return; what is asked of the end -/
theorem forL_post {b : Sl → Out} {t : Tgt} (I : Nat → Sl → Prop) (Q : Out → Prop) : ∀ (its : List D) (e : Sl) (k : Nat), I k e → (∀ i x e, its[i]? = some x → I (k + i) e → ∃ e1, bindT t x e = some e1 ∧ ((∃ e2, (b e1 = .nx e2 ∨ b e1 = .ct e2) ∧ I (k + i + 1) e2) ∨ (∃ e2, b e1 = .bk e2 ∧ Q (.nx e2)) ∨ (∃ x, b e1 = .ret x ∧ Q (.ret x)))) → (∀ e, I (k + its.length) e → Q (.nx e)) → Q (forL b t its e)
  | [], e, k, h0, _, hd => by rw [forL_nil]; exact hd e h0
  | x :: xs, e, k, h0, hs, hd => by
    obtain ⟨e1, h1, h2⟩ := hs 0 x e rfl h0
    rw [forL_cons h1]
    rcases h2 with ⟨e2, h2, h3⟩ | ⟨e2, h2, h3⟩ | ⟨r, h2, h3⟩
    · have := forL_post I Q xs e2 (k + 1) h3 (fun i x e hi h => by
        have := hs (i + 1) x e (by simpa using hi) (by rw [show k + (i + 1) = k + 1 + i by omega]; exact h)
        rw [show k + (i + 1) + 1 = k + 1 + i + 1 by omega] at this
        exact this) (fun e h => hd e (by rw [show k + (x :: xs).length = k + 1 + xs.length by simp only [List.length_cons]; omega]; exact h))
      rcases h2 with h2 | h2 <;> rw [h2] <;> exact this
    · rw [h2]; exact h3
    · rw [h2]; exact h3
theorem compL_all {f : Sl → Res D} {g : Sl → Res Bool} {t : Tgt} {h : D → D} (hg : ∀ e, g e = .ok true) : ∀ (its : List D), (∀ x ∈ its, ∃ e1, bindT t x e = some e1 ∧ f e1 = .ok (h x)) → compL f g t its e = .ok (its.map h)
  | [], _ => by simp only [compL, List.map_nil]
  | x :: xs, hs => by
    obtain ⟨e1, h1, h2⟩ := hs x (List.mem_cons_self ..)
    have ih := compL_all hg xs fun y hy => hs y (List.mem_cons_of_mem _ hy)
    simp only [compL, h1, hg, Res.bind_ok, if_pos, h2, ih, List.map_cons]
theorem rng_get {lo : Int} {n i : Nat} {x : D} (h : (rngD lo n)[i]? = some x) : i < n ∧ x = .int (lo + i) := by
  unfold rngD at h
  rw [List.getElem?_map] at h
  cases q : (List.range n)[i]? with
  | none => rw [q] at h; cases h
  | some j =>
    rw [q] at h
    obtain ⟨hi, e⟩ := List.getElem?_eq_some_iff.mp q
    rw [List.getElem_range] at e
    subst e
    simp only [Option.map_some, Option.some.injEq] at h
    exact ⟨by simpa using hi, h.symm⟩
@[simp] theorem rng_len {lo : Int} {n : Nat} : (rngD lo n).length = n := by simp [rngD]
/-- a list's item at a nat -/
theorem atI_at {α : Type} {xs : List α} {i : Int} {x : α} (h0 : 0 ≤ i) (h : xs[i.toNat]? = some x) : L2.atI xs i = some x := by
  obtain ⟨n, rfl⟩ := Int.eq_ofNat_of_zero_le h0
  exact L2.atI_nat (by simpa using h)
theorem get_ints {l : List Int} {i : Nat} (h : i < l.length) : (l.map PyData.int)[i]? = some (.int l[i]) := by rw [List.getElem?_map, List.getElem?_eq_getElem h]; rfl
end
/-! ### what is asked of an end -/
structure Is (Q : Out → Prop) (o : Out) : Prop where
  mk :: (out : Q o)
theorem is_eq {Q : Out → Prop} {o : Out} : Is Q o = Q o := propext ⟨fun h => h.out, fun h => ⟨h⟩⟩
/-- a loop's turn -/
def turnB (b : Sl → Out) (t : Tgt) (x : D) (e : Sl) : Out := match bindT t x e with
  | some e1 => b e1
  | none => .stuck
/-- what a turn is to reach -/
def Turn (Q : Out → Prop) (I : Sl → Prop) (f : Sl → Out) : Out → Prop
  | .nx e => I e
  | .ct e => I e
  | .bk e => Is Q (f e)
  | .ret x => Q (.ret x)
  | _ => False
@[simp] theorem Turn_nx {Q : Out → Prop} {I : Sl → Prop} {f : Sl → Out} {e : Sl} : Is (Turn Q I f) (.nx e) = I e := is_eq
@[simp] theorem Turn_ct {Q : Out → Prop} {I : Sl → Prop} {f : Sl → Out} {e : Sl} : Is (Turn Q I f) (.ct e) = I e := is_eq
@[simp] theorem Turn_bk {Q : Out → Prop} {I : Sl → Prop} {f : Sl → Out} {e : Sl} : Is (Turn Q I f) (.bk e) = Is Q (f e) := is_eq
@[simp] theorem Turn_ret {Q : Out → Prop} {I : Sl → Prop} {f : Sl → Out} {x : D} : Is (Turn Q I f) (.ret x) = Q (.ret x) := is_eq
theorem Is.for {Q : Out → Prop} {b : Sl → Out} {t : Tgt} {its : List D} {e : Sl} {f : Sl → Out} (I : Nat → Sl → Prop) (h0 : I 0 e) (hs : ∀ i x e, its[i]? = some x → I i e → Is (Turn Q (I (i + 1)) f) (turnB b t x e)) (hd : ∀ e, I its.length e → Is Q (f e)) : Is Q ((forL b t its e).seq f) := by
  refine forL_post (fun i e => I i e) (fun o => Is Q (o.seq f)) its e 0 h0 (fun i x e hx hi => ?_) (fun e h => hd e (by rw [Nat.zero_add] at h; exact h))
  rw [Nat.zero_add] at hi ⊢
  have h := (hs i x e hx hi).out
  unfold turnB at h
  cases q : bindT t x e with
  | none => rw [q] at h; exact h.elim
  | some e1 =>
    rw [q] at h
    refine ⟨e1, rfl, ?_⟩
    simp only [] at h
    cases q2 : b e1 with
    | nx e2 => rw [q2] at h; exact .inl ⟨e2, .inl rfl, h⟩
    | ct e2 => rw [q2] at h; exact .inl ⟨e2, .inr rfl, h⟩
    | bk e2 => rw [q2] at h; exact .inr (.inl ⟨e2, rfl, h⟩)
    | ret x => rw [q2] at h; exact .inr (.inr ⟨x, rfl, ⟨h⟩⟩)
    | ex c e2 => rw [q2] at h; exact h.elim
    | stuck => rw [q2] at h; exact h.elim
/-- a loop that stands last -/
theorem Is.forE {Q : Out → Prop} {b : Sl → Out} {t : Tgt} {its : List D} {e : Sl} (I : Nat → Sl → Prop) (h0 : I 0 e) (hs : ∀ i x e, its[i]? = some x → I i e → Is (Turn Q (I (i + 1)) .nx) (turnB b t x e)) (hd : ∀ e, I its.length e → Is Q (.nx e)) : Is Q (forL b t its e) := by
  have := Is.for (f := .nx) I h0 hs hd
  have e2 : ∀ o : Out, o.seq .nx = o := fun o => by cases o <;> rfl
  rw [e2] at this
  exact this
/-- a while loop, by a measure -/
theorem Is.whl {Q : Out → Prop} {c : Sl → Res D} {b : Sl → Out} {f : Sl → Out} (I : Nat → Sl → Prop) (hs : ∀ n e, I n e → (c e = .ok (.bool false) ∧ Is Q (f e)) ∨ (c e = .ok (.bool true) ∧ Is (Turn Q (fun e' => ∃ m, m < n ∧ I m e') f) (b e))) : ∀ (F : Nat) (e : Sl) (n : Nat), I n e → n < F → Is Q ((whileF c b F e).seq f)
  | 0, _, _, _, h => absurd h (Nat.not_lt_zero _)
  | F + 1, e, n, h0, hn => by
    rcases hs n e h0 with ⟨h1, h2⟩ | ⟨h1, h2⟩
    · have : whileF c b (F + 1) e = .nx e := by simp only [whileF, h1, Out.ofR_ok]
      rw [this]; exact h2
    · have : whileF c b (F + 1) e = (b e).turn fun e2 => whileF c b F e2 := by simp only [whileF, h1, Out.ofR_ok]
      rw [this]
      replace h2 := h2.out
      cases q : b e with
      | nx e2 => rw [q] at h2; obtain ⟨m, hm, hi⟩ := h2; exact Is.whl I hs F e2 m hi (by omega)
      | ct e2 => rw [q] at h2; obtain ⟨m, hm, hi⟩ := h2; exact Is.whl I hs F e2 m hi (by omega)
      | bk e2 => rw [q] at h2; exact h2
      | ret x => rw [q] at h2; exact ⟨h2⟩
      | ex c e2 => rw [q] at h2; exact h2.elim
      | stuck => rw [q] at h2; exact h2.elim
@[simp] theorem x_whl {c : Exp} {b : List Stm} {Φ : FT} {F : Nat} {e : Sl} : exec Φ F (.whl c b) e = whileF (ev Φ c) (execs Φ F b) F e := by simp only [exec]
def augK (i : Nat) (op : BOp) (e : Sl) (x y : D) : Out := match augD op x y with
  | some z => .nx (e.set i (.d z))
  | none => .stuck
def augS (Φ : FT) (i : Nat) (op : BOp) (a : Exp) (e : Sl) : Option Slot → Out
  | some (.d x) => Out.ofR (ev Φ a e) e (augK i op e x)
  | _ => .stuck
@[simp] theorem augS_d {Φ : FT} {i : Nat} {op : BOp} {a : Exp} {e : Sl} {x : D} : augS Φ i op a e (some (.d x)) = Out.ofR (ev Φ a e) e (augK i op e x) := id rfl
@[simp] theorem x_aug {Φ : FT} {F i : Nat} {op : BOp} {a : Exp} {e : Sl} : exec Φ F (.aug i op a) e = augS Φ i op a e e[i]? := by
  simp only [exec]
  cases e[i]? with
  | none => rfl
  | some s => cases s <;> rfl
@[simp] theorem augK_add {i : Nat} {e : Sl} {x y : Int} : augK i .add e (.int x) (.int y) = .nx (e.set i (.d (.int (x + y)))) := id rfl
@[simp] theorem augK_sub {i : Nat} {e : Sl} {x y : Int} : augK i .sub e (.int x) (.int y) = .nx (e.set i (.d (.int (x - y)))) := id rfl
@[simp] theorem augK_div {i : Nat} {e : Sl} {x y : Int} (h : 0 < y) (h2 : y < 1073741824) : augK i .fdiv e (.int x) (.int y) = .nx (e.set i (.d (.int (x / y)))) := by
  simp only [augK, augD, binD, if_pos (And.intro h h2)]
@[simp] theorem x_rse {Φ : FT} {F c : Nat} {e : Sl} : exec Φ F (.rse c) e = .ex c e := by simp only [exec]
/-- what is asked of the run of a def that may raise -/
def RetX (Q : D → Prop) (X : Nat → Prop) : Out → Prop
  | .ret x => Q x
  | .ex c _ => X c
  | _ => False
@[simp] theorem RetX_ret {Q : D → Prop} {X : Nat → Prop} {x : D} : Is (RetX Q X) (.ret x) = Q x := is_eq
@[simp] theorem RetX_ex {Q : D → Prop} {X : Nat → Prop} {c : Nat} {e : Sl} : Is (RetX Q X) (.ex c e) = X c := is_eq
theorem Is.run {fn : Fdef} {Φ : FT} {F : Nat} {args : List D} {Q : Res D → Prop} (hl : args.length = fn.np) (h : Is (fun o => match o with | .ret x => Q (.ok x) | .nx _ => Q (.ok .none) | .ex c _ => Q (.ex c) | _ => False) (execs Φ F fn.body (args.map .d ++ List.replicate (fn.ns - fn.np) .un))) : Q (fn.run Φ F args) := by
  unfold Fdef.run
  rw [if_pos hl]
  replace h := h.out
  cases q : execs Φ F fn.body (args.map .d ++ List.replicate (fn.ns - fn.np) .un) <;> rw [q] at h <;> first | exact h | exact h.elim
def Ret (Q : D → Prop) : Out → Prop
  | .ret x => Q x
  | _ => False
@[simp] theorem Ret_ret {Q : D → Prop} {x : D} : Is (Ret Q) (.ret x) = Q x := is_eq
/-- a def that ends with return -/
theorem run_of {fn : Fdef} {Φ : FT} {F : Nat} {args : List D} {Q : D → Prop} (hl : args.length = fn.np) (h : Is (Ret Q) (execs Φ F fn.body (args.map .d ++ List.replicate (fn.ns - fn.np) .un))) : ∃ x, fn.run Φ F args = .ok x ∧ Q x := by
  unfold Fdef.run
  rw [if_pos hl]
  replace h := h.out
  cases q : execs Φ F fn.body (args.map .d ++ List.replicate (fn.ns - fn.np) .un) with
  | ret x => rw [q] at h; exact ⟨x, rfl, h⟩
  | _ => rw [q] at h; exact h.elim
/-- the run of a def -/
theorem phi_succ {T : List Fdef} {F n i : Nat} {fn : Fdef} {args : List D} (h : T[i]? = some fn) : phi T F (n + 1) i args = fn.run (phi T F n) F args := by simp only [phi, h]
theorem run_ret {fn : Fdef} {Φ : FT} {F : Nat} {args : List D} {x : D} (hl : args.length = fn.np) (h : execs Φ F fn.body (args.map .d ++ List.replicate (fn.ns - fn.np) .un) = .ret x) : fn.run Φ F args = .ok x := by
  unfold Fdef.run
  rw [if_pos hl, h]
end Rf

set_option maxRecDepth 100000
set_option maxHeartbeats 2000000
namespace My
open PySem PySem.Spec PyProof.Rows L2 Rf
/-! ### the text of the law -/
def topS (i : Nat) : Stmt := PySem.Challenge.pw_sandreckoner_k25_tokens.main.body.getD i (.Pass ⟨0, 0, 0, 0⟩)
abbrev s0 : Stmt := topS 10
abbrev N0 : List Str := ["text", "at", "signs", "end"]
abbrev p0 : List Str := ["text", "at", "signs"]
def b0_1 : List Stm := [(.aug 3 .add (.con (.int 1)))]
def x0_2 : Exp := (.and (.cmp .lt (.var 3) (.blt .len [(.var 0)])) (.cmp .isin (.idx (.var 0) (.var 3)) (.var 2)))
/-- run_length -/
def b0 : List Stm := [(.asg (.nm 3) (.var 1)), (.whl x0_2 b0_1), (.ret (.bin .sub (.var 3) (.var 1)))]
abbrev s1 : Stmt := topS 11
abbrev N1 : List Str := ["text", "at", "signs", "size", "token"]
abbrev p1 : List Str := ["text", "at"]
def b1_1 : List Stm := [(.asg (.nm 3) (.call 0 [(.var 0), (.var 1), (.var 2)])), (.ifs (.cmp .gt (.var 3) (.con (.int 0))) [(.asg (.nm 4) (.sl (.var 0) (.var 1) (.bin .add (.var 1) (.var 3)))), (.ifs (.and (.cmp .eq (.var 4) (.con (.str "2"))) (.cmp .eq (.sl (.var 0) (.bin .add (.var 1) (.con (.int 1))) (.bin .add (.var 1) (.con (.int 2)))) (.con (.str "^")))) [(.ret (.con (.str "2^")))] []), (.ret (.var 4))] [])]
/-- token_at -/
def b1 : List Stm := [(.for (.nm 2) .tup [(.tup [(.con (.str "abcdefghijklmnopqrstuvwxyzABCDEFGHIJKLMNOPQRSTUVWXYZ")), (.con (.str "0123456789"))])] b1_1), (.ifs (.cmp .isin (.sl (.var 0) (.var 1) (.bin .add (.var 1) (.con (.int 2)))) (.con (.tuple [(.str "<<"), (.str ">>"), (.str "<="), (.str "=="), (.str "!=")]))) [(.ret (.sl (.var 0) (.var 1) (.bin .add (.var 1) (.con (.int 2)))))] []), (.ifs (.cmp .isin (.idx (.var 0) (.var 1)) (.con (.str "+-*(),=;{}<"))) [(.ret (.idx (.var 0) (.var 1)))] []), (.rse 2)]
abbrev s2 : Stmt := topS 12
abbrev N2 : List Str := ["text", "found", "at", "token"]
abbrev p2 : List Str := ["text"]
def b2_1 : List Stm := [(.ifs (.cmp .eq (.idx (.var 0) (.var 2)) (.con (.str " "))) [(.aug 2 .add (.con (.int 1)))] [(.asg (.nm 3) (.call 1 [(.var 0), (.var 2)])), (.app 1 (.var 3)), (.aug 2 .add (.blt .len [(.var 3)]))])]
def x2_2 : Exp := (.cmp .lt (.var 2) (.blt .len [(.var 0)]))
/-- tokens -/
def b2 : List Stm := [(.ifs (.cmp .gt (.blt .len [(.var 0)]) (.con (.int 1000))) [(.rse 2)] []), (.own 1 (.lst [])), (.asg (.nm 2) (.con (.int 0))), (.whl x2_2 b2_1), (.ret (.vw 1))]
abbrev s3 : Stmt := topS 14
abbrev N3 : List Str := ["_law_script", "_law_row_here", "_law_k", "_law_cell", "_law_turn", "_law_mixed"]
abbrev p3 : List Str := ["_law_script"]
def b3_1 : List Stm := [(.ifs (.cmp .gt (.var 3) (.con (.int 0))) [(.app 1 (.bin .mod (.blt .int [(.var 3)]) (.con (.int 1009)))), (.asg (.nm 3) (.bin .fdiv (.var 3) (.con (.int 1009))))] [])]
def b3_2 : List Stm := [(.asg (.nm 5) (.bin .mod (.blt .int [(.bin .add (.bin .add (.bin .mul (.var 5) (.con (.int 16807))) (.bin .mul (.con (.int 11)) (.var 4))) (.con (.int 1)))]) (.con (.int 2147483647)))), (.app 1 (.bin .mod (.blt .int [(.bin .fdiv (.var 5) (.con (.int 7)))]) (.con (.int 1009))))]
def b3_3 : List Stm := [(.asg (.nm 3) (.blt .abs [(.blt .int [(.idx (.var 0) (.var 2))])])), (.ifs (.cmp .ge (.var 3) (.bin .pow (.con (.int 10)) (.con (.int 18)))) [(.for (.nm 4) .rng [(.con (.int 40))] b3_1)] [(.asg (.nm 5) (.bin .mod (.blt .int [(.bin .add (.bin .add (.bin .mul (.var 3) (.con (.int 48271))) (.bin .mul (.var 2) (.con (.int 69621)))) (.con (.int 12345)))]) (.con (.int 2147483647)))), (.for (.nm 4) .rng [(.con (.int 6))] b3_2)])]
/-- row -/
def b3 : List Stm := [(.own 1 (.lst [])), (.for (.nm 2) .rng [(.blt .len [(.var 0)])] b3_3), (.ret (.vw 1))]
abbrev s4 : Stmt := topS 15
abbrev N4 : List Str := ["_law_row_here", "_law_at_here"]
abbrev p4 : List Str := ["_law_row_here", "_law_at_here"]
/-- at -/
def b4 : List Stm := [(.ifs (.chain .le .lt (.con (.int 0)) (.var 1) (.blt .len [(.var 0)])) [(.ret (.idx (.var 0) (.var 1)))] []), (.ret (.con (.int 0)))]
abbrev s5 : Stmt := topS 16
abbrev N5 : List Str := ["_law_number", "_law_marks", "_law_signs", "_law_token_here", "_law_k"]
abbrev p5 : List Str := ["_law_number"]
def b5_1 : List Stm := [(.asg (.nm 3) (.bin .add (.var 3) (.idx (.var 2) (.bin .mod (.blt .int [(.bin .add (.bin .add (.bin .mul (.var 0) (.con (.int 7))) (.bin .mul (.var 4) (.var 4))) (.bin .mul (.con (.int 3)) (.var 4)))]) (.blt .len [(.var 2)])))))]
/-- token -/
def b5 : List Stm := [(.asg (.nm 1) (.lst [(.con (.str "+")), (.con (.str "-")), (.con (.str "*")), (.con (.str "<<")), (.con (.str ">>")), (.con (.str "(")), (.con (.str ")")), (.con (.str ",")), (.con (.str "=")), (.con (.str ";")), (.con (.str "{")), (.con (.str "}")), (.con (.str "<")), (.con (.str "<=")), (.con (.str "==")), (.con (.str "!=")), (.con (.str "2^"))])), (.ifs (.cmp .eq (.bin .mod (.blt .int [(.var 0)]) (.con (.int 3))) (.con (.int 0))) [(.ret (.idx (.var 1) (.bin .mod (.bin .fdiv (.blt .int [(.var 0)]) (.con (.int 3))) (.con (.int 17)))))] []), (.asg (.nm 2) (.idx (.lst [(.con (.str "abcdefghijklmnopqrstuvwxyzABCXYZ")), (.con (.str "0123456789"))]) (.bin .mod (.blt .int [(.var 0)]) (.con (.int 2))))), (.asg (.nm 3) (.con (.str ""))), (.for (.nm 4) .rng [(.bin .add (.con (.int 1)) (.bin .mod (.bin .fdiv (.blt .int [(.var 0)]) (.con (.int 3))) (.idx (.lst [(.con (.int 5)), (.con (.int 20))]) (.bin .mod (.blt .int [(.var 0)]) (.con (.int 2))))))] b5_1), (.ret (.var 3))]
abbrev s6 : Stmt := topS 17
abbrev N6 : List Str := ["_law_first", "_law_second", "_law_letters"]
abbrev p6 : List Str := ["_law_first", "_law_second"]
/-- meet -/
def b6 : List Stm := [(.asg (.nm 2) (.con (.str "abcdefghijklmnopqrstuvwxyzABCDEFGHIJKLMNOPQRSTUVWXYZ"))), (.ifs (.and (.cmp .isin (.idx (.var 0) (.neg (.con (.int 1)))) (.var 2)) (.cmp .isin (.idx (.var 1) (.con (.int 0))) (.var 2))) [(.ret (.con (.bool true)))] []), (.ifs (.and (.cmp .isin (.idx (.var 0) (.neg (.con (.int 1)))) (.con (.str "0123456789"))) (.cmp .isin (.idx (.var 1) (.con (.int 0))) (.con (.str "0123456789")))) [(.ret (.con (.bool true)))] []), (.ifs (.and (.cmp .isin (.idx (.var 0) (.neg (.con (.int 1)))) (.con (.str "<>=!"))) (.cmp .isin (.idx (.var 1) (.con (.int 0))) (.con (.str "<>=")))) [(.ret (.con (.bool true)))] []), (.ret (.and (.cmp .eq (.var 0) (.con (.str "2"))) (.cmp .eq (.idx (.var 1) (.con (.int 0))) (.con (.str "^")))))]
abbrev s7 : Stmt := topS 18
abbrev N7 : List Str := ["_law_text", "why"]
abbrev p7 : List Str := ["_law_text"]
/-- refused -/
def b7 : List Stm := [(.tri 1 [(.expr (.call 2 [(.var 0)]))] [] [(2, .bool true)]), (.ret (.con (.bool false)))]
abbrev s8 : Stmt := topS 19
abbrev N8 : List Str := ["_law_script", "_law_row_here", "_law_due", "_law_text", "_law_k", "_law_gap", "_law_bad", "_law_cut"]
abbrev p8 : List Str := ["_law_script"]
def x8_1 : Exp := (.call 5 [(.call 4 [(.var 1), (.bin .add (.bin .mul (.con (.int 2)) (.var 4)) (.con (.int 1)))])])
def b8_2 : List Stm := [(.asg (.nm 5) (.bin .mod (.blt .int [(.call 4 [(.var 1), (.bin .add (.bin .mul (.con (.int 2)) (.var 4)) (.con (.int 2)))])]) (.con (.int 3)))), (.ifs (.and (.cmp .gt (.var 4) (.con (.int 0))) (.call 6 [(.idx (.var 2) (.bin .sub (.var 4) (.con (.int 1)))), (.idx (.var 2) (.var 4))])) [(.asg (.nm 5) (.bin .add (.con (.int 1)) (.bin .mod (.var 5) (.con (.int 2)))))] []), (.asg (.nm 3) (.bin .add (.bin .add (.var 3) (.bin .rep (.con (.str " ")) (.var 5))) (.idx (.var 2) (.var 4))))]
/-- law -/
def b8 : List Stm := [(.asg (.nm 1) (.call 3 [(.var 0)])), (.asg (.nm 2) (.comp x8_1 (.nm 4) .rng [(.bin .mod (.blt .int [(.call 4 [(.var 1), (.con (.int 0))])]) (.con (.int 31)))] [])), (.asg (.nm 3) (.bin .rep (.con (.str " ")) (.bin .mod (.blt .int [(.call 4 [(.var 1), (.con (.int 70))])]) (.con (.int 3))))), (.for (.nm 4) .rng [(.blt .len [(.var 2)])] b8_2), (.asg (.nm 3) (.bin .add (.var 3) (.bin .rep (.con (.str " ")) (.bin .mod (.blt .int [(.call 4 [(.var 1), (.con (.int 71))])]) (.con (.int 3)))))), (.ifs (.and (.cmp .le (.blt .len [(.var 3)]) (.con (.int 1000))) (.cmp .ne (.call 2 [(.var 3)]) (.var 2))) [(.ret (.con (.bool false)))] []), (.asg (.nm 6) (.idx (.lst [(.con (.str "!")), (.con (.str "^")), (.con (.str ">")), (.con (.str "#")), (.con (.str ".")), (.con (.str "_")), (.con (.str "2 ^")), (.con (.str "/")), (.con (.str "&")), (.con (.str "?"))]) (.bin .mod (.blt .int [(.call 4 [(.var 1), (.con (.int 72))])]) (.con (.int 10))))), (.asg (.nm 7) (.bin .mod (.blt .int [(.call 4 [(.var 1), (.con (.int 73))])]) (.bin .add (.blt .len [(.var 3)]) (.con (.int 1))))), (.ifs (.and (.cmp .le (.blt .len [(.var 3)]) (.con (.int 990))) (.not (.call 7 [(.bin .add (.bin .add (.bin .add (.bin .add (.sl (.var 3) .nop (.var 7)) (.con (.str " "))) (.var 6)) (.con (.str " "))) (.sl (.var 3) (.var 7) .nop))]))) [(.ret (.con (.bool false)))] []), (.ifs (.or (.cmp .ne (.call 2 [(.bin .rep (.con (.str " ")) (.con (.int 1000)))]) (.lst [])) (.or (.not (.call 7 [(.bin .rep (.con (.str " ")) (.con (.int 1001)))])) (.cmp .ne (.call 2 [(.bin .rep (.con (.str "1")) (.con (.int 1000)))]) (.lst [(.bin .rep (.con (.str "1")) (.con (.int 1000)))])))) [(.ret (.con (.bool false)))] []), (.ret (.cmp .eq (.con (.int 1000)) (.con (.int 1000))))]
def TB : List Fdef := [⟨3, 4, b0⟩, ⟨2, 5, b1⟩, ⟨1, 4, b2⟩, ⟨1, 6, b3⟩, ⟨2, 2, b4⟩, ⟨1, 5, b5⟩, ⟨2, 3, b6⟩, ⟨1, 2, b7⟩, ⟨1, 8, b8⟩]
end My

set_option maxRecDepth 100000
set_option maxHeartbeats 2000000
namespace My
open PySem PySem.Spec PyProof.Rows L2 Rf
theorem n0_1 : N0[1]? = some ("at" : Str) := by decide +kernel
theorem l0_1 : (defScope s0).names.lookup ("at" : Str) = some .local := by decide +kernel
theorem n0_3 : N0[3]? = some ("end" : Str) := by decide +kernel
theorem l0_3 : (defScope s0).names.lookup ("end" : Str) = some .local := by decide +kernel
theorem n0_0 : N0[0]? = some ("text" : Str) := by decide +kernel
theorem l0_0 : (defScope s0).names.lookup ("text" : Str) = some .local := by decide +kernel
theorem g0_len : (defScope s0).names.lookup ("len" : Str) = some .globalImplicit := by decide +kernel
theorem n0_2 : N0[2]? = some ("signs" : Str) := by decide +kernel
theorem l0_2 : (defScope s0).names.lookup ("signs" : Str) = some .local := by decide +kernel
theorem sc0 : FnScope N0 p0 (defScope s0) := ⟨rfl, rfl, rfl, by decide +kernel, rfl, by decide +kernel, by decide +kernel⟩
theorem g1_LETTERS : (defScope s1).names.lookup ("LETTERS" : Str) = some .globalImplicit := by decide +kernel
theorem g1_DIGITS : (defScope s1).names.lookup ("DIGITS" : Str) = some .globalImplicit := by decide +kernel
theorem n1_2 : N1[2]? = some ("signs" : Str) := by decide +kernel
theorem l1_2 : (defScope s1).names.lookup ("signs" : Str) = some .local := by decide +kernel
theorem n1_0 : N1[0]? = some ("text" : Str) := by decide +kernel
theorem l1_0 : (defScope s1).names.lookup ("text" : Str) = some .local := by decide +kernel
theorem n1_1 : N1[1]? = some ("at" : Str) := by decide +kernel
theorem l1_1 : (defScope s1).names.lookup ("at" : Str) = some .local := by decide +kernel
theorem g1_run_length : (defScope s1).names.lookup ("run_length" : Str) = some .globalImplicit := by decide +kernel
theorem n1_3 : N1[3]? = some ("size" : Str) := by decide +kernel
theorem l1_3 : (defScope s1).names.lookup ("size" : Str) = some .local := by decide +kernel
theorem n1_4 : N1[4]? = some ("token" : Str) := by decide +kernel
theorem l1_4 : (defScope s1).names.lookup ("token" : Str) = some .local := by decide +kernel
theorem g1_LONG_MARKS : (defScope s1).names.lookup ("LONG_MARKS" : Str) = some .globalImplicit := by decide +kernel
theorem g1_MARKS : (defScope s1).names.lookup ("MARKS" : Str) = some .globalImplicit := by decide +kernel
theorem g1_BadForm : (defScope s1).names.lookup ("BadForm" : Str) = some .globalImplicit := by decide +kernel
theorem sc1 : FnScope N1 p1 (defScope s1) := ⟨rfl, rfl, rfl, by decide +kernel, rfl, by decide +kernel, by decide +kernel⟩
theorem n2_0 : N2[0]? = some ("text" : Str) := by decide +kernel
theorem l2_0 : (defScope s2).names.lookup ("text" : Str) = some .local := by decide +kernel
theorem g2_len : (defScope s2).names.lookup ("len" : Str) = some .globalImplicit := by decide +kernel
theorem g2_MAX_TEXT : (defScope s2).names.lookup ("MAX_TEXT" : Str) = some .globalImplicit := by decide +kernel
theorem g2_BadForm : (defScope s2).names.lookup ("BadForm" : Str) = some .globalImplicit := by decide +kernel
theorem n2_1 : N2[1]? = some ("found" : Str) := by decide +kernel
theorem l2_1 : (defScope s2).names.lookup ("found" : Str) = some .local := by decide +kernel
theorem n2_2 : N2[2]? = some ("at" : Str) := by decide +kernel
theorem l2_2 : (defScope s2).names.lookup ("at" : Str) = some .local := by decide +kernel
theorem g2_token_at : (defScope s2).names.lookup ("token_at" : Str) = some .globalImplicit := by decide +kernel
theorem n2_3 : N2[3]? = some ("token" : Str) := by decide +kernel
theorem l2_3 : (defScope s2).names.lookup ("token" : Str) = some .local := by decide +kernel
theorem sc2 : FnScope N2 p2 (defScope s2) := ⟨rfl, rfl, rfl, by decide +kernel, rfl, by decide +kernel, by decide +kernel⟩
theorem n3_1 : N3[1]? = some ("_law_row_here" : Str) := by decide +kernel
theorem l3_1 : (defScope s3).names.lookup ("_law_row_here" : Str) = some .local := by decide +kernel
theorem n3_0 : N3[0]? = some ("_law_script" : Str) := by decide +kernel
theorem l3_0 : (defScope s3).names.lookup ("_law_script" : Str) = some .local := by decide +kernel
theorem g3_len : (defScope s3).names.lookup ("len" : Str) = some .globalImplicit := by decide +kernel
theorem g3_range : (defScope s3).names.lookup ("range" : Str) = some .globalImplicit := by decide +kernel
theorem n3_2 : N3[2]? = some ("_law_k" : Str) := by decide +kernel
theorem l3_2 : (defScope s3).names.lookup ("_law_k" : Str) = some .local := by decide +kernel
theorem g3_int : (defScope s3).names.lookup ("int" : Str) = some .globalImplicit := by decide +kernel
theorem g3_abs : (defScope s3).names.lookup ("abs" : Str) = some .globalImplicit := by decide +kernel
theorem n3_3 : N3[3]? = some ("_law_cell" : Str) := by decide +kernel
theorem l3_3 : (defScope s3).names.lookup ("_law_cell" : Str) = some .local := by decide +kernel
theorem n3_4 : N3[4]? = some ("_law_turn" : Str) := by decide +kernel
theorem l3_4 : (defScope s3).names.lookup ("_law_turn" : Str) = some .local := by decide +kernel
theorem n3_5 : N3[5]? = some ("_law_mixed" : Str) := by decide +kernel
theorem l3_5 : (defScope s3).names.lookup ("_law_mixed" : Str) = some .local := by decide +kernel
theorem sc3 : FnScope N3 p3 (defScope s3) := ⟨rfl, rfl, rfl, by decide +kernel, rfl, by decide +kernel, by decide +kernel⟩
theorem n4_1 : N4[1]? = some ("_law_at_here" : Str) := by decide +kernel
theorem l4_1 : (defScope s4).names.lookup ("_law_at_here" : Str) = some .local := by decide +kernel
theorem n4_0 : N4[0]? = some ("_law_row_here" : Str) := by decide +kernel
theorem l4_0 : (defScope s4).names.lookup ("_law_row_here" : Str) = some .local := by decide +kernel
theorem g4_len : (defScope s4).names.lookup ("len" : Str) = some .globalImplicit := by decide +kernel
theorem sc4 : FnScope N4 p4 (defScope s4) := ⟨rfl, rfl, rfl, by decide +kernel, rfl, by decide +kernel, by decide +kernel⟩
theorem n5_1 : N5[1]? = some ("_law_marks" : Str) := by decide +kernel
theorem l5_1 : (defScope s5).names.lookup ("_law_marks" : Str) = some .local := by decide +kernel
theorem n5_0 : N5[0]? = some ("_law_number" : Str) := by decide +kernel
theorem l5_0 : (defScope s5).names.lookup ("_law_number" : Str) = some .local := by decide +kernel
theorem g5_int : (defScope s5).names.lookup ("int" : Str) = some .globalImplicit := by decide +kernel
theorem n5_2 : N5[2]? = some ("_law_signs" : Str) := by decide +kernel
theorem l5_2 : (defScope s5).names.lookup ("_law_signs" : Str) = some .local := by decide +kernel
theorem n5_3 : N5[3]? = some ("_law_token_here" : Str) := by decide +kernel
theorem l5_3 : (defScope s5).names.lookup ("_law_token_here" : Str) = some .local := by decide +kernel
theorem g5_range : (defScope s5).names.lookup ("range" : Str) = some .globalImplicit := by decide +kernel
theorem n5_4 : N5[4]? = some ("_law_k" : Str) := by decide +kernel
theorem l5_4 : (defScope s5).names.lookup ("_law_k" : Str) = some .local := by decide +kernel
theorem g5_len : (defScope s5).names.lookup ("len" : Str) = some .globalImplicit := by decide +kernel
theorem sc5 : FnScope N5 p5 (defScope s5) := ⟨rfl, rfl, rfl, by decide +kernel, rfl, by decide +kernel, by decide +kernel⟩
theorem n6_2 : N6[2]? = some ("_law_letters" : Str) := by decide +kernel
theorem l6_2 : (defScope s6).names.lookup ("_law_letters" : Str) = some .local := by decide +kernel
theorem n6_0 : N6[0]? = some ("_law_first" : Str) := by decide +kernel
theorem l6_0 : (defScope s6).names.lookup ("_law_first" : Str) = some .local := by decide +kernel
theorem n6_1 : N6[1]? = some ("_law_second" : Str) := by decide +kernel
theorem l6_1 : (defScope s6).names.lookup ("_law_second" : Str) = some .local := by decide +kernel
theorem sc6 : FnScope N6 p6 (defScope s6) := ⟨rfl, rfl, rfl, by decide +kernel, rfl, by decide +kernel, by decide +kernel⟩
theorem n7_0 : N7[0]? = some ("_law_text" : Str) := by decide +kernel
theorem l7_0 : (defScope s7).names.lookup ("_law_text" : Str) = some .local := by decide +kernel
theorem g7_tokens : (defScope s7).names.lookup ("tokens" : Str) = some .globalImplicit := by decide +kernel
theorem n7_1 : N7[1]? = some ("why" : Str) := by decide +kernel
theorem l7_1 : (defScope s7).names.lookup ("why" : Str) = some .local := by decide +kernel
theorem g7_isinstance : (defScope s7).names.lookup ("isinstance" : Str) = some .globalImplicit := by decide +kernel
theorem g7_ReckonError : (defScope s7).names.lookup ("ReckonError" : Str) = some .globalImplicit := by decide +kernel
theorem g7_NotAllowed : (defScope s7).names.lookup ("NotAllowed" : Str) = some .globalImplicit := by decide +kernel
theorem g7_BadForm : (defScope s7).names.lookup ("BadForm" : Str) = some .globalImplicit := by decide +kernel
theorem sc7 : FnScope N7 p7 (defScope s7) := ⟨rfl, rfl, rfl, by decide +kernel, rfl, by decide +kernel, by decide +kernel⟩
theorem n8_0 : N8[0]? = some ("_law_script" : Str) := by decide +kernel
theorem l8_0 : (defScope s8).names.lookup ("_law_script" : Str) = some .local := by decide +kernel
theorem g8__law_row : (defScope s8).names.lookup ("_law_row" : Str) = some .globalImplicit := by decide +kernel
theorem n8_1 : N8[1]? = some ("_law_row_here" : Str) := by decide +kernel
theorem l8_1 : (defScope s8).names.lookup ("_law_row_here" : Str) = some .cell := by decide +kernel
theorem g8__law_at : (defScope s8).names.lookup ("_law_at" : Str) = some .globalImplicit := by decide +kernel
theorem g8_int : (defScope s8).names.lookup ("int" : Str) = some .globalImplicit := by decide +kernel
theorem g8_range : (defScope s8).names.lookup ("range" : Str) = some .globalImplicit := by decide +kernel
theorem n8_4 : N8[4]? = some ("_law_k" : Str) := by decide +kernel
theorem n8_2 : N8[2]? = some ("_law_due" : Str) := by decide +kernel
theorem l8_2 : (defScope s8).names.lookup ("_law_due" : Str) = some .local := by decide +kernel
theorem n8_3 : N8[3]? = some ("_law_text" : Str) := by decide +kernel
theorem l8_3 : (defScope s8).names.lookup ("_law_text" : Str) = some .local := by decide +kernel
theorem g8_len : (defScope s8).names.lookup ("len" : Str) = some .globalImplicit := by decide +kernel
theorem l8_4 : (defScope s8).names.lookup ("_law_k" : Str) = some .local := by decide +kernel
theorem n8_5 : N8[5]? = some ("_law_gap" : Str) := by decide +kernel
theorem l8_5 : (defScope s8).names.lookup ("_law_gap" : Str) = some .local := by decide +kernel
theorem g8__law_meet : (defScope s8).names.lookup ("_law_meet" : Str) = some .globalImplicit := by decide +kernel
theorem g8_tokens : (defScope s8).names.lookup ("tokens" : Str) = some .globalImplicit := by decide +kernel
theorem n8_6 : N8[6]? = some ("_law_bad" : Str) := by decide +kernel
theorem l8_6 : (defScope s8).names.lookup ("_law_bad" : Str) = some .local := by decide +kernel
theorem n8_7 : N8[7]? = some ("_law_cut" : Str) := by decide +kernel
theorem l8_7 : (defScope s8).names.lookup ("_law_cut" : Str) = some .local := by decide +kernel
theorem g8__law_refused : (defScope s8).names.lookup ("_law_refused" : Str) = some .globalImplicit := by decide +kernel
theorem g8_MAX_TEXT : (defScope s8).names.lookup ("MAX_TEXT" : Str) = some .globalImplicit := by decide +kernel
theorem sc8 : FnScope N8 p8 (defScope s8) := ⟨rfl, rfl, rfl, by decide +kernel, rfl, by decide +kernel, by decide +kernel⟩
section
variable {pr : Program} {w : World} {K : PySem.W.Frag} {mg : Str → Option Value} {base : Heap} {ca : Nat → Addr} {F n : Nat}
theorem w0 (z_len : mg "len" = none) : Walk pr w K mg base ca N0 "run_length" s0 n (execs (phi TB F n) F b0) := fun A sA HA a fA cdv outer xe h0 av avok W hr C =>
    (sss_cons (ss_set C n0_3 (Or.inl l0_3) (se_var C n0_1 (Or.inl l0_1)))
      (sss_cons (ss_while C (PW.pt (st_and (st_cmp C .lt (se_var C n0_3 (Or.inl l0_3)) (se_flat rfl (se_bltB C (cl_len C.calm) g0_len z_len (by decide +kernel) (ses_cons (se_var C n0_0 (Or.inl l0_0)) ses_nil))) (by first | rfl | with_unfolding_all rfl)) (st_and1 (st_cmp C .isin (se_idx C (se_var C n0_0 (Or.inl l0_0)) (se_var C n0_3 (Or.inl l0_3)) (fun _ _ => rfl)) (se_var C n0_2 (Or.inl l0_2)) (by first | rfl | with_unfolding_all rfl))))) (sss_cons (ss_aug C .add nofun n0_3 (Or.inl l0_3) se_int)
      sss_nil))
      (sss_cons (ss_ret (Rf.PE.new (se_bin C .sub (se_var C n0_3 (Or.inl l0_3)) (se_var C n0_1 (Or.inl l0_1)))))
      sss_nil)))
theorem w1 {k_DIGITS : Tok} (c_DIGITS : mg "DIGITS" = some (.str "0123456789" k_DIGITS)) {k_LETTERS : Tok} (c_LETTERS : mg "LETTERS" = some (.str "abcdefghijklmnopqrstuvwxyzABCDEFGHIJKLMNOPQRSTUVWXYZ" k_LETTERS)) {a_LONG_MARKS : Addr} (c_LONG_MARKS : mg "LONG_MARKS" = some (.ref a_LONG_MARKS)) {k_MARKS : Tok} (c_MARKS : mg "MARKS" = some (.str "+-*(),=;{}<" k_MARKS)) (d_LONG_MARKS : ∀ (av : Addr → Prop) (H : Hp), Den K av H (.ref a_LONG_MARKS) (.tuple [(.str "<<"), (.str ">>"), (.str "<="), (.str "=="), (.str "!=")])) (hf_run_length : Good pr w K mg base ca TB F "run_length" 0 n) (x_BadForm : XFull K mg "BadForm" (ca 2)) : Walk pr w K mg base ca N1 "token_at" s1 n (execs (phi TB F n) F b1) := fun A sA HA a fA cdv outer xe h0 av avok W hr C =>
    (sss_cons (ss_for C (si_tup C (se_tup (by decide) (ses_cons (se_globS g1_LETTERS c_LETTERS) (ses_cons (se_globS g1_DIGITS c_DIGITS) ses_nil)))) (sg_nm C.hN C.nd n1_2 (Or.inl l1_2) (by first | exact .inl rfl | exact .inr rfl)) (fun _ _ C => (sss_cons (ss_set C n1_3 (Or.inl l1_3) (se_call C (hf_run_length.fn hr) g1_run_length (ses_cons (se_var C n1_0 (Or.inl l1_0)) (ses_cons (se_var C n1_1 (Or.inl l1_1)) (ses_cons (se_var C n1_2 (Or.inl l1_2)) ses_nil)))))
      (sss_cons (ss_if (st_cmp C .gt (se_var C n1_3 (Or.inl l1_3)) se_int (by first | rfl | with_unfolding_all rfl)) (sss_cons (ss_set C n1_4 (Or.inl l1_4) (Rf.PE.new (se_sl C (se_var C n1_0 (Or.inl l1_0)) (so_some (se_var C n1_1 (Or.inl l1_1))) (so_some (Rf.PE.new (se_bin C .add (se_var C n1_1 (Or.inl l1_1)) (se_var C n1_3 (Or.inl l1_3))))))))
      (sss_cons (ss_if (PW.pt (st_and (st_cmp C .eq (se_var C n1_4 (Or.inl l1_4)) se_str (by first | rfl | with_unfolding_all rfl)) (st_and1 (st_cmp C .eq (Rf.PE.new (se_sl C (se_var C n1_0 (Or.inl l1_0)) (so_some (Rf.PE.new (se_bin C .add (se_var C n1_1 (Or.inl l1_1)) se_int))) (so_some (Rf.PE.new (se_bin C .add (se_var C n1_1 (Or.inl l1_1)) se_int))))) se_str (by first | rfl | with_unfolding_all rfl))))) (sss_cons (ss_ret se_str)
      sss_nil) sss_nil)
      (sss_cons (ss_ret (se_var C n1_4 (Or.inl l1_4)))
      sss_nil))) sss_nil)
      sss_nil))))
      (sss_cons (ss_if (st_cmp C .isin (Rf.PE.new (se_sl C (se_var C n1_0 (Or.inl l1_0)) (so_some (se_var C n1_1 (Or.inl l1_1))) (so_some (Rf.PE.new (se_bin C .add (se_var C n1_1 (Or.inl l1_1)) se_int))))) (se_globK g1_LONG_MARKS c_LONG_MARKS d_LONG_MARKS) (by first | rfl | with_unfolding_all rfl)) (sss_cons (ss_ret (Rf.PE.new (se_sl C (se_var C n1_0 (Or.inl l1_0)) (so_some (se_var C n1_1 (Or.inl l1_1))) (so_some (Rf.PE.new (se_bin C .add (se_var C n1_1 (Or.inl l1_1)) se_int))))))
      sss_nil) sss_nil)
      (sss_cons (ss_if (st_cmp C .isin (se_idx C (se_var C n1_0 (Or.inl l1_0)) (se_var C n1_1 (Or.inl l1_1)) (fun _ _ => rfl)) (se_globS g1_MARKS c_MARKS) (by first | rfl | with_unfolding_all rfl)) (sss_cons (ss_ret (se_idx C (se_var C n1_0 (Or.inl l1_0)) (se_var C n1_1 (Or.inl l1_1)) (fun _ _ => rfl)))
      sss_nil) sss_nil)
      (sss_cons (ss_raise C (pm_own x_BadForm.toXCls g1_BadForm))
      sss_nil))))
theorem w2 {k_MAX_TEXT : Tok} (c_MAX_TEXT : mg "MAX_TEXT" = some (.int 1000 k_MAX_TEXT)) (hf_token_at : Good pr w K mg base ca TB F "token_at" 1 n) (x_BadForm : XFull K mg "BadForm" (ca 2)) (z_len : mg "len" = none) : Walk pr w K mg base ca N2 "tokens" s2 n (execs (phi TB F n) F b2) := fun A sA HA a fA cdv outer xe h0 av avok W hr C =>
    (sss_cons (ss_if (st_cmp C .gt (se_flat rfl (se_bltB C (cl_len C.calm) g2_len z_len (by decide +kernel) (ses_cons (se_var C n2_0 (Or.inl l2_0)) ses_nil))) (se_globI g2_MAX_TEXT c_MAX_TEXT) (by first | rfl | with_unfolding_all rfl)) (sss_cons (ss_raise C (pm_own x_BadForm.toXCls g2_BadForm))
      sss_nil) sss_nil)
      (sss_cons (ss_own C n2_1 (Or.inl l2_1) (se_lst (by decide) ses_nil))
      (sss_cons (ss_set C n2_2 (Or.inl l2_2) se_int)
      (sss_cons (ss_while C (st_cmp C .lt (se_var C n2_2 (Or.inl l2_2)) (se_flat rfl (se_bltB C (cl_len C.calm) g2_len z_len (by decide +kernel) (ses_cons (se_var C n2_0 (Or.inl l2_0)) ses_nil))) (by first | rfl | with_unfolding_all rfl)) (sss_cons (ss_if (st_cmp C .eq (se_idx C (se_var C n2_0 (Or.inl l2_0)) (se_var C n2_2 (Or.inl l2_2)) (fun _ _ => rfl)) se_str (by first | rfl | with_unfolding_all rfl)) (sss_cons (ss_aug C .add nofun n2_2 (Or.inl l2_2) se_int)
      sss_nil) (sss_cons (ss_set C n2_3 (Or.inl l2_3) (se_call C (hf_token_at.fn hr) g2_token_at (ses_cons (se_var C n2_0 (Or.inl l2_0)) (ses_cons (se_var C n2_2 (Or.inl l2_2)) ses_nil))))
      (sss_cons (ss_app C n2_1 (Or.inl l2_1) (se_var C n2_3 (Or.inl l2_3)))
      (sss_cons (ss_aug C .add nofun n2_2 (Or.inl l2_2) (se_flat rfl (se_bltB C (cl_len C.calm) g2_len z_len (by decide +kernel) (ses_cons (se_var C n2_3 (Or.inl l2_3)) ses_nil))))
      sss_nil))))
      sss_nil))
      (sss_cons (ss_ret (se_vw C n2_1 (Or.inl l2_1) (by decide)))
      sss_nil)))))
theorem w3 (z_abs : mg "abs" = none) (z_int : mg "int" = none) (z_len : mg "len" = none) (z_range : mg "range" = none) : Walk pr w K mg base ca N3 "_law_row" s3 n (execs (phi TB F n) F b3) := fun A sA HA a fA cdv outer xe h0 av avok W hr C =>
    (sss_cons (ss_own C n3_1 (Or.inl l3_1) (se_lst (by decide) ses_nil))
      (sss_cons (ss_for C (si_rng1 g3_range z_range (ses_cons (se_flat rfl (se_bltB C (cl_len C.calm) g3_len z_len (by decide +kernel) (ses_cons (se_var C n3_0 (Or.inl l3_0)) ses_nil))) ses_nil)) (sg_nm C.hN C.nd n3_2 (Or.inl l3_2) (by first | exact .inl rfl | exact .inr rfl)) (fun _ _ C => (sss_cons (ss_set C n3_3 (Or.inl l3_3) (se_flat rfl (se_bltB C (cl_abs) g3_abs z_abs (by decide +kernel) (ses_cons (se_flat rfl (se_bltT C (cl_int) g3_int z_int (by decide +kernel) (ses_cons (se_idx C (se_var C n3_0 (Or.inl l3_0)) (se_var C n3_2 (Or.inl l3_2)) (fun _ _ => rfl)) ses_nil))) ses_nil))))
      (sss_cons (ss_if (st_cmp C .ge (se_var C n3_3 (Or.inl l3_3)) (Rf.PE.new (se_bin C .pow se_int se_int)) (by first | rfl | with_unfolding_all rfl)) (sss_cons (ss_for C (si_rng1 g3_range z_range (ses_cons se_int ses_nil)) (sg_nm C.hN C.nd n3_4 (Or.inl l3_4) (by first | exact .inl rfl | exact .inr rfl)) (fun _ _ C => (sss_cons (ss_if (st_cmp C .gt (se_var C n3_3 (Or.inl l3_3)) se_int (by first | rfl | with_unfolding_all rfl)) (sss_cons (ss_app C n3_1 (Or.inl l3_1) (Rf.PE.new (se_bin C .mod (se_flat rfl (se_bltT C (cl_int) g3_int z_int (by decide +kernel) (ses_cons (se_var C n3_3 (Or.inl l3_3)) ses_nil))) se_int)))
      (sss_cons (ss_set C n3_3 (Or.inl l3_3) (Rf.PE.new (se_bin C .fdiv (se_var C n3_3 (Or.inl l3_3)) se_int)))
      sss_nil)) sss_nil)
      sss_nil)))
      sss_nil) (sss_cons (ss_set C n3_5 (Or.inl l3_5) (Rf.PE.new (se_bin C .mod (se_flat rfl (se_bltT C (cl_int) g3_int z_int (by decide +kernel) (ses_cons (Rf.PE.new (se_bin C .add (Rf.PE.new (se_bin C .add (Rf.PE.new (se_bin C .mul (se_var C n3_3 (Or.inl l3_3)) se_int)) (Rf.PE.new (se_bin C .mul (se_var C n3_2 (Or.inl l3_2)) se_int)))) se_int)) ses_nil))) se_int)))
      (sss_cons (ss_for C (si_rng1 g3_range z_range (ses_cons se_int ses_nil)) (sg_nm C.hN C.nd n3_4 (Or.inl l3_4) (by first | exact .inl rfl | exact .inr rfl)) (fun _ _ C => (sss_cons (ss_set C n3_5 (Or.inl l3_5) (Rf.PE.new (se_bin C .mod (se_flat rfl (se_bltT C (cl_int) g3_int z_int (by decide +kernel) (ses_cons (Rf.PE.new (se_bin C .add (Rf.PE.new (se_bin C .add (Rf.PE.new (se_bin C .mul (se_var C n3_5 (Or.inl l3_5)) se_int)) (Rf.PE.new (se_bin C .mul se_int (se_var C n3_4 (Or.inl l3_4)))))) se_int)) ses_nil))) se_int)))
      (sss_cons (ss_app C n3_1 (Or.inl l3_1) (Rf.PE.new (se_bin C .mod (se_flat rfl (se_bltT C (cl_int) g3_int z_int (by decide +kernel) (ses_cons (Rf.PE.new (se_bin C .fdiv (se_var C n3_5 (Or.inl l3_5)) se_int)) ses_nil))) se_int)))
      sss_nil))))
      sss_nil)))
      sss_nil))))
      (sss_cons (ss_ret (se_vw C n3_1 (Or.inl l3_1) (by decide)))
      sss_nil)))
theorem w4 (z_len : mg "len" = none) : Walk pr w K mg base ca N4 "_law_at" s4 n (execs (phi TB F n) F b4) := fun A sA HA a fA cdv outer xe h0 av avok W hr C =>
    (sss_cons (ss_if (st_chain C .le .lt se_int (se_var C n4_1 (Or.inl l4_1)) (se_flat rfl (se_bltB C (cl_len C.calm) g4_len z_len (by decide +kernel) (ses_cons (se_var C n4_0 (Or.inl l4_0)) ses_nil))) (by with_unfolding_all rfl)) (sss_cons (ss_ret (se_idx C (se_var C n4_0 (Or.inl l4_0)) (se_var C n4_1 (Or.inl l4_1)) (fun _ _ => rfl)))
      sss_nil) sss_nil)
      (sss_cons (ss_ret se_int)
      sss_nil))
theorem w5 (z_int : mg "int" = none) (z_len : mg "len" = none) (z_range : mg "range" = none) : Walk pr w K mg base ca N5 "_law_token" s5 n (execs (phi TB F n) F b5) := fun A sA HA a fA cdv outer xe h0 av avok W hr C =>
    (sss_cons (ss_set C n5_1 (Or.inl l5_1) (Rf.PE.new (se_lst (by decide) (ses_cons se_str (ses_cons se_str (ses_cons se_str (ses_cons se_str (ses_cons se_str (ses_cons se_str (ses_cons se_str (ses_cons se_str (ses_cons se_str (ses_cons se_str (ses_cons se_str (ses_cons se_str (ses_cons se_str (ses_cons se_str (ses_cons se_str (ses_cons se_str (ses_cons se_str ses_nil))))))))))))))))))))
      (sss_cons (ss_if (st_cmp C .eq (Rf.PE.new (se_bin C .mod (se_flat rfl (se_bltT C (cl_int) g5_int z_int (by decide +kernel) (ses_cons (se_var C n5_0 (Or.inl l5_0)) ses_nil))) se_int)) se_int (by first | rfl | with_unfolding_all rfl)) (sss_cons (ss_ret (se_idx C (se_var C n5_1 (Or.inl l5_1)) (Rf.PE.new (se_bin C .mod (Rf.PE.new (se_bin C .fdiv (se_flat rfl (se_bltT C (cl_int) g5_int z_int (by decide +kernel) (ses_cons (se_var C n5_0 (Or.inl l5_0)) ses_nil))) se_int)) se_int)) (fun _ _ => rfl)))
      sss_nil) sss_nil)
      (sss_cons (ss_set C n5_2 (Or.inl l5_2) (se_idx C (Rf.PE.new (se_lst (by decide) (ses_cons se_str (ses_cons se_str ses_nil)))) (Rf.PE.new (se_bin C .mod (se_flat rfl (se_bltT C (cl_int) g5_int z_int (by decide +kernel) (ses_cons (se_var C n5_0 (Or.inl l5_0)) ses_nil))) se_int)) (fun _ _ => rfl)))
      (sss_cons (ss_set C n5_3 (Or.inl l5_3) se_str)
      (sss_cons (ss_for C (si_rng1 g5_range z_range (ses_cons (Rf.PE.new (se_bin C .add se_int (Rf.PE.new (se_bin C .mod (Rf.PE.new (se_bin C .fdiv (se_flat rfl (se_bltT C (cl_int) g5_int z_int (by decide +kernel) (ses_cons (se_var C n5_0 (Or.inl l5_0)) ses_nil))) se_int)) (se_idx C (Rf.PE.new (se_lst (by decide) (ses_cons se_int (ses_cons se_int ses_nil)))) (Rf.PE.new (se_bin C .mod (se_flat rfl (se_bltT C (cl_int) g5_int z_int (by decide +kernel) (ses_cons (se_var C n5_0 (Or.inl l5_0)) ses_nil))) se_int)) (fun _ _ => rfl)))))) ses_nil)) (sg_nm C.hN C.nd n5_4 (Or.inl l5_4) (by first | exact .inl rfl | exact .inr rfl)) (fun _ _ C => (sss_cons (ss_set C n5_3 (Or.inl l5_3) (Rf.PE.new (se_bin C .add (se_var C n5_3 (Or.inl l5_3)) (se_idx C (se_var C n5_2 (Or.inl l5_2)) (Rf.PE.new (se_bin C .mod (se_flat rfl (se_bltT C (cl_int) g5_int z_int (by decide +kernel) (ses_cons (Rf.PE.new (se_bin C .add (Rf.PE.new (se_bin C .add (Rf.PE.new (se_bin C .mul (se_var C n5_0 (Or.inl l5_0)) se_int)) (Rf.PE.new (se_bin C .mul (se_var C n5_4 (Or.inl l5_4)) (se_var C n5_4 (Or.inl l5_4)))))) (Rf.PE.new (se_bin C .mul se_int (se_var C n5_4 (Or.inl l5_4)))))) ses_nil))) (se_flat rfl (se_bltB C (cl_len C.calm) g5_len z_len (by decide +kernel) (ses_cons (se_var C n5_2 (Or.inl l5_2)) ses_nil))))) (fun _ _ => rfl)))))
      sss_nil)))
      (sss_cons (ss_ret (se_var C n5_3 (Or.inl l5_3)))
      sss_nil))))))
theorem w6  : Walk pr w K mg base ca N6 "_law_meet" s6 n (execs (phi TB F n) F b6) := fun A sA HA a fA cdv outer xe h0 av avok W hr C =>
    (sss_cons (ss_set C n6_2 (Or.inl l6_2) se_str)
      (sss_cons (ss_if (PW.pt (st_and (st_cmp C .isin (se_idx C (se_var C n6_0 (Or.inl l6_0)) (se_neg se_int) (fun _ _ => rfl)) (se_var C n6_2 (Or.inl l6_2)) (by first | rfl | with_unfolding_all rfl)) (st_and1 (st_cmp C .isin (se_idx C (se_var C n6_1 (Or.inl l6_1)) se_int (fun _ _ => rfl)) (se_var C n6_2 (Or.inl l6_2)) (by first | rfl | with_unfolding_all rfl))))) (sss_cons (ss_ret se_bl)
      sss_nil) sss_nil)
      (sss_cons (ss_if (PW.pt (st_and (st_cmp C .isin (se_idx C (se_var C n6_0 (Or.inl l6_0)) (se_neg se_int) (fun _ _ => rfl)) se_str (by first | rfl | with_unfolding_all rfl)) (st_and1 (st_cmp C .isin (se_idx C (se_var C n6_1 (Or.inl l6_1)) se_int (fun _ _ => rfl)) se_str (by first | rfl | with_unfolding_all rfl))))) (sss_cons (ss_ret se_bl)
      sss_nil) sss_nil)
      (sss_cons (ss_if (PW.pt (st_and (st_cmp C .isin (se_idx C (se_var C n6_0 (Or.inl l6_0)) (se_neg se_int) (fun _ _ => rfl)) se_str (by first | rfl | with_unfolding_all rfl)) (st_and1 (st_cmp C .isin (se_idx C (se_var C n6_1 (Or.inl l6_1)) se_int (fun _ _ => rfl)) se_str (by first | rfl | with_unfolding_all rfl))))) (sss_cons (ss_ret se_bl)
      sss_nil) sss_nil)
      (sss_cons (ss_ret (se_and (se_cmp C .eq (se_var C n6_0 (Or.inl l6_0)) se_str (by first | rfl | with_unfolding_all rfl)) (se_one (se_cmp C .eq (se_idx C (se_var C n6_1 (Or.inl l6_1)) se_int (fun _ _ => rfl)) se_str (by first | rfl | with_unfolding_all rfl)))))
      sss_nil)))))
theorem w7 (hf_tokens : Good pr w K mg base ca TB F "tokens" 2 n) (k_BadForm_NotAllowed : PySem.W.kitOne K (.ref (ca 2)) (.ref (ca 1)) = some false) (k_BadForm_ReckonError : PySem.W.kitOne K (.ref (ca 2)) (.ref (ca 0)) = some true) (s_BadForm_BadForm : PySem.W.subIn K (.ref (ca 2)) (.ref (ca 2)) = some true) (x_BadForm : XFull K mg "BadForm" (ca 2)) (x_NotAllowed : XFull K mg "NotAllowed" (ca 1)) (x_ReckonError : XFull K mg "ReckonError" (ca 0)) (z_isinstance : mg "isinstance" = none) : Walk pr w K mg base ca N7 "_law_refused" s7 n (execs (phi TB F n) F b7) := fun A sA HA a fA cdv outer xe h0 av avok W hr C =>
    (sss_cons (ss_try C rfl rfl n7_1 l7_1 g7_BadForm x_BadForm.g (List.forall_mem_cons.mpr ⟨⟨x_BadForm.exm s_BadForm_BadForm, .bl true, rfl, fun ea oe pn hz hf => xs_ret (xk_and (xk_is (X := cxG pr w K mg base N7 "_law_refused" s7 A sA HA a fA cdv outer xe) x_BadForm.ex hz hf n7_1 (Or.inl l7_1) g7_isinstance z_isinstance g7_ReckonError x_ReckonError.g k_BadForm_ReckonError) (xk_one (xk_not (xk_is (X := cxG pr w K mg base N7 "_law_refused" s7 A sA HA a fA cdv outer xe) x_BadForm.ex hz hf n7_1 (Or.inl l7_1) g7_isinstance z_isinstance g7_NotAllowed x_NotAllowed.g k_BadForm_NotAllowed))))⟩, fun _ z => nomatch z⟩) (fun _ z => nomatch z) (fun W pn xe C => (sss_cons (ss_expr (se_call C (hf_tokens.fn hr) g7_tokens (ses_cons (se_var C n7_0 (Or.inl l7_0)) ses_nil)))
      sss_nil)))
      (sss_cons (ss_ret se_bl)
      sss_nil))
theorem w8 {k_MAX_TEXT : Tok} (c_MAX_TEXT : mg "MAX_TEXT" = some (.int 1000 k_MAX_TEXT)) (hf__law_at : Good pr w K mg base ca TB F "_law_at" 4 n) (hf__law_meet : Good pr w K mg base ca TB F "_law_meet" 6 n) (hf__law_refused : Good pr w K mg base ca TB F "_law_refused" 7 n) (hf__law_row : Good pr w K mg base ca TB F "_law_row" 3 n) (hf__law_token : Good pr w K mg base ca TB F "_law_token" 5 n) (hf_tokens : Good pr w K mg base ca TB F "tokens" 2 n) (z_int : mg "int" = none) (z_len : mg "len" = none) (z_range : mg "range" = none) : Walk pr w K mg base ca N8 "law" s8 n (execs (phi TB F n) F b8) := fun A sA HA a fA cdv outer xe h0 av avok W hr C =>
    (sss_cons (ss_set C n8_1 (Or.inr l8_1) (se_call C (hf__law_row.fn hr) g8__law_row (ses_cons (se_var C n8_0 (Or.inl l8_0)) ses_nil)))
      (sss_cons (by first | exact ss_lc C n8_2 l8_2 (by exact sw_true rfl rfl rfl (by decide +kernel)) (own := [("_law_k", 4)]) (si_rng1 g8_range z_range (ses_cons (Rf.PE.new (se_bin C .mod (se_flat rfl (se_bltT C (cl_int) g8_int z_int (by decide +kernel) (ses_cons (se_call C (hf__law_at.fn hr) g8__law_at (ses_cons (se_var C n8_1 (Or.inr (Or.inl l8_1))) (ses_cons se_int ses_nil))) ses_nil))) se_int)) ses_nil)) rfl (blkOk_by (N := N8) (sc := defScope s8) (by decide +kernel)) (fun _ _ _ _ _ _ C => (sg_nm C.hN C.nd n8_4 (by first | exact Or.inl rfl | exact Or.inr rfl) (by first | exact .inl rfl | exact .inr rfl))) (fun _ _ _ _ _ _ _ _ C => sf_nil) (fun _ _ _ _ _ _ _ _ C => (se_call C (hf__law_token.fn hr) (by rfl) (ses_cons (se_call C (hf__law_at.fn hr) (by rfl) (ses_cons (se_var C n8_1 (by first | exact Or.inl rfl | exact Or.inr (Or.inl rfl) | exact Or.inr (Or.inr rfl))) (ses_cons (Rf.PE.new (se_bin C .add (Rf.PE.new (se_bin C .mul se_int (se_var C n8_4 (by first | exact Or.inl rfl | exact Or.inr (Or.inl rfl) | exact Or.inr (Or.inr rfl))))) se_int)) ses_nil))) ses_nil))) (fun _ _ _ h => asgN_of h) | exact ss_set C n8_2 (Or.inl l8_2) (Rf.PE.new (se_comp C (own := [("_law_k", 4)]) (si_rng1 g8_range z_range (ses_cons (Rf.PE.new (se_bin C .mod (se_flat rfl (se_bltT C (cl_int) g8_int z_int (by decide +kernel) (ses_cons (se_call C (hf__law_at.fn hr) g8__law_at (ses_cons (se_var C n8_1 (Or.inr (Or.inl l8_1))) (ses_cons se_int ses_nil))) ses_nil))) se_int)) ses_nil)) rfl (blkOk_by (N := N8) (sc := defScope s8) (by decide +kernel)) (fun _ _ _ _ _ _ C => (sg_nm C.hN C.nd n8_4 (by first | exact Or.inl rfl | exact Or.inr rfl) (by first | exact .inl rfl | exact .inr rfl))) (fun _ _ _ _ _ _ _ _ C => sf_nil) (fun _ _ _ _ _ _ _ _ C => (se_call C (hf__law_token.fn hr) (by rfl) (ses_cons (se_call C (hf__law_at.fn hr) (by rfl) (ses_cons (se_var C n8_1 (by first | exact Or.inl rfl | exact Or.inr (Or.inl rfl) | exact Or.inr (Or.inr rfl))) (ses_cons (Rf.PE.new (se_bin C .add (Rf.PE.new (se_bin C .mul se_int (se_var C n8_4 (by first | exact Or.inl rfl | exact Or.inr (Or.inl rfl) | exact Or.inr (Or.inr rfl))))) se_int)) ses_nil))) ses_nil))))))
      (sss_cons (ss_set C n8_3 (Or.inl l8_3) (Rf.PE.new (se_bin C .rep se_str (Rf.PE.new (se_bin C .mod (se_flat rfl (se_bltT C (cl_int) g8_int z_int (by decide +kernel) (ses_cons (se_call C (hf__law_at.fn hr) g8__law_at (ses_cons (se_var C n8_1 (Or.inr (Or.inl l8_1))) (ses_cons se_int ses_nil))) ses_nil))) se_int)))))
      (sss_cons (ss_for C (si_rng1 g8_range z_range (ses_cons (se_flat rfl (se_bltB C (cl_len C.calm) g8_len z_len (by decide +kernel) (ses_cons (se_var C n8_2 (Or.inl l8_2)) ses_nil))) ses_nil)) (sg_nm C.hN C.nd n8_4 (Or.inl l8_4) (by first | exact .inl rfl | exact .inr rfl)) (fun _ _ C => (sss_cons (ss_set C n8_5 (Or.inl l8_5) (Rf.PE.new (se_bin C .mod (se_flat rfl (se_bltT C (cl_int) g8_int z_int (by decide +kernel) (ses_cons (se_call C (hf__law_at.fn hr) g8__law_at (ses_cons (se_var C n8_1 (Or.inr (Or.inl l8_1))) (ses_cons (Rf.PE.new (se_bin C .add (Rf.PE.new (se_bin C .mul se_int (se_var C n8_4 (Or.inl l8_4)))) se_int)) ses_nil))) ses_nil))) se_int)))
      (sss_cons (ss_if (PW.pt (st_and (st_cmp C .gt (se_var C n8_4 (Or.inl l8_4)) se_int (by first | rfl | with_unfolding_all rfl)) (st_and1 (st_val (se_call C (hf__law_meet.fn hr) g8__law_meet (ses_cons (se_idx C (se_var C n8_2 (Or.inl l8_2)) (Rf.PE.new (se_bin C .sub (se_var C n8_4 (Or.inl l8_4)) se_int)) (fun _ _ => rfl)) (ses_cons (se_idx C (se_var C n8_2 (Or.inl l8_2)) (se_var C n8_4 (Or.inl l8_4)) (fun _ _ => rfl)) ses_nil))))))) (sss_cons (ss_set C n8_5 (Or.inl l8_5) (Rf.PE.new (se_bin C .add se_int (Rf.PE.new (se_bin C .mod (se_var C n8_5 (Or.inl l8_5)) se_int)))))
      sss_nil) sss_nil)
      (sss_cons (ss_set C n8_3 (Or.inl l8_3) (Rf.PE.new (se_bin C .add (Rf.PE.new (se_bin C .add (se_var C n8_3 (Or.inl l8_3)) (Rf.PE.new (se_bin C .rep se_str (se_var C n8_5 (Or.inl l8_5)))))) (se_idx C (se_var C n8_2 (Or.inl l8_2)) (se_var C n8_4 (Or.inl l8_4)) (fun _ _ => rfl)))))
      sss_nil)))))
      (sss_cons (ss_set C n8_3 (Or.inl l8_3) (Rf.PE.new (se_bin C .add (se_var C n8_3 (Or.inl l8_3)) (Rf.PE.new (se_bin C .rep se_str (Rf.PE.new (se_bin C .mod (se_flat rfl (se_bltT C (cl_int) g8_int z_int (by decide +kernel) (ses_cons (se_call C (hf__law_at.fn hr) g8__law_at (ses_cons (se_var C n8_1 (Or.inr (Or.inl l8_1))) (ses_cons se_int ses_nil))) ses_nil))) se_int)))))))
      (sss_cons (ss_if (PW.pt (st_and (st_cmp C .le (se_flat rfl (se_bltB C (cl_len C.calm) g8_len z_len (by decide +kernel) (ses_cons (se_var C n8_3 (Or.inl l8_3)) ses_nil))) se_int (by first | rfl | with_unfolding_all rfl)) (st_and1 (st_cmp C .ne (se_call C (hf_tokens.fn hr) g8_tokens (ses_cons (se_var C n8_3 (Or.inl l8_3)) ses_nil)) (se_var C n8_2 (Or.inl l8_2)) (by first | rfl | with_unfolding_all rfl))))) (sss_cons (ss_ret se_bl)
      sss_nil) sss_nil)
      (sss_cons (ss_set C n8_6 (Or.inl l8_6) (se_idx C (Rf.PE.new (se_lst (by decide) (ses_cons se_str (ses_cons se_str (ses_cons se_str (ses_cons se_str (ses_cons se_str (ses_cons se_str (ses_cons se_str (ses_cons se_str (ses_cons se_str (ses_cons se_str ses_nil)))))))))))) (Rf.PE.new (se_bin C .mod (se_flat rfl (se_bltT C (cl_int) g8_int z_int (by decide +kernel) (ses_cons (se_call C (hf__law_at.fn hr) g8__law_at (ses_cons (se_var C n8_1 (Or.inr (Or.inl l8_1))) (ses_cons se_int ses_nil))) ses_nil))) se_int)) (fun _ _ => rfl)))
      (sss_cons (ss_set C n8_7 (Or.inl l8_7) (Rf.PE.new (se_bin C .mod (se_flat rfl (se_bltT C (cl_int) g8_int z_int (by decide +kernel) (ses_cons (se_call C (hf__law_at.fn hr) g8__law_at (ses_cons (se_var C n8_1 (Or.inr (Or.inl l8_1))) (ses_cons se_int ses_nil))) ses_nil))) (Rf.PE.new (se_bin C .add (se_flat rfl (se_bltB C (cl_len C.calm) g8_len z_len (by decide +kernel) (ses_cons (se_var C n8_3 (Or.inl l8_3)) ses_nil))) se_int)))))
      (sss_cons (ss_if (PW.pt (st_and (st_cmp C .le (se_flat rfl (se_bltB C (cl_len C.calm) g8_len z_len (by decide +kernel) (ses_cons (se_var C n8_3 (Or.inl l8_3)) ses_nil))) se_int (by first | rfl | with_unfolding_all rfl)) (st_and1 (st_not (st_val (se_call C (hf__law_refused.fn hr) g8__law_refused (ses_cons (Rf.PE.new (se_bin C .add (Rf.PE.new (se_bin C .add (Rf.PE.new (se_bin C .add (Rf.PE.new (se_bin C .add (Rf.PE.new (se_sl C (se_var C n8_3 (Or.inl l8_3)) so_none (so_some (se_var C n8_7 (Or.inl l8_7))))) se_str)) (se_var C n8_6 (Or.inl l8_6)))) se_str)) (Rf.PE.new (se_sl C (se_var C n8_3 (Or.inl l8_3)) (so_some (se_var C n8_7 (Or.inl l8_7))) so_none)))) ses_nil))))))) (sss_cons (ss_ret se_bl)
      sss_nil) sss_nil)
      (sss_cons (ss_if (PW.pt (st_or (st_cmp C .ne (se_call C (hf_tokens.fn hr) g8_tokens (ses_cons (Rf.PE.new (se_bin C .rep se_str se_int)) ses_nil)) (Rf.PE.new (se_lst (by decide) ses_nil)) (by first | rfl | with_unfolding_all rfl)) (st_or (st_not (st_val (se_call C (hf__law_refused.fn hr) g8__law_refused (ses_cons (Rf.PE.new (se_bin C .rep se_str se_int)) ses_nil)))) (st_or1 (st_cmp C .ne (se_call C (hf_tokens.fn hr) g8_tokens (ses_cons (Rf.PE.new (se_bin C .rep se_str se_int)) ses_nil)) (Rf.PE.new (se_lst (by decide) (ses_cons (Rf.PE.new (se_bin C .rep se_str se_int)) ses_nil))) (by first | rfl | with_unfolding_all rfl)))))) (sss_cons (ss_ret se_bl)
      sss_nil) sss_nil)
      (sss_cons (ss_ret (se_cmp C .eq (se_globI g8_MAX_TEXT c_MAX_TEXT) se_int (by first | rfl | with_unfolding_all rfl)))
      sss_nil)))))))))))
/-- every def of the program, n deep -/
theorem all_good (z_abs : mg "abs" = none) (z_int : mg "int" = none) (z_isinstance : mg "isinstance" = none) (z_len : mg "len" = none) (z_range : mg "range" = none) {k_DIGITS : Tok} (c_DIGITS : mg "DIGITS" = some (.str "0123456789" k_DIGITS)) {k_LETTERS : Tok} (c_LETTERS : mg "LETTERS" = some (.str "abcdefghijklmnopqrstuvwxyzABCDEFGHIJKLMNOPQRSTUVWXYZ" k_LETTERS)) {a_LONG_MARKS : Addr} (c_LONG_MARKS : mg "LONG_MARKS" = some (.ref a_LONG_MARKS)) {k_MARKS : Tok} (c_MARKS : mg "MARKS" = some (.str "+-*(),=;{}<" k_MARKS)) {k_MAX_TEXT : Tok} (c_MAX_TEXT : mg "MAX_TEXT" = some (.int 1000 k_MAX_TEXT)) (x_BadForm : XFull K mg "BadForm" (ca 2)) (x_NotAllowed : XFull K mg "NotAllowed" (ca 1)) (x_ReckonError : XFull K mg "ReckonError" (ca 0)) (k_BadForm_NotAllowed : PySem.W.kitOne K (.ref (ca 2)) (.ref (ca 1)) = some false) (k_BadForm_ReckonError : PySem.W.kitOne K (.ref (ca 2)) (.ref (ca 0)) = some true) (s_BadForm_BadForm : PySem.W.subIn K (.ref (ca 2)) (.ref (ca 2)) = some true) (d_LONG_MARKS : ∀ (av : Addr → Prop) (H : Hp), Den K av H (.ref a_LONG_MARKS) (.tuple [(.str "<<"), (.str ">>"), (.str "<="), (.str "=="), (.str "!=")])) (t0 : Txt K mg "run_length" s0 p0) (t1 : Txt K mg "token_at" s1 p1) (t2 : Txt K mg "tokens" s2 p2) (t3 : Txt K mg "_law_row" s3 p3) (t4 : Txt K mg "_law_at" s4 p4) (t5 : Txt K mg "_law_token" s5 p5) (t6 : Txt K mg "_law_meet" s6 p6) (t7 : Txt K mg "_law_refused" s7 p7) : ∀ n, Good pr w K mg base ca TB F "run_length" 0 n ∧ Good pr w K mg base ca TB F "token_at" 1 n ∧ Good pr w K mg base ca TB F "tokens" 2 n ∧ Good pr w K mg base ca TB F "_law_row" 3 n ∧ Good pr w K mg base ca TB F "_law_at" 4 n ∧ Good pr w K mg base ca TB F "_law_token" 5 n ∧ Good pr w K mg base ca TB F "_law_meet" 6 n ∧ Good pr w K mg base ca TB F "_law_refused" 7 n
  | 0 => ⟨good_zero t0, good_zero t1, good_zero t2, good_zero t3, good_zero t4, good_zero t5, good_zero t6, good_zero t7⟩
  | n + 1 => by
    obtain ⟨hf_run_length, hf_token_at, hf_tokens, hf__law_row, hf__law_at, hf__law_token, hf__law_meet, hf__law_refused⟩ := all_good z_abs z_int z_isinstance z_len z_range c_DIGITS c_LETTERS c_LONG_MARKS c_MARKS c_MAX_TEXT x_BadForm x_NotAllowed x_ReckonError k_BadForm_NotAllowed k_BadForm_ReckonError s_BadForm_BadForm d_LONG_MARKS t0 t1 t2 t3 t4 t5 t6 t7 n
    exact ⟨good_succ t0 sc0 rfl rfl rfl (by decide) (w0 z_len), good_succ t1 sc1 rfl rfl rfl (by decide) (w1 c_DIGITS c_LETTERS c_LONG_MARKS c_MARKS d_LONG_MARKS hf_run_length x_BadForm), good_succ t2 sc2 rfl rfl rfl (by decide) (w2 c_MAX_TEXT hf_token_at x_BadForm z_len), good_succ t3 sc3 rfl rfl rfl (by decide) (w3 z_abs z_int z_len z_range), good_succ t4 sc4 rfl rfl rfl (by decide) (w4 z_len), good_succ t5 sc5 rfl rfl rfl (by decide) (w5 z_int z_len z_range), good_succ t6 sc6 rfl rfl rfl (by decide) (w6 ), good_succ t7 sc7 rfl rfl rfl (by decide) (w7 hf_tokens k_BadForm_NotAllowed k_BadForm_ReckonError s_BadForm_BadForm x_BadForm x_NotAllowed x_ReckonError z_isinstance)⟩
end
end My

set_option Elab.async false
set_option linter.all false
set_option maxRecDepth 100000
set_option maxHeartbeats 1000000
namespace My
open PySem PySem.Spec PyProof.Rows L2 Rf
section
variable {Φ : FT} {F : Nat}
/-! ### signs -/
def isL (c : Nat) : Bool := (decide (97 ≤ c) && decide (c ≤ 122)) || (decide (65 ≤ c) && decide (c ≤ 90))
def isD (c : Nat) : Bool := decide (48 ≤ c) && decide (c ≤ 57)
def MK : List Nat := [43, 45, 42, 40, 41, 44, 61, 59, 123, 125, 60]
def LG : List (List Nat) := [[60, 60], [62, 62], [60, 61], [61, 61], [33, 61]]
/-- every sign of the law's texts -/
def CH : List Nat := (List.range 26).map (· + 97) ++ (List.range 26).map (· + 65) ++ (List.range 10).map (· + 48) ++ MK ++ [32, 33, 62, 94, 35, 46, 95, 47, 38, 63]
abbrev LET : Str := "abcdefghijklmnopqrstuvwxyzABCDEFGHIJKLMNOPQRSTUVWXYZ"
abbrev DIG : Str := "0123456789"
abbrev MRK : Str := "+-*(),=;{}<"
theorem in_let : ∀ c ∈ CH, inD (.str (S [c])) (.str LET) = some (isL c) := by decide +kernel
theorem in_dig : ∀ c ∈ CH, inD (.str (S [c])) (.str DIG) = some (isD c) := by decide +kernel
theorem in_mrk : ∀ c ∈ CH, inD (.str (S [c])) (.str MRK) = some (MK.contains c) := by decide +kernel
theorem ch_small : ∀ c ∈ CH, c < 0x110000 := by decide
theorem S_len {l : List Nat} : (S l).length = l.length := by simp [Str.length]
theorem S_ok {l : List Nat} (h : ∀ c ∈ l, c ∈ CH) : PyData.strOk (S l) = true := by
  show (l.toArray.all (· < 0x110000)) = true
  rw [List.all_toArray, List.all_eq_true]
  intro c hc
  exact decide_eq_true (ch_small c (h c hc))
theorem S_inj {a b : List Nat} : (S a == S b) = decide (a = b) := by
  by_cases h : a = b
  · subst h; simp
  · have : S a ≠ S b := fun e => h (by have := congrArg (fun z : Str => z.cps.toList) e; simpa using this)
    rw [decide_eq_false h]
    simpa using this
theorem len_S {a : List Nat} (h : a.length ≤ 1000000) : bltK .len [.str (S a)] = .ok (.int a.length) := by
  rw [bltK_lenS (by rw [S_len]; exact h), S_len]
theorem idx_S {l : List Nat} {i c : Nat} (h : l[i]? = some c) (hz : l.length ≤ line) : idxK (.str (S l)) (.int (i : Int)) = .ok (.str (S [c])) := by
  have e : idxD (.str (S l)) (.int (i : Int)) = some (.str (S [c])) := by
    show (if (S l).length ≤ line then (L2.atI (S l).cps.toList (i : Int)).map fun c => PyData.str (S [c]) else none) = _
    rw [if_pos (by rw [S_len]; exact hz), atI_at (by omega) (by simpa using h)]
    rfl
  rw [idxK, e]; rfl
theorem sl_S {l : List Nat} {i j : Nat} (hz : l.length ≤ line) (h : i ≤ j) (hj : i ≤ l.length) : slK (.str (S l)) (some (i : Int)) (some (j : Int)) = .ok (.str (S ((l.drop i).take (j - i)))) := by
  rw [slK_s (by rw [S_len]; exact hz)]
  show Res.ok (PyData.str (S (Rf.cutD l _ _))) = _
  by_cases hl : j ≤ l.length
  · rw [cut_mid h hl]
  · unfold Rf.cutD
    rw [HT.sIx_nat, HT.sIx_nat, Nat.min_eq_right (by omega), Nat.min_eq_left hj, List.take_of_length_le (by rw [List.length_drop]; omega), List.take_of_length_le (by rw [List.length_drop]; omega)]
/-! ### run_length -/
def JR (l : List Nat) (at_ : Nat) (z : Str) (p : Nat → Bool) (n : Nat) (e : Sl) : Prop := ∃ j : Nat, e = [.d (.str (S l)), .d (.int at_), .d (.str z), .d (.int (at_ + j : Nat))] ∧ n + (at_ + j) = l.length ∧ j ≤ ((l.drop at_).takeWhile p).length
theorem tw_get {p : Nat → Bool} : ∀ {l : List Nat} {j : Nat}, j ≤ (l.takeWhile p).length → (j < (l.takeWhile p).length ∧ ∃ c, l[j]? = some c ∧ p c = true) ∨ (j = (l.takeWhile p).length ∧ ∀ c, l[j]? = some c → p c = false)
  | [], j, h => .inr ⟨by simpa using h, fun c h => by simp at h⟩
  | a :: l, j, h => by
    rw [List.takeWhile_cons] at h ⊢
    cases hp : p a with
    | false =>
      rw [hp] at h
      simp only [Bool.false_eq_true, if_false, List.length_nil, Nat.le_zero] at h ⊢
      subst h
      exact .inr ⟨rfl, fun c hc => by simp at hc; subst hc; exact hp⟩
    | true =>
      rw [hp] at h
      simp only [if_true, List.length_cons] at h ⊢
      cases j with
      | zero => exact .inl ⟨by omega, a, rfl, hp⟩
      | succ j =>
        rcases tw_get (p := p) (l := l) (j := j) (by omega) with ⟨h1, c, h2, h3⟩ | ⟨h1, h2⟩
        · exact .inl ⟨by omega, c, by simpa using h2, h3⟩
        · exact .inr ⟨by omega, fun c hc => h2 c (by simpa using hc)⟩
theorem run_ok {l : List Nat} (hl : l.length ≤ 1000000) (hc : ∀ c ∈ l, c ∈ CH) {at_ : Nat} (ha : at_ ≤ l.length) {z : Str} {p : Nat → Bool} (hz : ∀ c ∈ CH, inD (.str (S [c])) (.str z) = some (p c)) (hF : l.length < F) :
    ∃ x, Fdef.run ⟨3, 4, b0⟩ Φ F [.str (S l), .int at_, .str z] = .ok x ∧ x = .int (((l.drop at_).takeWhile p).length : Nat) := by
  refine run_of (Q := fun x => x = .int (((l.drop at_).takeWhile p).length : Nat)) rfl ?_
  have ln := len_S hl
  simp only [b0, x_cons, x_asg, e_var, List.map_cons, List.map_nil, List.replicate_succ, List.replicate_zero, Nat.reduceSub, List.cons_append, List.nil_append, List.getElem?_cons_succ, List.getElem?_cons_zero, varK_d, Out.ofR_ok]
  rw [asgK_nm (by simp)]
  simp only [Out.seq_nx, x_whl, List.set_cons_succ, List.set_cons_zero]
  refine Is.whl (JR l at_ z p) (fun n e h => ?_) F _ (l.length - at_) ⟨0, rfl, by omega, Nat.zero_le _⟩ (by omega)
  obtain ⟨j, rfl, h1, h2⟩ := h
  have tw := tw_get h2
  by_cases hlt : at_ + j < l.length
  · have hget : l[at_ + j]? = some l[at_ + j] := List.getElem?_eq_getElem hlt
    have cc : l[at_ + j] ∈ CH := hc _ (List.getElem_mem _)
    have ix := idx_S hget hl
    have hin : cmpK .isin (.str (S [l[at_ + j]])) (.str z) = .ok (.bool (p l[at_ + j])) := by
      show Res.of ((inD (.str (S [l[at_ + j]])) (.str z)).map PyData.bool) = _
      rw [hz _ cc]; rfl
    have hlt2 : ((at_ : Int) + (j : Int)) < (l.length : Int) := by omega
    rw [show (((at_ + j : Nat)) : Int) = (at_ : Int) + (j : Int) by omega] at ix
    cases hp : p l[at_ + j] with
    | true =>
      rw [hp] at hin
      refine .inr ⟨?_, ?_⟩
      · simp [x0_2, ln, ix, hin, hlt2]
      · rcases tw with ⟨t1, _⟩ | ⟨t1, t2⟩
        · simp [b0_1]
          refine ⟨n - 1, by omega, j + 1, ?_, by omega, by omega⟩
          simp
          omega
        · have := t2 l[at_ + j] (by rw [List.getElem?_drop]; exact hget)
          rw [hp] at this; cases this
    | false =>
      rw [hp] at hin
      refine .inl ⟨?_, ?_⟩
      · simp [x0_2, ln, ix, hin, hlt2]
      · rcases tw with ⟨t1, c, t2, t3⟩ | ⟨t1, t2⟩
        · rw [List.getElem?_drop, hget] at t2
          cases t2
          rw [hp] at t3; cases t3
        · simp
          omega
  · have hlt2 : ¬ ((at_ : Int) + (j : Int)) < (l.length : Int) := by omega
    refine .inl ⟨?_, ?_⟩
    · simp [x0_2, ln, hlt2]
    · have : ((l.drop at_).takeWhile p).length ≤ (l.drop at_).length := (List.takeWhile_prefix p).length_le
      rw [List.length_drop] at this
      simp
      omega
/-! ### token_at -/
def tokAt (t : List Nat) : Option (List Nat) :=
  if t.takeWhile isL ≠ [] then some (t.takeWhile isL)
  else if t.takeWhile isD ≠ [] then (if t.takeWhile isD = [50] ∧ (t.drop 1).take 1 = [94] then some [50, 94] else some (t.takeWhile isD))
  else if LG.contains (t.take 2) then some (t.take 2)
  else match t with
    | c :: _ => if MK.contains c then some [c] else none
    | [] => none
theorem take_tw {p : Nat → Bool} : ∀ {t : List Nat}, t.take (t.takeWhile p).length = t.takeWhile p
  | [] => rfl
  | a :: t => by
    rw [List.takeWhile_cons]
    cases p a with
    | true => simp only [if_true, List.length_cons, List.take_succ_cons, take_tw]
    | false => rfl
theorem tw_all {p : Nat → Bool} {c : Nat} : ∀ {t : List Nat}, c ∈ t.takeWhile p → p c = true
  | [], h => by simp at h
  | a :: t, h => by
    rw [List.takeWhile_cons] at h
    cases hp : p a with
    | true =>
      rw [hp, if_pos rfl] at h
      rcases List.mem_cons.mp h with h | h
      · rw [h]; exact hp
      · exact tw_all h
    | false => rw [hp] at h; simp at h
theorem run_ex {fn : Fdef} {Φ : FT} {F : Nat} {args : List D} {c : Nat} {e : Sl} (hl : args.length = fn.np) (h : Rf.execs Φ F fn.body (args.map .d ++ List.replicate (fn.ns - fn.np) .un) = .ex c e) : fn.run Φ F args = .ex c := by
  unfold Fdef.run
  rw [if_pos hl, h]
theorem in_lg {w : List Nat} (hw : ∀ c ∈ w, c ∈ CH) : cmpK .isin (.str (S w)) (.tuple [.str "<<", .str ">>", .str "<=", .str "==", .str "!="]) = .ok (.bool (LG.contains w)) := by
  have e1 : (Str.ofString "<<") = S [60, 60] := by decide +kernel
  have e2 : (Str.ofString ">>") = S [62, 62] := by decide +kernel
  have e3 : (Str.ofString "<=") = S [60, 61] := by decide +kernel
  have e4 : (Str.ofString "==") = S [61, 61] := by decide +kernel
  have e5 : (Str.ofString "!=") = S [33, 61] := by decide +kernel
  have h : ∀ z : Str, PyData.eqv (.str z) (.str (S w)) = (z == S w) := fun z => by simp [PyData.eqv]
  have : cmpD .isin (.str (S w)) (.tuple [.str "<<", .str ">>", .str "<=", .str "==", .str "!="]) = some (LG.contains w) := by
    show inD (.str (S w)) (.tuple [.str (Str.ofString "<<"), .str (Str.ofString ">>"), .str (Str.ofString "<="), .str (Str.ofString "=="), .str (Str.ofString "!=")]) = _
    simp only [inD, flatD, List.all_cons, List.all_nil, Bool.and_self, if_true, List.any_cons, List.any_nil, h, e1, e2, e3, e4, e5, S_inj]
    congr 1
    simp only [LG, List.contains_cons, List.contains_nil, Bool.or_false]
    have hb : ∀ a : List Nat, (w == a) = decide (a = w) := fun a => by
      by_cases e : a = w
      · subst e; simp
      · rw [decide_eq_false e, beq_eq_false_iff_ne]; exact fun z => e z.symm
    simp only [hb]
  rw [cmpK, this]; rfl
theorem token_ok {n : Nat} {l : List Nat} (hl : l.length ≤ 1000000) (hc : ∀ c ∈ l, c ∈ CH) {at_ : Nat} (ha : at_ < l.length) (hF : l.length < F) :
    Fdef.run ⟨2, 5, b1⟩ (phi TB F (n + 1)) F [.str (S l), .int at_] = match tokAt (l.drop at_) with
      | some t => .ok (.str (S t))
      | none => .ex 2 := by
  obtain ⟨x1, r1, rfl⟩ := run_ok (Φ := phi TB F n) (F := F) hl hc (at_ := at_) (by omega) in_let hF
  obtain ⟨x2, r2, rfl⟩ := run_ok (Φ := phi TB F n) (F := F) hl hc (at_ := at_) (by omega) in_dig hF
  have c1 : phi TB F (n + 1) 0 [.str (S l), .int at_, .str LET] = .ok (.int (((l.drop at_).takeWhile isL).length : Nat)) := (phi_succ rfl).trans r1
  have c2 : phi TB F (n + 1) 0 [.str (S l), .int at_, .str DIG] = .ok (.int (((l.drop at_).takeWhile isD).length : Nat)) := (phi_succ rfl).trans r2
  have hl2 : l.length ≤ line := hl
  have e2 : (Str.ofString "2") = S [50] := by decide +kernel
  have e3 : (Str.ofString "^") = S [94] := by decide +kernel
  have e4 : (Str.ofString "2^") = S [50, 94] := by decide +kernel
  have sub : ∀ w : List Nat, (∀ c ∈ w, c ∈ l) → PyData.strOk (S w) = true := fun w h => S_ok fun c hw => hc c (h c hw)
  have k50 : PyData.strOk (S [50]) = true := S_ok (by decide)
  have k94 : PyData.strOk (S [94]) = true := S_ok (by decide)
  have dsub : ∀ c ∈ l.drop at_, c ∈ l := fun c h => List.mem_of_mem_drop h
  have s1 := sl_S (l := l) (i := at_) (j := at_ + ((l.drop at_).takeWhile isL).length) hl2 (by omega) (by omega)
  have s2 := sl_S (l := l) (i := at_) (j := at_ + ((l.drop at_).takeWhile isD).length) hl2 (by omega) (by omega)
  have s3 := sl_S (l := l) (i := at_ + 1) (j := at_ + 2) hl2 (by omega) (by omega)
  have s4 := sl_S (l := l) (i := at_) (j := at_ + 2) hl2 (by omega) (by omega)
  rw [Nat.add_sub_cancel_left, take_tw] at s1 s2
  rw [Nat.add_sub_cancel_left] at s4
  rw [show at_ + 2 - (at_ + 1) = 1 by omega, ← List.drop_drop] at s3
  have ix : ∀ c t, l.drop at_ = c :: t → idxK (.str (S l)) (.int (at_ : Int)) = .ok (.str (S [c])) := fun c t h => idx_S (by
    have := List.getElem?_drop (xs := l) (i := at_) (j := 0)
    rw [h] at this
    simpa using this.symm) hl2
  rw [show ((at_ + ((l.drop at_).takeWhile isL).length : Nat) : Int) = (at_ : Int) + (((l.drop at_).takeWhile isL).length : Int) by omega] at s1
  rw [show ((at_ + ((l.drop at_).takeWhile isD).length : Nat) : Int) = (at_ : Int) + (((l.drop at_).takeWhile isD).length : Int) by omega] at s2
  rw [show ((at_ + 1 : Nat) : Int) = (at_ : Int) + 1 by omega, show ((at_ + 2 : Nat) : Int) = (at_ : Int) + 2 by omega] at s3
  rw [show ((at_ + 2 : Nat) : Int) = (at_ : Int) + 2 by omega] at s4
  have hne : l.drop at_ ≠ [] := fun e => by
    have := congrArg List.length e
    rw [List.length_drop] at this
    simp at this
    omega
  generalize l.drop at_ = t at *
  have wl : ∀ c ∈ t.takeWhile isL, isL c = true := fun c h => tw_all h
  have ml : ∀ c ∈ t.takeWhile isL, c ∈ l := fun c h => dsub c ((List.takeWhile_prefix isL).subset h)
  have md : ∀ c ∈ t.takeWhile isD, c ∈ l := fun c h => dsub c ((List.takeWhile_prefix isD).subset h)
  have q1 := cmpK_eqS (i := S (t.takeWhile isL)) (j := S [50]) (sub _ ml) k50
  have q2 := cmpK_eqS (i := S (t.takeWhile isD)) (j := S [50]) (sub _ md) k50
  have q3 := cmpK_eqS (i := S ((t.drop 1).take 1)) (j := S [94]) (sub _ fun c h => dsub c (List.mem_of_mem_drop (List.mem_of_mem_take h))) k94
  have q4 := in_lg (w := t.take 2) fun c h => hc c (dsub c (List.mem_of_mem_take h))
  rw [S_inj] at q1 q2 q3
  rw [← e2] at q1 q2
  rw [← e3] at q3
  unfold tokAt
  by_cases hL : t.takeWhile isL = []
  · rw [if_neg (by simpa using hL)]
    rw [hL] at c1
    by_cases hD : t.takeWhile isD = []
    · rw [if_neg (by simpa using hD)]
      rw [hD] at c2
      generalize t.take 2 = w at s4 q4 ⊢
      by_cases hG : LG.contains w = true
      · rw [if_pos hG]
        rw [hG] at q4
        refine run_ret rfl ?_
        simp [b1, b1_1, forL, bindT, c1, c2, s4, q4]
      · rw [if_neg hG]
        have hG : LG.contains w = false := by simpa using hG
        rw [hG] at q4
        cases t with
        | nil => exact absurd rfl hne
        | cons c r =>
          have i1 := ix c r rfl
          have hin : cmpK .isin (.str (S [c])) (.str MRK) = .ok (.bool (MK.contains c)) := by
            show Res.of ((inD (.str (S [c])) (.str MRK)).map PyData.bool) = _
            rw [in_mrk c (hc c (dsub c (List.mem_cons_self ..)))]; rfl
          show _ = match (if MK.contains c = true then some [c] else none) with | some t => Res.ok (PyData.str (S t)) | none => .ex 2
          by_cases hM : MK.contains c = true
          · rw [if_pos hM]
            rw [hM] at hin
            refine run_ret rfl ?_
            simp [b1, b1_1, forL, bindT, c1, c2, s4, q4, i1, hin]
          · rw [if_neg hM]
            have hM : MK.contains c = false := by simpa using hM
            rw [hM] at hin
            refine run_ex (e := [.d (.str (S l)), .d (.int at_), .d (.str DIG), .d (.int 0), .un]) rfl ?_
            simp [b1, b1_1, forL, bindT, c1, c2, s4, q4, i1, hin]
    · rw [if_pos hD]
      have pos := List.length_pos_iff.mpr hD
      generalize (t.drop 1).take 1 = v at s3 q3 ⊢
      generalize t.takeWhile isD = d at s2 q2 c2 hD pos ⊢
      refine Eq.trans (run_ret rfl (x := if d = [50] ∧ v = [94] then .str "2^" else .str (S d)) ?_) ?_
      · by_cases h1 : d = [50]
        · rw [decide_eq_true h1] at q2
          by_cases h2 : v = [94]
          · rw [decide_eq_true h2] at q3
            rw [if_pos ⟨h1, h2⟩]
            simp [b1, b1_1, forL, bindT, c1, c2, s2, q2, s3, q3, pos, hD]
          · rw [decide_eq_false h2] at q3
            rw [if_neg fun z => h2 z.2]
            simp [b1, b1_1, forL, bindT, c1, c2, s2, q2, s3, q3, pos, hD]
        · rw [decide_eq_false h1] at q2
          rw [if_neg fun z => h1 z.1]
          simp [b1, b1_1, forL, bindT, c1, c2, s2, q2, pos, hD]
      · rw [e4]
        split <;> rfl
  · rw [if_pos hL]
    have pos := List.length_pos_iff.mpr hL
    have n50 : t.takeWhile isL ≠ [50] := fun e => by
      have := wl 50 (by rw [e]; exact List.mem_cons_self ..)
      revert this
      decide
    rw [decide_eq_false n50] at q1
    refine run_ret rfl ?_
    simp [b1, b1_1, forL, bindT, c1, s1, q1, pos, hL]
end
end My

set_option Elab.async false
set_option linter.all false
set_option maxRecDepth 100000
set_option maxHeartbeats 1000000
namespace My
open PySem PySem.Spec PyProof.Rows L2 Rf
section
variable {F n : Nat}
/-! ### tokens -/
def toks : Nat → List Nat → Option (List (List Nat))
  | 0, _ => none
  | _ + 1, [] => some []
  | k + 1, c :: r => if c = 32 then toks k r else match tokAt (c :: r) with
    | none => none
    | some t => (toks k ((c :: r).drop t.length)).map (t :: ·)
theorem tokAt_len {t w : List Nat} (h : tokAt t = some w) : 0 < w.length ∧ w.length ≤ t.length := by
  unfold tokAt at h
  split at h
  · rename_i h1
    cases h
    exact ⟨List.length_pos_iff.mpr h1, (List.takeWhile_prefix isL).length_le⟩
  · split at h
    · rename_i h2
      split at h
      · rename_i h3
        cases h
        have := congrArg List.length h3.2
        simp at this
        exact ⟨by decide, by simp; omega⟩
      · cases h
        exact ⟨List.length_pos_iff.mpr h2, (List.takeWhile_prefix isD).length_le⟩
    · split at h
      · rename_i h3
        cases h
        refine ⟨?_, by rw [List.length_take]; omega⟩
        cases t with
        | nil => simp [LG] at h3
        | cons a t => simp
      · split at h
        · split at h
          · cases h; simp
          · cases h
        · cases h
theorem call_token {l : List Nat} (hl : l.length ≤ 1000000) (hc : ∀ c ∈ l, c ∈ CH) {at_ : Nat} (ha : at_ < l.length) (hF : l.length < F) :
    phi TB F (n + 2) 1 [.str (S l), .int at_] = match tokAt (l.drop at_) with
      | some t => .ok (.str (S t))
      | none => .ex 2 := (phi_succ rfl).trans (token_ok hl hc ha hF)
theorem loop_ok {l : List Nat} (hl : l.length ≤ 1000000) (hc : ∀ c ∈ l, c ∈ CH) (hF : l.length < F) : ∀ (m k : Nat) (t : List Nat) (at_ : Nat) (acc : List Rf.D) (s3 : Slot), l.drop at_ = t → at_ ≤ l.length → t.length < m → t.length < k → acc.length + t.length ≤ 1000 →
    (∃ ts s3', toks k t = some ts ∧ whileF (ev (phi TB F (n + 2)) x2_2) (Rf.execs (phi TB F (n + 2)) F b2_1) m [.d (.str (S l)), .ol acc, .d (.int at_), s3] = .nx [.d (.str (S l)), .ol (acc ++ ts.map fun t => .str (S t)), .d (.int l.length), s3']) ∨
    (toks k t = none ∧ ∃ e', whileF (ev (phi TB F (n + 2)) x2_2) (Rf.execs (phi TB F (n + 2)) F b2_1) m [.d (.str (S l)), .ol acc, .d (.int at_), s3] = .ex 2 e')
  | 0, _, _, _, _, _, _, _, h, _, _ => absurd h (Nat.not_lt_zero _)
  | _, 0, _, _, _, _, _, _, _, h, _ => absurd h (Nat.not_lt_zero _)
  | m + 1, k + 1, t, at_, acc, s3, hd, ha, hm, hk, hacc => by
    have ln := len_S hl
    have hlen : t.length = l.length - at_ := by rw [← hd, List.length_drop]
    cases t with
    | nil =>
      have e : at_ = l.length := by simp at hlen; omega
      subst e
      refine .inl ⟨[], s3, rfl, ?_⟩
      have hc1 : ev (phi TB F (n + 2)) x2_2 [.d (.str (S l)), .ol acc, .d (.int l.length), s3] = .ok (.bool false) := by simp [x2_2, ln]
      simp only [whileF, hc1, Out.ofR_ok, List.map_nil, List.append_nil]
    | cons c r =>
      have hlt : at_ < l.length := by simp at hlen; omega
      have hlt2 : (at_ : Int) < (l.length : Int) := by omega
      have hc1 : ev (phi TB F (n + 2)) x2_2 [.d (.str (S l)), .ol acc, .d (.int at_), s3] = .ok (.bool true) := by simp [x2_2, ln, hlt]
      have hget : l[at_]? = some c := by
        have := List.getElem?_drop (xs := l) (i := at_) (j := 0)
        rw [hd] at this
        simpa using this.symm
      have ix := idx_S hget hl
      have e1 : (Str.ofString " ") = S [32] := by decide +kernel
      have cc : c ∈ CH := hc c (List.mem_of_getElem? hget)
      have hq := cmpK_eqS (i := S [c]) (j := S [32]) (S_ok (by simpa using cc)) (S_ok (by decide))
      rw [S_inj, ← e1] at hq
      have hw : whileF (ev (phi TB F (n + 2)) x2_2) (Rf.execs (phi TB F (n + 2)) F b2_1) (m + 1) [.d (.str (S l)), .ol acc, .d (.int at_), s3] = (Rf.execs (phi TB F (n + 2)) F b2_1 [.d (.str (S l)), .ol acc, .d (.int at_), s3]).turn fun e2 => whileF (ev (phi TB F (n + 2)) x2_2) (Rf.execs (phi TB F (n + 2)) F b2_1) m e2 := by
        simp only [whileF, hc1, Out.ofR_ok]
      simp only [hw]
      by_cases h32 : c = 32
      · subst h32
        rw [decide_eq_true rfl] at hq
        have hb : Rf.execs (phi TB F (n + 2)) F b2_1 [.d (.str (S l)), .ol acc, .d (.int at_), s3] = .nx [.d (.str (S l)), .ol acc, .d (.int ((at_ + 1 : Nat) : Int)), s3] := by
          simp [b2_1, ix, hq]
        rw [hb]
        simp only [Out.turn_nx]
        have := loop_ok hl hc hF m k r (at_ + 1) acc s3 (by rw [← List.drop_drop, hd]; rfl) (by omega) (by simp at hm; omega) (by simp at hk; omega) (by simp at hacc; omega)
        simpa only [toks, if_true] using this
      · rw [decide_eq_false (by simpa using h32)] at hq
        have ct := call_token (n := n) hl hc hlt hF
        rw [hd] at ct
        cases hT : tokAt (c :: r) with
        | none =>
          rw [hT] at ct
          refine .inr ⟨by simp only [toks, if_neg h32, hT], ?_⟩
          have hb : Rf.execs (phi TB F (n + 2)) F b2_1 [.d (.str (S l)), .ol acc, .d (.int at_), s3] = .ex 2 [.d (.str (S l)), .ol acc, .d (.int at_), s3] := by
            simp [b2_1, ix, hq, ct]
          rw [hb]
          exact ⟨_, rfl⟩
        | some w =>
          rw [hT] at ct
          obtain ⟨w1, w2⟩ := tokAt_len hT
          have lw := len_S (a := w) (by simp at hacc; simp at w2; omega)
          have hz : acc.length < line := by unfold line; omega
          have hb : Rf.execs (phi TB F (n + 2)) F b2_1 [.d (.str (S l)), .ol acc, .d (.int at_), s3] = .nx [.d (.str (S l)), .ol (acc ++ [.str (S w)]), .d (.int ((at_ + w.length : Nat) : Int)), .d (.str (S w))] := by
            simp [b2_1, ix, hq, ct, lw, hz]
          rw [hb]
          simp only [Out.turn_nx]
          have := loop_ok hl hc hF m k ((c :: r).drop w.length) (at_ + w.length) (acc ++ [.str (S w)]) (.d (.str (S w))) (by rw [← List.drop_drop, hd]) (by simp at hlen w2; omega) (by rw [List.length_drop]; simp at hm w2 ⊢; omega) (by rw [List.length_drop]; simp at hk w2 ⊢; omega) (by rw [List.length_drop, List.length_append]; simp at hacc w2 ⊢; omega)
          rcases this with ⟨ts, s3', h1, h2⟩ | ⟨h1, e', h2⟩
          · refine .inl ⟨w :: ts, s3', ?_, ?_⟩
            · simp only [toks, if_neg h32, hT, h1, Option.map_some]
            · rw [h2]
              simp only [List.map_cons, List.append_assoc, List.singleton_append]
          · refine .inr ⟨?_, e', h2⟩
            simp only [toks, if_neg h32, hT, h1, Option.map_none]
theorem tokens_ok {l : List Nat} (hl : l.length ≤ 1000) (hc : ∀ c ∈ l, c ∈ CH) (hF : l.length < F) : Fdef.run ⟨1, 4, b2⟩ (phi TB F (n + 2)) F [.str (S l)] = match toks (l.length + 1) l with
      | some ts => .ok (.list (ts.map fun t => .str (S t)))
      | none => .ex 2 := by
  have ln := len_S (a := l) (by omega)
  have hn : ¬ (1000 : Int) < (l.length : Int) := by omega
  rcases loop_ok (n := n) (by omega) hc hF F (l.length + 1) l 0 [] .un (by simp) (by omega) hF (by omega) (by simpa using hl) with ⟨ts, s3, h1, h2⟩ | ⟨h1, e', h2⟩
  · rw [h1]
    refine run_ret rfl ?_
    simp [b2, ln, hn, h2, show ¬ 1000 < l.length by omega]
    rw [show ((0 : Nat) : Int) = 0 from rfl] at h2
    rw [h2]
    simp
  · rw [h1]
    refine run_ex (e := e') rfl ?_
    simp [b2, ln, hn, h2, show ¬ 1000 < l.length by omega]
    rw [show ((0 : Nat) : Int) = 0 from rfl] at h2
    rw [h2]
    rfl
theorem tokens_long {l : List Nat} (hl : 1000 < l.length) (hl2 : l.length ≤ 1000000) : Fdef.run ⟨1, 4, b2⟩ (phi TB F (n + 2)) F [.str (S l)] = .ex 2 := by
  have ln := len_S (a := l) hl2
  refine run_ex (e := [.d (.str (S l)), .un, .un, .un]) rfl ?_
  have hl3 : (1000 : Int) < (l.length : Int) := by omega
  simp [b2, ln, hl, hl3]
end
end My

set_option Elab.async false
set_option linter.all false
set_option maxRecDepth 100000
set_option maxHeartbeats 1000000
namespace My
open PySem PySem.Spec PyProof.Rows L2 Rf
section
variable {Φ : FT} {F : Nat}
abbrev il (l : List Int) : List D := l.map .int
theorem idx_il {l : List Int} {i : Int} (h0 : 0 ≤ i) (h : i.toNat < l.length) : idxK (.list (il l)) (.int i) = .ok (.int l[i.toNat]) := by
  have e : idxD (.list (il l)) (.int i) = some (.int l[i.toNat]) := by
    show L2.atI (il l) i = _
    exact atI_at h0 (get_ints h)
  rw [idxK, e]; rfl
theorem il_snoc {l : List Int} {x : Int} : il l ++ [.int x] = il (l ++ [x]) := by simp
def Sm (l : List Int) : Prop := ∀ x ∈ l, 0 ≤ x ∧ x < 1009
theorem Sm.snoc {l : List Int} (h : Sm l) (y : Int) : Sm (l ++ [y % 1009]) := fun x hx => by
  rcases List.mem_append.mp hx with hx | hx
  · exact h x hx
  · simp at hx; omega
/-! ### the row of numbers -/
def K1 (ns : List Int) (k : Int) (m : Nat) (s5 : Slot) (i : Nat) (e : Sl) : Prop := ∃ (l : List Int) (c : Int) (s4 : Slot), e = [.d (.list (il ns)), .ol (il l), .d (.int k), .d (.int c), s4, s5] ∧ l.length ≤ m + i ∧ Sm l
theorem row1 {ns : List Int} {k : Int} {m i : Nat} (hm : m + i < 100000) {l : List Int} {c x : Int} {s4 s5 : Slot} (h1 : l.length ≤ m + i) (h2 : Sm l) {Q : Out → Prop} {f : Sl → Out} :
    Is (Turn Q (K1 ns k m s5 (i + 1)) f) (turnB (Rf.execs Φ F b3_1) (.nm 4) (.int x) [.d (.list (il ns)), .ol (il l), .d (.int k), .d (.int c), s4, s5]) := by
  by_cases hc : 0 < c
  · have hz : l.length < line := by unfold line; omega
    simp [turnB, bindT, b3_1, hc, hz]
    exact ⟨l ++ [c % 1009], c / 1009, _, by rw [il_snoc], by simp; omega, h2.snoc c⟩
  · simp [turnB, bindT, b3_1, hc]
    exact ⟨l, c, _, rfl, by omega, h2⟩
def K2 (ns : List Int) (k : Int) (s3 : Slot) (m : Nat) (i : Nat) (e : Sl) : Prop := ∃ (l : List Int) (c : Int) (s4 : Slot), e = [.d (.list (il ns)), .ol (il l), .d (.int k), s3, s4, .d (.int c)] ∧ l.length ≤ m + i ∧ Sm l
theorem row2 {ns : List Int} {k : Int} {m i : Nat} (hm : m + i < 100000) {l : List Int} {c x : Int} {s3 s4 : Slot} (h1 : l.length ≤ m + i) (h2 : Sm l) {Q : Out → Prop} {f : Sl → Out} :
    Is (Turn Q (K2 ns k s3 m (i + 1)) f) (turnB (Rf.execs Φ F b3_2) (.nm 4) (.int x) [.d (.list (il ns)), .ol (il l), .d (.int k), s3, s4, .d (.int c)]) := by
  have hz : l.length < line := by unfold line; omega
  simp [turnB, bindT, b3_2, hz]
  exact ⟨l ++ [_], _, _, by rw [il_snoc], by simp; omega, h2.snoc _⟩
def K3 (ns : List Int) (i : Nat) (e : Sl) : Prop := ∃ (l : List Int) (s2 s3 s4 s5 : Slot), e = [.d (.list (il ns)), .ol (il l), s2, s3, s4, s5] ∧ l.length ≤ 40 * i ∧ Sm l
theorem row3 {ns : List Int} (hn : ns.length ≤ 63) {i : Nat} (hi : i < ns.length) {l : List Int} {s2 s3 s4 s5 : Slot} (h1 : l.length ≤ 40 * i) (h2 : Sm l) {Q : Out → Prop} {f : Sl → Out} :
    Is (Turn Q (K3 ns (i + 1)) f) (turnB (Rf.execs Φ F b3_3) (.nm 2) (.int i) [.d (.list (il ns)), .ol (il l), s2, s3, s4, s5]) := by
  have hix := idx_il (l := ns) (i := (i : Int)) (by omega) (by simpa using hi)
  generalize ns[((i : Int)).toNat]'(by simpa using hi) = cell at hix
  have r1 : srcK .rng [.int 40] = .ok (rngD 0 40) := srcK_rn (n := 40) (by decide)
  have r2 : srcK .rng [.int 6] = .ok (rngD 0 6) := srcK_rn (n := 6) (by decide)
  simp only [turnB, bindT, List.length_cons, List.length_nil, Nat.reduceAdd, Nat.reduceLT, if_true, List.set_cons_succ, List.set_cons_zero]
  simp [b3_3, hix]
  generalize (if cell < 0 then -cell else cell) = c
  by_cases hb : (1000000000000000000 : Int) ≤ c
  · simp [hb, r1]
    refine Is.forE (fun j e => K1 ns i l.length s5 j e) ⟨l, c, s4, rfl, by omega, h2⟩ ?_ ?_
    · rintro j x e hx ⟨l', c', s4', rfl, g1, g2⟩
      obtain ⟨hj, rfl⟩ := rng_get hx
      exact row1 (by omega) g1 g2
    · rintro e ⟨l', c', s4', rfl, g1, g2⟩
      rw [Turn_nx]
      rw [rng_len] at g1
      exact ⟨l', _, _, _, _, rfl, by omega, g2⟩
  · simp [hb, r2]
    refine Is.forE (fun j e => K2 ns i (.d (.int c)) l.length j e) ⟨l, _, s4, rfl, by omega, h2⟩ ?_ ?_
    · rintro j x e hx ⟨l', c', s4', rfl, g1, g2⟩
      obtain ⟨hj, rfl⟩ := rng_get hx
      exact row2 (by omega) g1 g2
    · rintro e ⟨l', c', s4', rfl, g1, g2⟩
      rw [Turn_nx]
      rw [rng_len] at g1
      exact ⟨l', _, _, _, _, rfl, by omega, g2⟩
def RR (x : D) : Prop := ∃ l : List Int, x = .list (il l) ∧ l.length ≤ 2520 ∧ Sm l
theorem row_ok (ns : List Int) (hn : ns.length ≤ 63) : ∃ x, Fdef.run ⟨1, 6, b3⟩ Φ F [.list (il ns)] = .ok x ∧ RR x := by
  refine run_of rfl ?_
  have hs := srcK_rn (n := ns.length) (by omega)
  simp only [b3, x_cons, x_own, e_lst, es_nil, Res.bind_ok, Out.ofR_ok, List.map_cons, List.map_nil, List.replicate_succ, List.replicate_zero, Nat.reduceSub, List.cons_append, List.nil_append]
  rw [ownK_l (by simp)]
  simp [hs]
  refine Is.for (fun i e => K3 ns i e) ⟨[], _, _, _, _, rfl, by simp, fun x h => by simp at h⟩ ?_ ?_
  · rintro i x e hx ⟨l', s2, s3, s4, s5, rfl, h1, h2⟩
    obtain ⟨hi, rfl⟩ := rng_get hx
    rw [Int.zero_add]
    exact row3 hn hi h1 h2
  · rintro e ⟨l', s2, s3, s4, s5, rfl, h1, h2⟩
    rw [rng_len] at h1
    simp
    exact ⟨l', rfl, by omega, h2⟩
/-! ### a number of the row -/
theorem at_ok {l : List Int} (h : Sm l) (hl : l.length ≤ 1000000) {i : Nat} : ∃ v : Nat, v < 1009 ∧ Fdef.run ⟨2, 2, b4⟩ Φ F [.list (il l), .int i] = .ok (.int v) := by
  by_cases hi : i < l.length
  · have hix := idx_il (l := l) (i := (i : Int)) (by omega) (by simpa using hi)
    have hb := h _ (List.getElem_mem (l := l) (n := ((i : Int)).toNat) (by simpa using hi))
    generalize l[((i : Int)).toNat]'(by simpa using hi) = v at hix hb
    obtain ⟨w, rfl⟩ := Int.eq_ofNat_of_zero_le hb.1
    refine ⟨w, by omega, run_ret rfl ?_⟩
    have c1 : cmpD .le (.int 0) (.int (i : Int)) = some true := by show some (decide _) = _; rw [decide_eq_true (by omega)]
    have c2 : chK2 .lt (.int (i : Int)) (.int (l.length : Int)) = .ok (.bool true) := by show Res.ok (PyData.bool (decide _)) = _; rw [decide_eq_true (by omega)]
    simp [b4, c1, c2, hix]
  · refine ⟨0, by decide, run_ret rfl ?_⟩
    have c1 : cmpD .le (.int 0) (.int (i : Int)) = some true := by show some (decide _) = _; rw [decide_eq_true (by omega)]
    have c2 : chK2 .lt (.int (i : Int)) (.int (l.length : Int)) = .ok (.bool false) := by show Res.ok (PyData.bool (decide _)) = _; rw [decide_eq_false (by omega)]
    simp [b4, c1, c2]
end
end My

set_option Elab.async false
set_option linter.all false
set_option maxRecDepth 100000
set_option maxHeartbeats 1000000
namespace My
open PySem PySem.Spec PyProof.Rows L2 Rf
/-! ### what tokens do, in lists of signs -/
theorem tw_app {p : Nat → Bool} : ∀ {u t : List Nat}, (u.takeWhile p).length < u.length → (u ++ t).takeWhile p = u.takeWhile p
  | [], _, h => by simp at h
  | a :: u, t, h => by
    rw [List.cons_append, List.takeWhile_cons, List.takeWhile_cons]
    rw [List.takeWhile_cons] at h
    cases hp : p a with
    | true =>
      rw [hp] at h
      simp only [if_true, List.length_cons] at h ⊢
      rw [tw_app (by omega)]
    | false => simp
/-- a token that ends within u does not hang on what follows -/
theorem tokAt_app {u w t : List Nat} (h : tokAt u = some w) (hl : w.length < u.length) : tokAt (u ++ t) = some w := by
  have hpos := (tokAt_len h).1
  have hu : 0 < u.length := by omega
  unfold tokAt at h ⊢
  by_cases h1 : u.takeWhile isL ≠ []
  · rw [if_pos h1] at h
    cases h
    rw [tw_app hl, if_pos h1]
  · have h1' : u.takeWhile isL = [] := by simpa using h1
    rw [if_neg h1] at h
    have e1 : (u ++ t).takeWhile isL = [] := by rw [tw_app (by rw [h1']; exact hu), h1']
    rw [e1, if_neg (by simp)]
    by_cases h2 : u.takeWhile isD ≠ []
    · rw [if_pos h2] at h
      have hd : (u.takeWhile isD).length < u.length := by
        by_cases h3 : u.takeWhile isD = [50] ∧ (u.drop 1).take 1 = [94]
        · have := congrArg List.length h3.2
          simp at this
          rw [h3.1]; simp; omega
        · rw [if_neg h3] at h
          cases h
          exact hl
      rw [tw_app hd, if_pos h2]
      have e2 : ((u ++ t).drop 1).take 1 = (u.drop 1).take 1 ∨ u.length = 1 := by
        match u, hu with
        | [a], _ => exact .inr rfl
        | a :: b :: r, _ => exact .inl rfl
      rcases e2 with e2 | e2
      · rw [e2]; exact h
      · omega
    · have h2' : u.takeWhile isD = [] := by simpa using h2
      rw [if_neg h2] at h
      have e2 : (u ++ t).takeWhile isD = [] := by rw [tw_app (by rw [h2']; exact hu), h2']
      rw [e2, if_neg (by simp)]
      cases u with
      | nil => simp at hu
      | cons a u =>
        cases u with
        | nil => simp only [List.length_cons, List.length_nil] at hl; omega
        | cons b r => exact h
/-- more fuel -/
theorem toks_fuel : ∀ {k : Nat} {t : List Nat} {ts : List (List Nat)}, toks k t = some ts → toks (k + 1) t = some ts
  | 0, _, _, h => by simp [toks] at h
  | k + 1, [], ts, h => h
  | k + 1, c :: r, ts, h => by
    simp only [toks] at h ⊢
    by_cases h32 : c = 32
    · rw [if_pos h32] at h ⊢; exact toks_fuel h
    · rw [if_neg h32] at h ⊢
      cases hT : tokAt (c :: r) with
      | none => rw [hT] at h; cases h
      | some w =>
        rw [hT] at h
        simp only [] at h ⊢
        cases hq : toks k ((c :: r).drop w.length) with
        | none => rw [hq] at h; cases h
        | some us => rw [hq] at h; rw [toks_fuel hq]; exact h
/-- enough fuel is enough -/
theorem toks_any {k : Nat} {t : List Nat} {ts : List (List Nat)} (h : toks k t = some ts) : ∀ j, toks (k + j) t = some ts
  | 0 => h
  | j + 1 => toks_fuel (toks_any h j)
/-- the text t is read as ts -/
def Reads (t : List Nat) (ts : List (List Nat)) : Prop := ∃ k, toks k t = some ts
theorem Reads.nil : Reads [] [] := ⟨1, rfl⟩
theorem Reads.sp {t : List Nat} {ts : List (List Nat)} (h : Reads t ts) : Reads (32 :: t) ts := by
  obtain ⟨k, h⟩ := h
  exact ⟨k + 1, by simp only [toks, if_true, h]⟩
theorem Reads.sps {t : List Nat} {ts : List (List Nat)} (h : Reads t ts) : ∀ n, Reads (List.replicate n 32 ++ t) ts
  | 0 => h
  | n + 1 => by rw [List.replicate_succ, List.cons_append]; exact (Reads.sps h n).sp
theorem Reads.tok {w t : List Nat} {ts : List (List Nat)} (h : Reads t ts) (hw : tokAt (w ++ t) = some w) (hs : ∀ c, w.head? = some c → c ≠ 32) : Reads (w ++ t) (w :: ts) := by
  obtain ⟨k, h⟩ := h
  refine ⟨k + 1, ?_⟩
  have hp := (tokAt_len hw).1
  cases w with
  | nil => simp at hp
  | cons a w =>
    have ha : a ≠ 32 := hs a rfl
    rw [List.cons_append] at hw ⊢
    simp only [toks, if_neg ha, hw]
    rw [show (a :: (w ++ t)).drop (a :: w).length = t by rw [← List.cons_append]; exact List.drop_left, h]
    rfl
end My

set_option Elab.async false
set_option linter.all false
set_option maxRecDepth 100000
set_option maxHeartbeats 0
namespace My
open PySem PySem.Spec PyProof.Rows L2 Rf
/-! ### the tokens of the numbers 0..1008, by the kernel -/
def marks : List (List Nat) := [[43], [45], [42], [60, 60], [62, 62], [40], [41], [44], [61], [59], [123], [125], [60], [60, 61], [61, 61], [33, 61], [50, 94]]
def let32 : List Nat := (List.range 26).map (· + 97) ++ [65, 66, 67, 88, 89, 90]
def dig10 : List Nat := (List.range 10).map (· + 48)
def TK (x : Nat) : List Nat :=
  if x % 3 = 0 then marks.getD (x / 3 % 17) []
  else
    let sg := if x % 2 = 0 then let32 else dig10
    (List.range (1 + x / 3 % (if x % 2 = 0 then 5 else 20))).map fun k => sg.getD ((x * 7 + k * k + 3 * k) % sg.length) 0
def chk (x : Nat) : Bool := match Fdef.run ⟨1, 5, b5⟩ (phi TB 2000 5) 2000 [.int x] with
  | .ok (.str z) => z == S (TK x)
  | _ => false
theorem chk_all : (List.range 1009).all chk = true := by decide +kernel
/-- last and first sign that may not meet without a gap -/
def meetB (w : List Nat) (c : Nat) : Bool :=
  let z := w.getLastD 0
  (isL z && isL c) || (isD z && isD c) || ([60, 62, 61, 33].contains z && [60, 62, 61].contains c) || (decide (w = [50]) && decide (c = 94))
theorem tw_full {p : Nat → Bool} : ∀ {w : List Nat}, w.all p = true → w.takeWhile p = w
  | [], _ => rfl
  | a :: w, h => by
    rw [List.all_cons, Bool.and_eq_true] at h
    rw [List.takeWhile_cons, h.1, if_pos rfl, tw_full h.2]
theorem tw_stop {p : Nat → Bool} {c : Nat} (hc : p c = false) : ∀ {w : List Nat}, w.all p = true → (w ++ [c]).takeWhile p = w
  | [], _ => by simp [List.takeWhile_cons, hc]
  | a :: w, h => by
    rw [List.all_cons, Bool.and_eq_true] at h
    rw [List.cons_append, List.takeWhile_cons, h.1, if_pos rfl, tw_stop hc h.2]
theorem dig_not : ∀ {w : List Nat}, w ≠ [] → w.all isD = true → ∀ t, (w ++ t).takeWhile isL = []
  | [], h, _, _ => absurd rfl h
  | a :: w, _, h, t => by
    rw [List.all_cons, Bool.and_eq_true] at h
    have : isL a = false := by
      have := h.1
      unfold isD at this
      unfold isL
      simp only [Bool.and_eq_true, decide_eq_true_eq] at this
      simp only [Bool.or_eq_false_iff, Bool.and_eq_false_iff, decide_eq_false_iff_not]
      omega
    rw [List.cons_append, List.takeWhile_cons, this]
    rfl
theorem next_L {w : List Nat} {c : Nat} (hw : w ≠ []) (h : w.all isL = true) (hc : isL c = false) : tokAt (w ++ [c]) = some w := by
  unfold tokAt
  rw [tw_stop hc h, if_pos hw]
theorem self_L {w : List Nat} (hw : w ≠ []) (h : w.all isL = true) : tokAt w = some w := by
  unfold tokAt
  rw [tw_full h, if_pos hw]
theorem next_D {w : List Nat} {c : Nat} (hw : w ≠ []) (h : w.all isD = true) (hc : isD c = false) (h2 : w = [50] → c ≠ 94) : tokAt (w ++ [c]) = some w := by
  unfold tokAt
  rw [dig_not hw h, if_neg (by simp), tw_stop hc h, if_pos hw]
  rw [if_neg]
  rintro ⟨rfl, h3⟩
  simp at h3
  exact h2 rfl h3
theorem self_D {w : List Nat} (hw : w ≠ []) (h : w.all isD = true) : tokAt w = some w := by
  have e := dig_not hw h []
  rw [List.append_nil] at e
  unfold tokAt
  rw [e, if_neg (by simp), tw_full h, if_pos hw]
  rw [if_neg]
  rintro ⟨rfl, h3⟩
  simp at h3
theorem next_M : ∀ w ∈ marks, tokAt w = some w ∧ ∀ c ∈ CH, meetB w c = true ∨ tokAt (w ++ [c]) = some w := by decide +kernel
def kind (x : Nat) : Bool := let w := TK x
  !w.isEmpty && decide (w.length ≤ 20) && (w.all fun c => CH.contains c && c != 32) && (w.all isL || w.all isD || marks.contains w)
theorem kind_all : (List.range 1009).all kind = true := by decide +kernel
end My

set_option Elab.async false
set_option linter.all false
set_option maxRecDepth 100000
set_option maxHeartbeats 1000000
namespace My
open PySem PySem.Spec PyProof.Rows L2 Rf
theorem last_all {p : Nat → Bool} : ∀ {w : List Nat}, w ≠ [] → w.all p = true → p (w.getLastD 0) = true
  | [], h, _ => absurd rfl h
  | [a], _, h => by simpa using h
  | a :: b :: w, _, h => by
    rw [List.all_cons, Bool.and_eq_true] at h
    have := last_all (w := b :: w) (by simp) h.2
    simpa [List.getLastD] using this
structure TokW (w : List Nat) : Prop where
  ne : w ≠ []
  len : w.length ≤ 20
  ch : ∀ c ∈ w, c ∈ CH ∧ c ≠ 32
  self : tokAt w = some w
  next : ∀ c ∈ CH, meetB w c = false → tokAt (w ++ [c]) = some w
theorem tok_ok {x : Nat} (hx : x < 1009) : TokW (TK x) := by
  have h := List.all_eq_true.mp kind_all x (List.mem_range.mpr hx)
  unfold kind at h
  generalize TK x = w at h
  simp only [Bool.and_eq_true, Bool.or_eq_true, decide_eq_true_eq, Bool.not_eq_true'] at h
  obtain ⟨⟨⟨h1, h2⟩, h3⟩, h4⟩ := h
  have hne : w ≠ [] := fun e => by subst e; simp at h1
  have hch : ∀ c ∈ w, c ∈ CH ∧ c ≠ 32 := fun c hc => by
    have := List.all_eq_true.mp h3 c hc
    simp only [Bool.and_eq_true, bne_iff_ne] at this
    exact ⟨by simpa using this.1, this.2⟩
  rcases h4 with (hL | hD) | hM
  · refine ⟨hne, h2, hch, self_L hne hL, fun c _ hm => next_L hne hL ?_⟩
    have hl := last_all hne hL
    unfold meetB at hm
    simp only [Bool.or_eq_false_iff, hl, Bool.true_and] at hm
    exact hm.1.1.1
  · have hl := last_all hne hD
    refine ⟨hne, h2, hch, self_D hne hD, fun c _ hm => ?_⟩
    unfold meetB at hm
    simp only [Bool.or_eq_false_iff, hl, Bool.true_and] at hm
    refine next_D hne hD hm.1.1.2 fun e z => ?_
    have := hm.2
    rw [decide_eq_true e, decide_eq_true z] at this
    exact absurd this (by decide)
  · have hm := next_M w (by simpa using hM)
    exact ⟨hne, h2, hch, hm.1, fun c hc hz => (hm.2 c hc).resolve_left (by rw [hz]; decide)⟩
end My

set_option Elab.async false
set_option linter.all false
set_option maxRecDepth 100000
set_option maxHeartbeats 8000000
namespace My
open PySem PySem.Spec PyProof.Rows L2 Rf
section
variable {Φ : FT} {F n : Nat}
/-! ### _law_meet -/
abbrev L52 : Str := "abcdefghijklmnopqrstuvwxyzABCDEFGHIJKLMNOPQRSTUVWXYZ"
theorem in_a : ∀ c ∈ CH, inD (.str (S [c])) (.str (Str.ofString "<>=!")) = some ([60, 62, 61, 33].contains c) := by decide +kernel
theorem in_b : ∀ c ∈ CH, inD (.str (S [c])) (.str (Str.ofString "<>=")) = some ([60, 62, 61].contains c) := by decide +kernel
theorem cin {c : Nat} {z : Str} {k : Bool} (h : inD (.str (S [c])) (.str z) = some k) : cmpK .isin (.str (S [c])) (.str z) = .ok (.bool k) := by
  show Res.of ((inD (.str (S [c])) (.str z)).map PyData.bool) = _
  rw [h]; rfl
theorem meet_ok {w v : List Nat} {c : Nat} (hw : w ≠ []) (hl : w.length ≤ 20) (hc : ∀ c ∈ w, c ∈ CH) (hv : v.length ≤ 20) (hv0 : v[0]? = some c) (hcc : c ∈ CH) : Fdef.run ⟨2, 3, b6⟩ Φ F [.str (S w), .str (S v)] = .ok (.bool (meetB w c)) := by
  have hz : w.length ≤ line := by unfold line; omega
  have hz2 : v.length ≤ line := by unfold line; omega
  have i2 := idx_S hv0 hz2
  rw [show ((0 : Nat) : Int) = 0 from rfl] at i2
  obtain ⟨u, z, rfl⟩ : ∃ u z, w = u ++ [z] := ⟨w.dropLast, w.getLast hw, (List.dropLast_concat_getLast hw).symm⟩
  have i1 : idxK (.str (S (u ++ [z]))) (.int (-1)) = .ok (.str (S [z])) := by
    have e : idxD (.str (S (u ++ [z]))) (.int (-1)) = some (.str (S [z])) := by
      show (if (S (u ++ [z])).length ≤ line then (L2.atI (S (u ++ [z])).cps.toList (-1)).map fun c => PyData.str (S [c]) else none) = _
      rw [if_pos (by rw [S_len]; exact hz)]
      show (L2.atI (u ++ [z]) (-1)).map _ = _
      rw [atI_last]
      rfl
    rw [idxK, e]; rfl
  have zc : z ∈ CH := hc z (by simp)
  have a1 := cin (in_let z zc)
  have a2 := cin (in_let c hcc)
  have a3 := cin (in_dig z zc)
  have a4 := cin (in_dig c hcc)
  have a5 := cin (in_a z zc)
  have a6 := cin (in_b c hcc)
  have e2 : (Str.ofString "2") = S [50] := by decide +kernel
  have e3 : (Str.ofString "^") = S [94] := by decide +kernel
  have q1 := cmpK_eqS (i := S (u ++ [z])) (j := S [50]) (S_ok hc) (S_ok (by decide))
  have q2 := cmpK_eqS (i := S [c]) (j := S [94]) (S_ok (by simpa using hcc)) (S_ok (by decide))
  rw [S_inj, ← e2] at q1
  rw [S_inj, ← e3] at q2
  have hlast : (u ++ [z]).getLastD 0 = z := by simp
  have hB : meetB (u ++ [z]) c = ((isL z && isL c) || (isD z && isD c) || ([60, 62, 61, 33].contains z && [60, 62, 61].contains c) || (decide (u ++ [z] = [50]) && decide ([c] = [94]))) := by
    unfold meetB
    rw [hlast]
    simp
  rw [hB]
  generalize isL z = k1 at a1
  generalize isL c = k2 at a2
  generalize isD z = k3 at a3
  generalize isD c = k4 at a4
  generalize [60, 62, 61, 33].contains z = k5 at a5
  generalize [60, 62, 61].contains c = k6 at a6
  generalize decide (u ++ [z] = [50]) = k7 at q1
  generalize decide ([c] = [94]) = k8 at q2
  refine run_ret rfl ?_
  generalize S (u ++ [z]) = w at i1 q1
  cases k1 <;> cases k2 <;> cases k3 <;> cases k4 <;> cases k5 <;> cases k6 <;> cases k7 <;> cases k8 <;> simp [b6, i1, i2, a1, a2, a3, a4, a5, a6, q1, q2]
end
end My

set_option Elab.async false
set_option linter.all false
set_option maxRecDepth 100000
set_option maxHeartbeats 1000000
namespace My
open PySem PySem.Spec PyProof.Rows L2 Rf
/-! ### enough fuel is any fuel -/
theorem toks_det : ∀ (N : Nat) {t : List Nat} {m k : Nat}, t.length ≤ N → t.length < m → t.length < k → toks m t = toks k t
  | _, _, 0, _, _, h, _ => absurd h (Nat.not_lt_zero _)
  | _, _, _, 0, _, _, h => absurd h (Nat.not_lt_zero _)
  | _, [], m + 1, k + 1, _, _, _ => rfl
  | 0, c :: r, _ + 1, _ + 1, h, _, _ => by simp at h
  | N + 1, c :: r, m + 1, k + 1, h, h1, h2 => by
    simp only [List.length_cons] at h h1 h2
    simp only [toks]
    by_cases h32 : c = 32
    · rw [if_pos h32, if_pos h32]
      exact toks_det N (by omega) (by omega) (by omega)
    · rw [if_neg h32, if_neg h32]
      cases hT : tokAt (c :: r) with
      | none => rfl
      | some w =>
        have hl := tokAt_len hT
        simp only [List.length_cons] at hl
        have e := toks_det N (t := (c :: r).drop w.length) (m := m) (k := k) (by rw [List.length_drop, List.length_cons]; omega) (by rw [List.length_drop, List.length_cons]; omega) (by rw [List.length_drop, List.length_cons]; omega)
        simp only [e]
theorem Reads.toks {t : List Nat} {ts : List (List Nat)} (h : Reads t ts) : My.toks (t.length + 1) t = some ts := by
  obtain ⟨k, h⟩ := h
  have h2 := toks_any h (t.length + 1)
  rw [← h2]
  exact toks_det t.length (Nat.le_refl _) (by omega) (by omega)
/-! ### the joined text -/
def Compat (l u : List Nat) : Prop := u = [] ∨ ∃ c u', u = c :: u' ∧ c ∈ CH ∧ meetB l c = false
structure Joined (t : List Nat) (ts : List (List Nat)) (l : List Nat) : Prop where
  ch : ∀ c ∈ t, c ∈ CH
  run : ∀ u us, Reads u us → Compat l u → Reads (t ++ u) (ts ++ us)
theorem meet_sp {l : List Nat} : meetB l 32 = false := by
  unfold meetB
  simp [isL, isD]
theorem meet_nil {c : Nat} : meetB [] c = false := by
  unfold meetB
  simp [isL, isD]
theorem ch_sp : ∀ {g : Nat}, ∀ c ∈ List.replicate g 32, c ∈ CH := fun {g} c hc => by
  rw [List.eq_of_mem_replicate hc]; decide
theorem compat_sp {l u : List Nat} {g : Nat} (h : g = 0 → Compat l u) : Compat l (List.replicate g 32 ++ u) := by
  cases g with
  | zero => exact h rfl
  | succ g => exact .inr ⟨32, List.replicate g 32 ++ u, rfl, by decide, meet_sp⟩
theorem Joined.start (p : Nat) : Joined (List.replicate p 32) [] [] := ⟨ch_sp, fun u us h _ => h.sps p⟩
theorem Joined.step {t : List Nat} {ts : List (List Nat)} {l w : List Nat} (h : Joined t ts l) (hw : TokW w) {g : Nat} (hg : g = 0 → ∀ c u, w = c :: u → meetB l c = false) : Joined (t ++ List.replicate g 32 ++ w) (ts ++ [w]) w := by
  refine ⟨fun c hc => ?_, fun u us hu hcu => ?_⟩
  · rcases List.mem_append.mp hc with hc | hc
    · rcases List.mem_append.mp hc with hc | hc
      · exact h.ch c hc
      · exact ch_sp c hc
    · exact (hw.ch c hc).1
  · have e1 : t ++ List.replicate g 32 ++ w ++ u = t ++ (List.replicate g 32 ++ (w ++ u)) := by simp [List.append_assoc]
    have e2 : ts ++ [w] ++ us = ts ++ (w :: us) := by simp
    rw [e1, e2]
    have hT : tokAt (w ++ u) = some w := by
      rcases hcu with rfl | ⟨c, u', rfl, hc, hm⟩
      · rw [List.append_nil]; exact hw.self
      · have := tokAt_app (t := u') (hw.next c hc hm) (by rw [List.length_append]; simp)
        rw [List.append_assoc] at this
        exact this
    refine h.run _ _ ((hu.tok hT fun c hc => ?_).sps g) (compat_sp fun g0 => ?_)
    · exact (hw.ch c (List.mem_of_mem_head? hc)).2
    · cases hww : w with
      | nil => exact absurd hww hw.ne
      | cons c v => exact .inr ⟨c, v ++ u, rfl, (hw.ch c (by rw [hww]; exact List.mem_cons_self ..)).1, hg g0 c v hww⟩
theorem Joined.read {t : List Nat} {ts : List (List Nat)} {l : List Nat} (h : Joined t ts l) (q : Nat) : Reads (t ++ List.replicate q 32) ts := by
  have := h.run (List.replicate q 32 ++ []) [] (Reads.nil.sps q) (compat_sp fun _ => .inl rfl)
  rw [List.append_nil, List.append_nil] at this
  exact this
/-! ### refused -/
theorem isL32 : isL 32 = false := by decide
theorem isD32 : isD 32 = false := by decide
theorem tw_sp {p : Nat → Bool} (hp : p 32 = false) : ∀ {a R : List Nat}, ((a ++ 32 :: R).takeWhile p).length ≤ a.length
  | [], R => by rw [List.nil_append, List.takeWhile_cons, hp]; simp
  | c :: a, R => by
    rw [List.cons_append, List.takeWhile_cons]
    cases p c with
    | true =>
      have := tw_sp hp (a := a) (R := R)
      simp only [if_true, List.length_cons]; omega
    | false => simp
theorem lg_two : ∀ w ∈ LG, w.length = 2 ∧ w[1]? ≠ some 32 := by decide
theorem tok_sp {a R w : List Nat} (ha : a ≠ []) (h : tokAt (a ++ 32 :: R) = some w) : w.length ≤ a.length := by
  unfold tokAt at h
  split at h
  · cases h; exact tw_sp isL32
  · split at h
    · split at h
      · rename_i h3
        cases h
        match a, ha, h3 with
        | [d], _, h3 => simp at h3
        | d :: e :: a, _, _ => simp
      · cases h; exact tw_sp isD32
    · split at h
      · rename_i h3
        cases h
        match a, ha, h3 with
        | [d], _, h3 =>
          have := (lg_two _ (by simpa using h3)).2
          simp at this
        | d :: e :: a, _, _ => simp
      · match a, ha, h with
        | d :: a, _, h =>
          rw [List.cons_append] at h
          simp only [] at h
          split at h
          · cases h; simp
          · cases h
theorem refuse {c : Nat} {b : List Nat} (hc : c ≠ 32) (hb : tokAt (c :: 32 :: b) = none) : ∀ (k : Nat) (a : List Nat), toks k (a ++ 32 :: c :: 32 :: b) = none
  | 0, _ => rfl
  | k + 1, [] => by
    rw [List.nil_append]
    simp only [toks, if_true]
    cases k with
    | zero => rfl
    | succ k => simp only [toks, if_neg hc, hb]
  | k + 1, d :: a => by
    rw [List.cons_append]
    simp only [toks]
    by_cases hd : d = 32
    · rw [if_pos hd]; exact refuse hc hb k a
    · rw [if_neg hd]
      cases hT : tokAt (d :: (a ++ 32 :: c :: 32 :: b)) with
      | none => rfl
      | some w =>
        have := tok_sp (a := d :: a) (by simp) hT
        have e : (d :: (a ++ 32 :: c :: 32 :: b)).drop w.length = (d :: a).drop w.length ++ 32 :: c :: 32 :: b := by
          rw [← List.cons_append, List.drop_append_of_le_length this]
        simp only [e, refuse hc hb k, Option.map_none]
def BADS : List (List Nat) := [[33], [94], [62], [35], [46], [95], [50, 32, 94], [47], [38], [63]]
theorem refuse_bad {w : List Nat} (hw : w ∈ BADS) (k : Nat) (a b : List Nat) : toks k (a ++ [32] ++ w ++ [32] ++ b) = none := by
  have g : ∀ c a, c ≠ 32 → tokAt (c :: 32 :: b) = none → toks k (a ++ [32] ++ [c] ++ [32] ++ b) = none := fun c a h1 h2 => by
    have := refuse h1 h2 k a
    simpa using this
  have g2 : toks k (a ++ [32] ++ [50, 32, 94] ++ [32] ++ b) = none := by
    have := refuse (c := 94) (b := b) (by decide) rfl k (a ++ [32, 50])
    simpa using this
  simp only [BADS, List.mem_cons, List.not_mem_nil, or_false] at hw
  rcases hw with rfl | rfl | rfl | rfl | rfl | rfl | rfl | rfl | rfl | rfl
  · exact g _ _ (by decide) rfl
  · exact g _ _ (by decide) rfl
  · exact g _ _ (by decide) rfl
  · exact g _ _ (by decide) rfl
  · exact g _ _ (by decide) rfl
  · exact g _ _ (by decide) rfl
  · exact g2
  · exact g _ _ (by decide) rfl
  · exact g _ _ (by decide) rfl
  · exact g _ _ (by decide) rfl
end My

set_option Elab.async false
set_option linter.all false
set_option maxRecDepth 100000
set_option maxHeartbeats 4000000
namespace My
open PySem PySem.Spec PyProof.Rows L2 Rf
section
variable {F n : Nat}
theorem S_app {a b : List Nat} : S a ++ S b = S (a ++ b) := by
  show (⟨a.toArray ++ b.toArray⟩ : Str) = _
  simp
theorem add_S {a b : List Nat} (h : a.length + b.length ≤ 1000000) : binK .add (.str (S a)) (.str (S b)) = .ok (.str (S (a ++ b))) := by
  rw [binK_str (by rw [S_len, S_len]; exact h), S_app]
theorem rep_ch {c : Nat} {g : Nat} (h : g ≤ 1000000) : binK .rep (.str (S [c])) (.int (g : Int)) = .ok (.str (S (List.replicate g c))) := by
  have e : binD .rep (.str (S [c])) (.int (g : Int)) = some (.str (S (List.replicate g c))) := by
    show (if (S [c]).length = 1 ∧ (g : Int) ≤ 1000000 ∧ -1000000 ≤ (g : Int) then some (PyData.str (S (List.replicate (g : Int).toNat ((S [c]).cps.toList.headD 0)))) else none) = _
    rw [if_pos ⟨S_len, by omega, by omega⟩]
    rfl
  rw [binK, e]; rfl
abbrev sl (l : List (List Nat)) : List D := l.map fun t => .str (S t)
theorem sl_lay : ∀ {l : List (List Nat)}, (∀ t ∈ l, ∀ c ∈ t, c ∈ CH) → PyData.canLayAll0 (sl l) = true
  | [], _ => by simp only [List.map_nil, PyData.canLayAll0]
  | t :: l, h => by
    simp only [List.map_cons, PyData.canLayAll0, PyData.canLay0, S_ok (h t (List.mem_cons_self ..)), Bool.true_and]
    exact sl_lay fun u hu => h u (List.mem_cons_of_mem _ hu)
theorem sl_depth : ∀ {l : List (List Nat)}, PyData.depthAll (sl l) ≤ 1
  | [] => by simp [PyData.depthAll]
  | t :: l => by
    have : PyData.depthAll (l.map fun t => PyData.str (S t)) ≤ 1 := sl_depth (l := l)
    simp only [List.map_cons, PyData.depthAll, PyData.depth]
    omega
theorem ne_self {l : List (List Nat)} (h : ∀ t ∈ l, ∀ c ∈ t, c ∈ CH) : cmpK .ne (.list (sl l)) (.list (sl l)) = .ok (.bool false) := by
  have h1 : (PyData.list (sl l)).canLay0 = true := by simp only [PyData.canLay0, sl_lay h]
  have h2 : (PyData.list (sl l)).depth ≤ 190 := by
    have := sl_depth (l := l)
    simp only [PyData.depth]
    omega
  have e : cmpD .ne (.list (sl l)) (.list (sl l)) = some false := by
    show (if eqOk _ _ then some (!PyData.eqv (.list (sl l)) (.list (sl l))) else none) = _
    rw [if_pos (by unfold eqOk; rw [h1, Nat.min_self, decide_eq_true h2]; rfl), PySem.SeqAt.eqv_refl _ h1]
    rfl
  rw [cmpK, e]; rfl
/-! ### the calls -/
theorem c_row (ns : List Int) (hn : ns.length ≤ 63) : ∃ l : List Int, phi TB F (n + 1) 3 [.list (il ns)] = .ok (.list (il l)) ∧ l.length ≤ 2520 ∧ Sm l := by
  obtain ⟨x, h1, l, rfl, h2, h3⟩ := row_ok (Φ := phi TB F n) (F := F) ns hn
  exact ⟨l, (phi_succ rfl).trans h1, h2, h3⟩
theorem c_at {l : List Int} (h : Sm l) (hl : l.length ≤ 1000000) : ∃ A : Nat → Nat, ∀ i, A i < 1009 ∧ phi TB F (n + 1) 4 [.list (il l), .int (i : Nat)] = .ok (.int (A i : Nat)) := by
  have : ∀ i : Nat, ∃ v : Nat, v < 1009 ∧ phi TB F (n + 1) 4 [.list (il l), .int (i : Nat)] = .ok (.int v) := fun i => by
    obtain ⟨v, h1, h2⟩ := at_ok (Φ := phi TB F n) (F := F) h hl (i := i)
    exact ⟨v, h1, (phi_succ rfl).trans h2⟩
  exact ⟨fun i => Classical.choose (this i), fun i => Classical.choose_spec (this i)⟩
theorem c_token (hn : n = 5) {x : Nat} (hx : x < 1009) : phi TB 2000 (n + 1) 5 [.int x] = .ok (.str (S (TK x))) := by
  subst hn
  have h := List.all_eq_true.mp chk_all x (List.mem_range.mpr hx)
  have e : phi TB 2000 (5 + 1) 5 [.int x] = Fdef.run ⟨1, 5, b5⟩ (phi TB 2000 5) 2000 [.int x] := phi_succ rfl
  rw [e]
  unfold chk at h
  revert h
  generalize Fdef.run ⟨1, 5, b5⟩ (phi TB 2000 5) 2000 [.int x] = r
  intro h
  split at h
  · rename_i z
    have : z = S (TK x) := by simpa using h
    rw [this]
  · cases h
theorem c_meet {w v u : List Nat} {c : Nat} (hw : TokW w) (hv : TokW v) (hc : v = c :: u) : phi TB F (n + 1) 6 [.str (S w), .str (S v)] = .ok (.bool (meetB w c)) :=
  (phi_succ rfl).trans (meet_ok hw.ne hw.len (fun c hc => (hw.ch c hc).1) hv.len (by rw [hc]; rfl) (hv.ch c (by rw [hc]; exact List.mem_cons_self ..)).1)
theorem c_tokens {l : List Nat} (hl : l.length ≤ 1000) (hc : ∀ c ∈ l, c ∈ CH) (hF : l.length < F) : phi TB F (n + 3) 2 [.str (S l)] = match toks (l.length + 1) l with
      | some ts => .ok (.list (sl ts))
      | none => .ex 2 := (phi_succ rfl).trans (tokens_ok hl hc hF)
theorem c_reads {l : List Nat} {ts : List (List Nat)} (h : Reads l ts) (hl : l.length ≤ 1000) (hc : ∀ c ∈ l, c ∈ CH) (hF : l.length < F) : phi TB F (n + 3) 2 [.str (S l)] = .ok (.list (sl ts)) := by
  rw [c_tokens hl hc hF, h.toks]
theorem c_long {l : List Nat} (hl : 1000 < l.length) (hl2 : l.length ≤ 1000000) : phi TB F (n + 3) 2 [.str (S l)] = .ex 2 := (phi_succ rfl).trans (tokens_long hl hl2)
theorem c_refused {x : D} (h : phi TB F (n + 3) 2 [x] = .ex 2) : phi TB F (n + 4) 7 [x] = .ok (.bool true) := by
  refine (phi_succ rfl).trans (run_ret rfl ?_)
  simp only [b7, x_cons, List.map_cons, List.map_nil, List.replicate_succ, List.replicate_zero, Nat.reduceSub, List.cons_append, List.nil_append]
  have e : Rf.execs (phi TB F (n + 3)) F [.expr (.call 2 [.var 0])] [.d x, .un] = .ex 2 [.d x, .un] := by
    simp [Rf.execs, Rf.exec, h]
  simp only [Rf.exec, e]
  rfl
theorem c_ref_bad {a b w : List Nat} (hw : w ∈ BADS) (hl : (a ++ [32] ++ w ++ [32] ++ b).length ≤ 1000) (hc : ∀ c ∈ a ++ [32] ++ w ++ [32] ++ b, c ∈ CH) (hF : (a ++ [32] ++ w ++ [32] ++ b).length < F) : phi TB F (n + 4) 7 [.str (S (a ++ [32] ++ w ++ [32] ++ b))] = .ok (.bool true) := by
  refine c_refused ?_
  rw [c_tokens hl hc hF, refuse_bad hw]
end
end My

set_option Elab.async false
set_option linter.all false
set_option maxRecDepth 100000
set_option maxHeartbeats 4000000
namespace My
open PySem PySem.Spec PyProof.Rows L2 Rf
section
variable {k : Nat}
def md (x m : Nat) : Nat := x % m
theorem md_lt {x m : Nat} (h : 0 < m) : md x m < m := Nat.mod_lt _ h
theorem md_ok {x m : Nat} (h : 0 < m) : binK .mod (.int (x : Nat)) (.int (m : Nat)) = .ok (.int (md x m : Nat)) := by
  rw [binK_mod (by omega)]
  unfold md
  rw [Int.natCast_emod]
abbrev st8 (sc : D) (l : List Int) : Sl := [.d sc, .d (.list (il l)), .un, .un, .un, .un, .un, .un]
def W (A : Nat → Nat) (i : Nat) : List Nat := TK (A (2 * i + 1))
def La (A : Nat → Nat) : Nat → List Nat
  | 0 => []
  | i + 1 => W A i
def Ws (A : Nat → Nat) (g : Nat) : List (List Nat) := (List.range g).map (W A)
theorem Ws_succ {A : Nat → Nat} {g : Nat} : Ws A (g + 1) = Ws A g ++ [W A g] := by
  unfold Ws
  rw [List.range_succ, List.map_append]
  rfl
theorem Ws_get {A : Nat → Nat} {g i : Nat} (h : i < g) : (sl (Ws A g))[i]? = some (.str (S (W A i))) := by
  unfold Ws sl
  rw [List.getElem?_map, List.getElem?_map, List.getElem?_range h]
  rfl
structure At (k : Nat) (A : Nat → Nat) (l : List Int) : Prop where
  lt : ∀ i, A i < 1009
  call : ∀ i : Nat, phi TB 2000 (k + 4) 4 [.list (il l), .int (i : Nat)] = .ok (.int (A i : Nat))
theorem W_tok {A : Nat → Nat} {l : List Int} (hA : At k A l) (i : Nat) : TokW (W A i) := tok_ok (hA.lt _)
theorem comp8 {A : Nat → Nat} {l : List Int} (hA : At k A l) (hk : k + 3 = 5) {sc : D} {g : Nat} (hg : g ≤ 1000) : compK (phi TB 2000 (k + 4)) x8_1 (.nm 4) [] [.d sc, .d (.list (il l)), .un, .un, .un, .un, .un, .un] (rngD 0 g) = .ok (.list (sl (Ws A g))) := by
  have hcomp : compL (ev (phi TB 2000 (k + 4)) x8_1) (evt (phi TB 2000 (k + 4)) []) (.nm 4) (rngD 0 g) (wipeS [.d sc, .d (.list (il l)), .un, .un, .un, .un, .un, .un] (Tgt.nm 4).ix) = .ok ((rngD 0 g).map fun x => match x with
      | .int j => .str (S (W A j.toNat))
      | _ => .none) := by
    refine compL_all (fun e => et_nil) _ fun x hx => ?_
    obtain ⟨i, _, rfl⟩ := List.mem_map.mp hx
    refine ⟨_, rfl, ?_⟩
    have ai : phi TB 2000 (k + 4) 4 [.list (il l), .int (2 * (i : Int) + 1)] = .ok (.int (A (2 * i + 1) : Nat)) := by
      have := hA.call (2 * i + 1)
      rwa [show ((2 * i + 1 : Nat) : Int) = 2 * (i : Int) + 1 by omega] at this
    have tk := c_token hk (hA.lt (2 * i + 1))
    simp [x8_1, ai, tk, W, wipeS, Tgt.ix]
  unfold compK
  rw [hcomp]
  have e : ((rngD 0 g).map fun x : D => match x with
      | .int j => PyData.str (S (W A j.toNat))
      | _ => .none) = sl (Ws A g) := by
    unfold rngD sl Ws
    rw [List.map_map, List.map_map]
    refine List.map_congr_left fun i _ => ?_
    simp
  rw [e]
  have hz : decide ((rngD 0 g).length ≤ line) = true := decide_eq_true (by rw [rng_len]; unfold line; omega)
  have hf : Rf.freeOf [.d sc, .d (.list (il l)), .un, .un, .un, .un, .un, .un] (Tgt.nm 4).ix = true := rfl
  rw [hz, hf]
  rfl
theorem head8 {A : Nat → Nat} {ns l : List Int} (hrow : phi TB 2000 (k + 4) 3 [.list (il ns)] = .ok (.list (il l))) (hA : At k A l) (hk : k + 3 = 5) :
    Rf.execs (phi TB 2000 (k + 4)) 2000 (b8.take 3) [.d (.list (il ns)), .un, .un, .un, .un, .un, .un, .un] = .nx [.d (.list (il ns)), .d (.list (il l)), .d (.list (sl (Ws A (md (A 0) 31)))), .d (.str (S (List.replicate (md (A 70) 3) 32))), .un, .un, .un, .un] := by
  have a0 : phi TB 2000 (k + 4) 4 [.list (il l), .int 0] = .ok (.int (A 0 : Nat)) := hA.call 0
  have a70 : phi TB 2000 (k + 4) 4 [.list (il l), .int 70] = .ok (.int (A 70 : Nat)) := hA.call 70
  have m0 : binK .mod (.int (A 0 : Nat)) (.int 31) = .ok (.int (md (A 0) 31 : Nat)) := md_ok (m := 31) (by decide)
  have m70 : binK .mod (.int (A 70 : Nat)) (.int 3) = .ok (.int (md (A 70) 3 : Nat)) := md_ok (m := 3) (by decide)
  have g0 : md (A 0) 31 < 31 := md_lt (by decide)
  have g70 : md (A 70) 3 < 3 := md_lt (by decide)
  have r0 := srcK_rn (n := md (A 0) 31) (by omega)
  have e1 : (Str.ofString " ") = S [32] := by decide +kernel
  have rp := rep_ch (c := 32) (g := md (A 70) 3) (by omega)
  rw [← e1] at rp
  have hc := comp8 (sc := .list (il ns)) hA hk (g := md (A 0) 31) (by omega)
  simp only [b8, List.take_succ_cons, List.take_zero]
  simp [hrow, a0, m0, r0, hc, a70, m70, rp, -binK_mod]
theorem turn8 {A : Nat → Nat} {l : List Int} (hA : At k A l) {i g : Nat} (hi : i < g) (hg : g ≤ 31) {t : List Nat} (hJ : Joined t (Ws A i) (La A i)) (hlen : t.length ≤ 2 + 22 * i) {sc : D} {s5 : Slot} :
    ∃ (t' : List Nat) (s5' : Slot), Rf.execs (phi TB 2000 (k + 4)) 2000 b8_2 [.d sc, .d (.list (il l)), .d (.list (sl (Ws A g))), .d (.str (S t)), .d (.int (i : Nat)), s5, .un, .un] = .nx [.d sc, .d (.list (il l)), .d (.list (sl (Ws A g))), .d (.str (S t')), .d (.int (i : Nat)), s5', .un, .un] ∧ Joined t' (Ws A (i + 1)) (La A (i + 1)) ∧ t'.length ≤ 2 + 22 * (i + 1) := by
  have ai : phi TB 2000 (k + 4) 4 [.list (il l), .int (2 * (i : Int) + 2)] = .ok (.int (A (2 * i + 2) : Nat)) := by
    have := hA.call (2 * i + 2)
    rwa [show ((2 * i + 2 : Nat) : Int) = 2 * (i : Int) + 2 by omega] at this
  have mi : binK .mod (.int (A (2 * i + 2) : Nat)) (.int 3) = .ok (.int (md (A (2 * i + 2)) 3 : Nat)) := md_ok (m := 3) (by decide)
  have gi : md (A (2 * i + 2)) 3 < 3 := md_lt (by decide)
  generalize md (A (2 * i + 2)) 3 = g0 at mi gi
  have ix : idxK (.list (sl (Ws A g))) (.int (i : Int)) = .ok (.str (S (W A i))) := by
    have e : idxD (.list (sl (Ws A g))) (.int (i : Int)) = some (.str (S (W A i))) := by
      show L2.atI _ _ = _
      exact atI_at (by omega) (by simpa using Ws_get hi)
    rw [idxK, e]; rfl
  have e1 : (Str.ofString " ") = S [32] := by decide +kernel
  have tw := W_tok hA i
  have wl := tw.len
  have rp := rep_ch (c := 32) (g := g0) (by omega)
  have m2 : binK .mod (.int (g0 : Nat)) (.int 2) = .ok (.int (md g0 2 : Nat)) := md_ok (m := 2) (by decide)
  have g2 : md g0 2 < 2 := md_lt (by decide)
  have rp2 := rep_ch (c := 32) (g := 1 + md g0 2) (by omega)
  rw [show ((1 + md g0 2 : Nat) : Int) = 1 + ((md g0 2 : Nat) : Int) by omega] at rp2
  generalize md g0 2 = g1 at m2 g2 rp2
  rw [← e1] at rp rp2
  have ad1 := add_S (a := t) (b := List.replicate g0 32) (by simp; omega)
  have ad2 := add_S (a := t ++ List.replicate g0 32) (b := W A i) (by simp; omega)
  have ad3 := add_S (a := t) (b := List.replicate (1 + g1) 32) (by simp; omega)
  have ad4 := add_S (a := t ++ List.replicate (1 + g1) 32) (b := W A i) (by simp; omega)
  have J : ∀ h : Nat, h ≤ 2 → (h = 0 → ∀ c u, W A i = c :: u → meetB (La A i) c = false) → Joined (t ++ List.replicate h 32 ++ W A i) (Ws A (i + 1)) (La A (i + 1)) ∧ (t ++ List.replicate h 32 ++ W A i).length ≤ 2 + 22 * (i + 1) := fun h h1 h2 => by
    refine ⟨?_, by simp; omega⟩
    rw [Ws_succ]
    exact hJ.step tw h2
  cases i with
  | zero =>
    refine ⟨t ++ List.replicate g0 32 ++ W A 0, .d (.int (g0 : Nat)), ?_, J g0 (by omega) fun _ c u _ => meet_nil⟩
    have ai : phi TB 2000 (k + 4) 4 [.list (il l), .int 2] = .ok (.int (A (2 * 0 + 2) : Nat)) := hA.call 2
    have ix : idxK (.list (sl (Ws A g))) (.int 0) = .ok (.str (S (W A 0))) := ix
    simp only [b8_2]
    simp [ai, mi, ix, rp, ad1, ad2, -binK_mod]
  | succ i =>
    have ix1 : idxK (.list (sl (Ws A g))) (.int (i : Int)) = .ok (.str (S (W A i))) := by
      have e : idxD (.list (sl (Ws A g))) (.int (i : Int)) = some (.str (S (W A i))) := by
        show L2.atI _ _ = _
        exact atI_at (by omega) (by simpa using Ws_get (show i < g by omega))
      rw [idxK, e]; rfl
    have e3 : ((i + 1 : Nat) : Int) - 1 = (i : Int) := by omega
    have pos : (0 : Int) < ((i + 1 : Nat) : Int) := by omega
    generalize ((i + 1 : Nat) : Int) = z at *
    obtain ⟨c, u, hcu⟩ : ∃ c u, W A (i + 1) = c :: u := by
      cases h : W A (i + 1) with
      | nil => exact absurd h tw.ne
      | cons c u => exact ⟨c, u, rfl⟩
    have cm := c_meet (F := 2000) (n := k + 3) (W_tok hA i) tw hcu
    cases hm : meetB (W A i) c with
    | true =>
      rw [hm] at cm
      refine ⟨t ++ List.replicate (1 + g1) 32 ++ W A (i + 1), .d (.int (1 + (g1 : Nat))), ?_, J (1 + g1) (by omega) fun h => by omega⟩
      simp only [b8_2]
      simp [ai, mi, ix, ix1, e3, pos, cm, m2, rp2, ad3, ad4, -binK_mod]
    | false =>
      rw [hm] at cm
      refine ⟨t ++ List.replicate g0 32 ++ W A (i + 1), .d (.int (g0 : Nat)), ?_, J g0 (by omega) fun _ c' u' h => ?_⟩
      · simp only [b8_2]
        simp [ai, mi, ix, ix1, e3, pos, cm, rp, ad1, ad2, -binK_mod]
      · rw [hcu] at h
        cases h
        exact hm
end
end My

set_option Elab.async false
set_option linter.all false
set_option maxRecDepth 100000
set_option maxHeartbeats 4000000
namespace My
open PySem PySem.Spec PyProof.Rows L2 Rf
section
variable {k : Nat}
abbrev BL : List D := [.str "!", .str "^", .str ">", .str "#", .str ".", .str "_", .str "2 ^", .str "/", .str "&", .str "?"]
theorem pick_all : (List.range 10).all (fun j => match idxK (.list BL) (.int (j : Nat)) with
    | .ok (.str z) => BADS.any fun w => z == S w
    | _ => false) = true := by decide +kernel
theorem pick_bad {j : Nat} (h : j < 10) : ∃ w ∈ BADS, idxK (.list BL) (.int (j : Nat)) = .ok (.str (S w)) := by
  have e := List.all_eq_true.mp pick_all j (List.mem_range.mpr h)
  revert e
  generalize idxK (.list BL) (.int (j : Nat)) = r
  intro e
  split at e
  · rename_i z
    obtain ⟨w, hw, hz⟩ := List.any_eq_true.mp e
    have : z = S w := by simpa using hz
    exact ⟨w, hw, by rw [this]⟩
  · cases e
theorem bads : ∀ w ∈ BADS, w.length ≤ 3 ∧ ∀ c ∈ w, c ∈ CH := by decide
theorem ne_nil : cmpK .ne (.list []) (.list []) = .ok (.bool false) := ne_self (l := []) fun t h => absurd h (List.not_mem_nil)
theorem ones : TokW (List.replicate 1000 49) → True := fun _ => trivial
theorem ch_ones : ∀ c ∈ List.replicate 1000 49, c ∈ CH := fun c hc => by rw [List.eq_of_mem_replicate hc]; decide
theorem reads_ones : Reads (List.replicate 1000 49) [List.replicate 1000 49] := by
  have hD : (List.replicate 1000 49).all isD = true := by
    rw [List.all_eq_true]
    intro c hc
    rw [List.eq_of_mem_replicate hc]; decide
  have hT := self_D (w := List.replicate 1000 49) (by simp) hD
  have := Reads.tok (w := List.replicate 1000 49) (t := []) Reads.nil (by rw [List.append_nil]; exact hT) fun c hc => by
    have := List.eq_of_mem_replicate (List.mem_of_mem_head? hc)
    rw [this]; decide
  rwa [List.append_nil] at this
theorem reads_sp : Reads (List.replicate 1000 32) [] := by
  have := Reads.sps Reads.nil 1000
  rwa [List.append_nil] at this
theorem e_sp : (Str.ofString " ") = S [32] := by decide +kernel
theorem e_one : (Str.ofString "1") = S [49] := by decide +kernel
/-- the last tests -/
theorem end8 {e : Sl} : Rf.execs (phi TB 2000 (k + 4)) 2000 (b8.drop 9) e = .ret (.bool true) := by
  have r1 : binK .rep (.str (Str.ofString " ")) (.int 1000) = .ok (.str (S (List.replicate 1000 32))) := by rw [e_sp]; exact rep_ch (by decide)
  have r2 : binK .rep (.str (Str.ofString " ")) (.int 1001) = .ok (.str (S (List.replicate 1001 32))) := by rw [e_sp]; exact rep_ch (by decide)
  have r3 : binK .rep (.str (Str.ofString "1")) (.int 1000) = .ok (.str (S (List.replicate 1000 49))) := by rw [e_one]; exact rep_ch (by decide)
  have c1 := c_reads (F := 2000) (n := k + 1) reads_sp (by simp) ch_sp (by simp)
  have c2 := c_refused (c_long (F := 2000) (n := k) (l := List.replicate 1001 32) (by simp) (by simp))
  have c3 := c_reads (F := 2000) (n := k + 1) reads_ones (by simp) ch_ones (by simp)
  have q3 := ne_self (l := [List.replicate 1000 49]) fun t h => by
    rw [List.mem_singleton] at h; rw [h]; exact ch_ones
  have q1 := ne_nil
  rw [show k + 1 + 3 = k + 4 by omega] at c1 c3
  simp only [sl, List.map_nil, List.map_cons] at c1 c3 q3
  generalize List.replicate 1000 32 = A1 at *
  generalize List.replicate 1001 32 = A2 at *
  generalize List.replicate 1000 49 = A3 at *
  simp only [b8, List.drop_succ_cons, List.drop_zero]
  simp [r1, r2, r3, c1, c2, c3, q1, q3]
abbrev mid8 : List Stm := (b8.drop 4).take 5
theorem split8 : b8 = b8.take 3 ++ (b8.drop 3).take 1 ++ mid8 ++ b8.drop 9 := rfl
theorem mid8_ok {A : Nat → Nat} {l : List Int} (hA : At k A l) {g : Nat} {t w : List Nat} (hJ : Joined t (Ws A g) w) (hlen : t.length ≤ 700) {sc : D} {s4 s5 : Slot} :
    ∃ e', Rf.execs (phi TB 2000 (k + 4)) 2000 mid8 [.d sc, .d (.list (il l)), .d (.list (sl (Ws A g))), .d (.str (S t)), s4, s5, .un, .un] = .nx e' := by
  have a71 : phi TB 2000 (k + 4) 4 [.list (il l), .int 71] = .ok (.int (A 71 : Nat)) := hA.call 71
  have a72 : phi TB 2000 (k + 4) 4 [.list (il l), .int 72] = .ok (.int (A 72 : Nat)) := hA.call 72
  have a73 : phi TB 2000 (k + 4) 4 [.list (il l), .int 73] = .ok (.int (A 73 : Nat)) := hA.call 73
  have m71 : binK .mod (.int (A 71 : Nat)) (.int 3) = .ok (.int (md (A 71) 3 : Nat)) := md_ok (m := 3) (by decide)
  have m72 : binK .mod (.int (A 72 : Nat)) (.int 10) = .ok (.int (md (A 72) 10 : Nat)) := md_ok (m := 10) (by decide)
  have g71 : md (A 71) 3 < 3 := md_lt (by decide)
  have g72 : md (A 72) 10 < 10 := md_lt (by decide)
  generalize md (A 71) 3 = q at m71 g71
  generalize md (A 72) 10 = j at m72 g72
  obtain ⟨v, hv, pb⟩ := pick_bad g72
  obtain ⟨v1, v2⟩ := bads v hv
  have rp := rep_ch (c := 32) (g := q) (by omega)
  rw [← e_sp] at rp
  have hr := hJ.read q
  have ad := add_S (a := t) (b := List.replicate q 32) (by simp; omega)
  have hch : ∀ c ∈ t ++ List.replicate q 32, c ∈ CH := fun c hc => by
    rcases List.mem_append.mp hc with hc | hc
    · exact hJ.ch c hc
    · exact ch_sp c hc
  have hl2 : (t ++ List.replicate q 32).length ≤ 702 := by simp; omega
  generalize t ++ List.replicate q 32 = T at hr ad hch hl2
  have hW : ∀ t ∈ Ws A g, ∀ c ∈ t, c ∈ CH := fun t ht c hc => by
    obtain ⟨i, _, rfl⟩ := List.mem_map.mp ht
    exact ((W_tok hA i).ch c hc).1
  have ln := len_S (a := T) (by omega)
  have c1 := c_reads (F := 2000) (n := k + 1) hr (by omega) hch (by omega)
  rw [show k + 1 + 3 = k + 4 by omega] at c1
  have q1 := ne_self hW
  have m73 : binK .mod (.int (A 73 : Nat)) (.int ((T.length : Int) + 1)) = .ok (.int (md (A 73) (T.length + 1) : Nat)) := md_ok (m := T.length + 1) (by omega)
  generalize md (A 73) (T.length + 1) = cut at m73
  have hz : (S T).length ≤ line := by rw [S_len]; unfold line; omega
  have s1 : slK (.str (S T)) none (some (cut : Int)) = .ok (.str (S (T.take cut))) := by
    rw [slK_s hz]
    show Res.ok (PyData.str (S (Rf.cutD T _ _))) = _
    rw [cut_to]
  have s2 : slK (.str (S T)) (some (cut : Int)) none = .ok (.str (S (T.drop cut))) := by
    rw [slK_s hz]
    show Res.ok (PyData.str (S (Rf.cutD T _ _))) = _
    rw [cut_from]
  have hcut : (T.take cut).length ≤ T.length := by rw [List.length_take]; omega
  have hcut2 : (T.drop cut).length ≤ T.length := by rw [List.length_drop]; omega
  have d1 := add_S (a := T.take cut) (b := [32]) (by simp; omega)
  have d2 := add_S (a := T.take cut ++ [32]) (b := v) (by simp; omega)
  have d3 := add_S (a := T.take cut ++ [32] ++ v) (b := [32]) (by simp; omega)
  have d4 := add_S (a := T.take cut ++ [32] ++ v ++ [32]) (b := T.drop cut) (by simp; omega)
  have hl3 : (T.take cut ++ [32] ++ v ++ [32] ++ T.drop cut).length ≤ 1000 := by
    have : (T.take cut).length + (T.drop cut).length = T.length := by rw [← List.length_append, List.take_append_drop]
    simp only [List.length_append, List.length_cons, List.length_nil]
    omega
  have hc3 : ∀ c ∈ T.take cut ++ [32] ++ v ++ [32] ++ T.drop cut, c ∈ CH := fun c hc => by
    simp only [List.mem_append, List.mem_singleton] at hc
    rcases hc with (((hc | hc) | hc) | hc) | hc
    · exact hch c (List.mem_of_mem_take hc)
    · rw [hc]; decide
    · exact v2 c hc
    · rw [hc]; decide
    · exact hch c (List.mem_of_mem_drop hc)
  have c2 := c_ref_bad (F := 2000) (n := k) hv hl3 hc3 (by omega)
  rw [← e_sp] at d1 d3
  have t1 : (T.length : Int) ≤ 1000 := by omega
  have t2 : (T.length : Int) ≤ 990 := by omega
  have t3 : T.length ≤ 1000 := by omega
  have t4 : T.length ≤ 990 := by omega
  generalize T.take cut ++ [32] ++ v ++ [32] ++ T.drop cut = T5 at *
  generalize T.take cut ++ [32] ++ v ++ [32] = T4 at *
  generalize T.take cut ++ [32] ++ v = T3 at *
  generalize T.take cut ++ [32] = T2 at *
  generalize T.take cut = T1 at *
  generalize T.drop cut = T0 at *
  generalize (T.length : Int) = z at *
  refine ⟨[.d sc, .d (.list (il l)), .d (.list (sl (Ws A g))), .d (.str (S T)), s4, s5, .d (.str (S v)), .d (.int cut)], ?_⟩
  generalize sl (Ws A g) = due at *
  simp only [mid8, b8, List.drop_succ_cons, List.drop_zero, List.take_succ_cons, List.take_zero]
  simp [a71, m71, rp, ad, ln, t1, t2, t3, t4, c1, q1, a72, m72, pb, a73, m73, s1, s2, d1, d2, d3, d4, c2, -binK_mod]
theorem execs_app {Φ : FT} {F : Nat} : ∀ {a b : List Stm} {e : Sl}, Rf.execs Φ F (a ++ b) e = (Rf.execs Φ F a e).seq (Rf.execs Φ F b)
  | [], b, e => by simp
  | s :: a, b, e => by
    rw [List.cons_append, x_cons, x_cons]
    cases Rf.exec Φ F s e with
    | nx e' => simp [execs_app (a := a)]
    | _ => rfl
def JJ (A : Nat → Nat) (sc : D) (l : List Int) (g : Nat) (i : Nat) (e : Sl) : Prop := ∃ (t : List Nat) (s4 s5 : Slot), e = [.d sc, .d (.list (il l)), .d (.list (sl (Ws A g))), .d (.str (S t)), s4, s5, .un, .un] ∧ Joined t (Ws A i) (La A i) ∧ t.length ≤ 2 + 22 * i
theorem law_body (ns : List Int) (hn : ns.length ≤ 63) (hk : k + 3 = 5) : Is (Ret fun x => x = .bool true) (Rf.execs (phi TB 2000 (k + 4)) 2000 b8 [.d (.list (il ns)), .un, .un, .un, .un, .un, .un, .un]) := by
  obtain ⟨l, hrow, hl, hs⟩ := c_row (F := 2000) (n := k + 3) ns hn
  obtain ⟨A, hA'⟩ := c_at (F := 2000) (n := k + 3) hs (by omega)
  have hA : At k A l := ⟨fun i => (hA' i).1, fun i => (hA' i).2⟩
  have g0 : md (A 0) 31 < 31 := md_lt (by decide)
  have g70 : md (A 70) 3 < 3 := md_lt (by decide)
  rw [split8, List.append_assoc, List.append_assoc, execs_app, head8 hrow hA hk]
  simp only [Out.seq_nx]
  generalize md (A 0) 31 = g at *
  generalize md (A 70) 3 = p at *
  rw [execs_app]
  have hsr := srcK_rn (n := g) (by omega)
  have hln : (sl (Ws A g)).length = g := by simp [sl, Ws]
  have e4 : (b8.drop 3).take 1 = [.for (.nm 4) .rng [(.blt .len [(.var 2)])] b8_2] := rfl
  rw [e4]
  have hst : ∀ e0 : Sl, e0[2]? = some (.d (.list (sl (Ws A g)))) → Rf.execs (phi TB 2000 (k + 4)) 2000 [.for (.nm 4) .rng [(.blt .len [(.var 2)])] b8_2] e0 = forL (Rf.execs (phi TB 2000 (k + 4)) 2000 b8_2) (.nm 4) (rngD 0 g) e0 := fun e0 h => by
    simp only [x_cons, x_nil, x_for, es_cons, es_nil, e_blt, e_var, h, varK_d, Res.bind_ok, bltK_lenL, hln, hsr, Out.ofR_ok, seq_nil]
  rw [hst _ rfl]
  refine Is.for (fun i e => JJ A (.list (il ns)) l g i e) ⟨_, _, _, rfl, Joined.start p, by simp; omega⟩ ?_ ?_
  · rintro i x e hx ⟨t, s4, s5, rfl, hJ, hlen⟩
    obtain ⟨hi, rfl⟩ := rng_get hx
    rw [Int.zero_add]
    obtain ⟨t', s5', h1, h2, h3⟩ := turn8 hA hi (by omega) hJ hlen (sc := .list (il ns)) (s5 := s5)
    have hb : turnB (Rf.execs (phi TB 2000 (k + 4)) 2000 b8_2) (.nm 4) (.int (i : Nat)) [.d (.list (il ns)), .d (.list (il l)), .d (.list (sl (Ws A g))), .d (.str (S t)), s4, s5, .un, .un] = _ := h1
    rw [hb, Turn_nx]
    exact ⟨t', _, _, rfl, h2, h3⟩
  · rintro e ⟨t, s4, s5, rfl, hJ, hlen⟩
    rw [rng_len] at hJ hlen
    obtain ⟨e', h1⟩ := mid8_ok hA hJ (by omega) (sc := .list (il ns)) (s4 := s4) (s5 := s5)
    rw [execs_app, h1]
    simp only [Out.seq_nx]
    rw [end8, Ret_ret]
theorem law_run (ns : List Int) (hn : ns.length ≤ 63) (hk : k + 3 = 5) : Fdef.run ⟨1, 8, b8⟩ (phi TB 2000 (k + 4)) 2000 [.list (il ns)] = .ok (.bool true) := by
  have h := run_of (fn := ⟨1, 8, b8⟩) (Φ := phi TB 2000 (k + 4)) (F := 2000) (args := [.list (il ns)]) (Q := fun x => x = .bool true) rfl (by
    simp only [List.map_cons, List.map_nil, List.replicate_succ, List.replicate_zero, Nat.reduceSub, List.cons_append, List.nil_append]
    exact law_body ns hn hk)
  cases h with
  | intro x h =>
  rw [h.1]
  have e : x = .bool true := h.2
  rw [e]
theorem pure_gen (ns : List Int) (hl : ns.length ≤ 63) {m : Nat} (h : m = k + 4) (hk : k + 3 = 5) : phi TB 2000 (m + 1) 8 [.list (il ns)] = .ok (.bool true) := by
  subst h
  exact (phi_succ (fn := ⟨1, 8, b8⟩) rfl).trans (law_run ns hl hk)
theorem pure_law (ns : List Int) (hl : ns.length ≤ 63) : phi TB 2000 (6 + 1) 8 [.list (ns.map .int)] = .ok (.bool true) := pure_gen (k := 2) ns hl rfl rfl
end
end My

set_option maxRecDepth 100000
set_option maxHeartbeats 2000000
namespace My
open PySem PySem.Spec PyProof.Rows L2 Rf
theorem all_mk {l : PySem.W.OpenLaw} {w : World} {K : PySem.W.Frag} {h : Heap} {mg : Str → Option Value} {fa f0 f1 f2 f3 f4 f5 f6 f7 f8 : Addr} (X : K.In h) (G : h.Ns mainGlobals mg) (hfa : mg "law" = some (.ref fa))
    {od0 an0 od1 an1 od2 an2 od3 an3 od4 an4 od5 an5 od6 an6 od7 an7 od8 an8 : Option Addr} {sl0 sl1 sl2 sl3 sl4 sl5 sl6 sl7 sl8 : Array (Option Value)} {oc0 kV0 dc0 pm0 cd0 ct0 oc1 kV1 dc1 pm1 cd1 ct1 oc2 kV2 dc2 pm2 cd2 ct2 oc3 kV3 dc3 pm3 cd3 ct3 oc4 kV4 dc4 pm4 cd4 ct4 oc5 kV5 dc5 pm5 cd5 ct5 oc6 kV6 dc6 pm6 cd6 ct6 oc7 kV7 dc7 pm7 cd7 ct7 oc8 kV8 dc8 pm8 cd8 ct8 : Value}
    (a0 : PySem.W.nsIn K mainGlobals "run_length" = some (some (.ref f0))) (l0 : K.lookup f0 = some ⟨oc0, od0, .func (PySem.W.fnOf "run_length" "run_length" (defArgs s0) (defBody s0) (defScope s0) .none kV0 dc0 pm0 an0 cd0 ct0), sl0⟩) (c0 : PySem.W.codeIn K cd0 "run_length" = true) (k0 : PySem.W.keepIn K (.ref f0) = true)
    (a1 : PySem.W.nsIn K mainGlobals "token_at" = some (some (.ref f1))) (l1 : K.lookup f1 = some ⟨oc1, od1, .func (PySem.W.fnOf "token_at" "token_at" (defArgs s1) (defBody s1) (defScope s1) .none kV1 dc1 pm1 an1 cd1 ct1), sl1⟩) (c1 : PySem.W.codeIn K cd1 "token_at" = true) (k1 : PySem.W.keepIn K (.ref f1) = true)
    (a2 : PySem.W.nsIn K mainGlobals "tokens" = some (some (.ref f2))) (l2 : K.lookup f2 = some ⟨oc2, od2, .func (PySem.W.fnOf "tokens" "tokens" (defArgs s2) (defBody s2) (defScope s2) .none kV2 dc2 pm2 an2 cd2 ct2), sl2⟩) (c2 : PySem.W.codeIn K cd2 "tokens" = true) (k2 : PySem.W.keepIn K (.ref f2) = true)
    (a3 : PySem.W.nsIn K mainGlobals "_law_row" = some (some (.ref f3))) (l3 : K.lookup f3 = some ⟨oc3, od3, .func (PySem.W.fnOf "_law_row" "_law_row" (defArgs s3) (defBody s3) (defScope s3) .none kV3 dc3 pm3 an3 cd3 ct3), sl3⟩) (c3 : PySem.W.codeIn K cd3 "_law_row" = true) (k3 : PySem.W.keepIn K (.ref f3) = true)
    (a4 : PySem.W.nsIn K mainGlobals "_law_at" = some (some (.ref f4))) (l4 : K.lookup f4 = some ⟨oc4, od4, .func (PySem.W.fnOf "_law_at" "_law_at" (defArgs s4) (defBody s4) (defScope s4) .none kV4 dc4 pm4 an4 cd4 ct4), sl4⟩) (c4 : PySem.W.codeIn K cd4 "_law_at" = true) (k4 : PySem.W.keepIn K (.ref f4) = true)
    (a5 : PySem.W.nsIn K mainGlobals "_law_token" = some (some (.ref f5))) (l5 : K.lookup f5 = some ⟨oc5, od5, .func (PySem.W.fnOf "_law_token" "_law_token" (defArgs s5) (defBody s5) (defScope s5) .none kV5 dc5 pm5 an5 cd5 ct5), sl5⟩) (c5 : PySem.W.codeIn K cd5 "_law_token" = true) (k5 : PySem.W.keepIn K (.ref f5) = true)
    (a6 : PySem.W.nsIn K mainGlobals "_law_meet" = some (some (.ref f6))) (l6 : K.lookup f6 = some ⟨oc6, od6, .func (PySem.W.fnOf "_law_meet" "_law_meet" (defArgs s6) (defBody s6) (defScope s6) .none kV6 dc6 pm6 an6 cd6 ct6), sl6⟩) (c6 : PySem.W.codeIn K cd6 "_law_meet" = true) (k6 : PySem.W.keepIn K (.ref f6) = true)
    (a7 : PySem.W.nsIn K mainGlobals "_law_refused" = some (some (.ref f7))) (l7 : K.lookup f7 = some ⟨oc7, od7, .func (PySem.W.fnOf "_law_refused" "_law_refused" (defArgs s7) (defBody s7) (defScope s7) .none kV7 dc7 pm7 an7 cd7 ct7), sl7⟩) (c7 : PySem.W.codeIn K cd7 "_law_refused" = true) (k7 : PySem.W.keepIn K (.ref f7) = true)
    (a8 : PySem.W.nsIn K mainGlobals "law" = some (some (.ref f8))) (l8 : K.lookup f8 = some ⟨oc8, od8, .func (PySem.W.fnOf "law" "law" (defArgs s8) (defBody s8) (defScope s8) .none kV8 dc8 pm8 an8 cd8 ct8), sl8⟩) (c8 : PySem.W.codeIn K cd8 "law" = true) (k8 : PySem.W.keepIn K (.ref f8) = true)
    (z_abs : PySem.W.nsIn K mainGlobals "abs" = some none)
    (z_int : PySem.W.nsIn K mainGlobals "int" = some none)
    (z_isinstance : PySem.W.nsIn K mainGlobals "isinstance" = some none)
    (z_len : PySem.W.nsIn K mainGlobals "len" = some none)
    (z_range : PySem.W.nsIn K mainGlobals "range" = some none)
    {k_DIGITS : Tok} (y_DIGITS : PySem.W.nsIn K mainGlobals "DIGITS" = some (some (.str "0123456789" k_DIGITS)))
    {k_LETTERS : Tok} (y_LETTERS : PySem.W.nsIn K mainGlobals "LETTERS" = some (some (.str "abcdefghijklmnopqrstuvwxyzABCDEFGHIJKLMNOPQRSTUVWXYZ" k_LETTERS)))
    {a_LONG_MARKS : Addr} (y_LONG_MARKS : PySem.W.nsIn K mainGlobals "LONG_MARKS" = some (some (.ref a_LONG_MARKS))) {wa_LONG_MARKS_0 : Tok} {wa_LONG_MARKS_1 : Tok} {wa_LONG_MARKS_2 : Tok} {wa_LONG_MARKS_3 : Tok} {wa_LONG_MARKS_4 : Tok} {oa_LONG_MARKS : Option Addr} {ma_LONG_MARKS : Nat} {sa_LONG_MARKS : Array (Option Value)} (qa_LONG_MARKS : K.lookup a_LONG_MARKS = some ⟨.type "tuple", oa_LONG_MARKS, .seq #[.str "<<" wa_LONG_MARKS_0, .str ">>" wa_LONG_MARKS_1, .str "<=" wa_LONG_MARKS_2, .str "==" wa_LONG_MARKS_3, .str "!=" wa_LONG_MARKS_4] ma_LONG_MARKS, sa_LONG_MARKS⟩)
    {k_MARKS : Tok} (y_MARKS : PySem.W.nsIn K mainGlobals "MARKS" = some (some (.str "+-*(),=;{}<" k_MARKS)))
    {k_MAX_TEXT : Tok} (y_MAX_TEXT : PySem.W.nsIn K mainGlobals "MAX_TEXT" = some (some (.int 1000 k_MAX_TEXT)))
    {A0 : Addr} (xa0 : PySem.W.nsIn K mainGlobals "ReckonError" = some (some (.ref A0))) (xe0 : PySem.W.excIn K A0 [.type "ValueError", .type "Exception", .type "BaseException", .type "object"] "ValueError.__new__" = true) (xk0 : PySem.W.keepIn K (.ref A0) = true) (xb0 : PySem.W.subIn K (.ref A0) (.type "BaseException") = some true) (xt0 : PySem.W.typeIn K (.ref A0) = some (.type "type")) (xd0 : PySem.W.hasDictIn K A0 = true)
    (xg0 : PySem.W.findIn K (.ref A0) "__getattribute__" = some (some (.builtin "BaseException.__getattribute__"))) (xh0 : PySem.W.findIn K (.ref A0) "__getattr__" = some none) (xc0 : PySem.W.findIn K (.ref A0) "__class__" = some (some (.builtin "object.__class__"))) (xm0 : PySem.W.mroIn K A0 (.type "object") = some true)
    {A1 : Addr} (xa1 : PySem.W.nsIn K mainGlobals "NotAllowed" = some (some (.ref A1))) (xe1 : PySem.W.excIn K A1 [.type "ValueError", .type "Exception", .type "BaseException", .type "object"] "ValueError.__new__" = true) (xk1 : PySem.W.keepIn K (.ref A1) = true) (xb1 : PySem.W.subIn K (.ref A1) (.type "BaseException") = some true) (xt1 : PySem.W.typeIn K (.ref A1) = some (.type "type")) (xd1 : PySem.W.hasDictIn K A1 = true)
    (xg1 : PySem.W.findIn K (.ref A1) "__getattribute__" = some (some (.builtin "BaseException.__getattribute__"))) (xh1 : PySem.W.findIn K (.ref A1) "__getattr__" = some none) (xc1 : PySem.W.findIn K (.ref A1) "__class__" = some (some (.builtin "object.__class__"))) (xm1 : PySem.W.mroIn K A1 (.type "object") = some true)
    {A2 : Addr} (xa2 : PySem.W.nsIn K mainGlobals "BadForm" = some (some (.ref A2))) (xe2 : PySem.W.excIn K A2 [.type "ValueError", .type "Exception", .type "BaseException", .type "object"] "ValueError.__new__" = true) (xk2 : PySem.W.keepIn K (.ref A2) = true) (xb2 : PySem.W.subIn K (.ref A2) (.type "BaseException") = some true) (xt2 : PySem.W.typeIn K (.ref A2) = some (.type "type")) (xd2 : PySem.W.hasDictIn K A2 = true)
    (xg2 : PySem.W.findIn K (.ref A2) "__getattribute__" = some (some (.builtin "BaseException.__getattribute__"))) (xh2 : PySem.W.findIn K (.ref A2) "__getattr__" = some none) (xc2 : PySem.W.findIn K (.ref A2) "__class__" = some (some (.builtin "object.__class__"))) (xm2 : PySem.W.mroIn K A2 (.type "object") = some true)
    (xn : PySem.W.specialIn K (.builtin "object.__class__") "__get__" = some (some (.builtin "getset_descriptor.__get__"))) (xo : PySem.W.takesIn K (.builtin "object.__class__") = some true)
    (uk_BadForm_NotAllowed : PySem.W.subIn K (.ref A2) (.ref A1) = some false)
    (vk_BadForm_NotAllowed : (Value.ref A2 == Value.ref A1) = false)
    (uk_BadForm_ReckonError : PySem.W.subIn K (.ref A2) (.ref A0) = some true)
    (s_BadForm_BadForm : PySem.W.subIn K (.ref A2) (.ref A2) = some true)
    : ∃ fd : FuncData, (∀ (s : Shared) (v : Value), BindsTo s fd ⟨[v], []⟩ [("_law_script", v)]) ∧ ∀ base : Heap, K.In base → base.Ns mainGlobals mg → FnOk l.prog w K mg base CX0 7 fa fd ["_law_script"] (spLaw 63 K) := by
  have e := hfa.symm.trans (PySem.W.mg_of X G a8)
  cases e
  have F0 := fun_mk (st := s0) l0 c0 k0
  have T0 : Txt K mg "run_length" s0 p0 := ⟨_, _, F0, PySem.W.mg_of X G a0, F0.binds (ps := p0) fun _ _ _ _ _ _ us hl => match us, hl with | [_, _, _], _ => rfl⟩
  have F1 := fun_mk (st := s1) l1 c1 k1
  have T1 : Txt K mg "token_at" s1 p1 := ⟨_, _, F1, PySem.W.mg_of X G a1, F1.binds (ps := p1) fun _ _ _ _ _ _ us hl => match us, hl with | [_, _], _ => rfl⟩
  have F2 := fun_mk (st := s2) l2 c2 k2
  have T2 : Txt K mg "tokens" s2 p2 := ⟨_, _, F2, PySem.W.mg_of X G a2, F2.binds (ps := p2) fun _ _ _ _ _ _ us hl => match us, hl with | [_], _ => rfl⟩
  have F3 := fun_mk (st := s3) l3 c3 k3
  have T3 : Txt K mg "_law_row" s3 p3 := ⟨_, _, F3, PySem.W.mg_of X G a3, F3.binds (ps := p3) fun _ _ _ _ _ _ us hl => match us, hl with | [_], _ => rfl⟩
  have F4 := fun_mk (st := s4) l4 c4 k4
  have T4 : Txt K mg "_law_at" s4 p4 := ⟨_, _, F4, PySem.W.mg_of X G a4, F4.binds (ps := p4) fun _ _ _ _ _ _ us hl => match us, hl with | [_, _], _ => rfl⟩
  have F5 := fun_mk (st := s5) l5 c5 k5
  have T5 : Txt K mg "_law_token" s5 p5 := ⟨_, _, F5, PySem.W.mg_of X G a5, F5.binds (ps := p5) fun _ _ _ _ _ _ us hl => match us, hl with | [_], _ => rfl⟩
  have F6 := fun_mk (st := s6) l6 c6 k6
  have T6 : Txt K mg "_law_meet" s6 p6 := ⟨_, _, F6, PySem.W.mg_of X G a6, F6.binds (ps := p6) fun _ _ _ _ _ _ us hl => match us, hl with | [_, _], _ => rfl⟩
  have F7 := fun_mk (st := s7) l7 c7 k7
  have T7 : Txt K mg "_law_refused" s7 p7 := ⟨_, _, F7, PySem.W.mg_of X G a7, F7.binds (ps := p7) fun _ _ _ _ _ _ us hl => match us, hl with | [_], _ => rfl⟩
  have FL := fun_mk (st := s8) l8 c8 k8
  refine ⟨PySem.W.fnOf "law" "law" (defArgs s8) (defBody s8) (defScope s8) .none kV8 dc8 pm8 an8 cd8 ct8, fun s v => .of_eq rfl, fun base _ _ => ?_⟩
  obtain ⟨hf_run_length, hf_token_at, hf_tokens, hf__law_row, hf__law_at, hf__law_token, hf__law_meet, hf__law_refused⟩ := all_good (pr := l.prog) (w := w) (K := K) (mg := mg) (base := base) (ca := fun i => [A0, A1, A2].getD i 0) (F := 2000) (PySem.W.mg_none_of X G z_abs) (PySem.W.mg_none_of X G z_int) (PySem.W.mg_none_of X G z_isinstance) (PySem.W.mg_none_of X G z_len) (PySem.W.mg_none_of X G z_range) (PySem.W.mg_of X G y_DIGITS) (PySem.W.mg_of X G y_LETTERS) (PySem.W.mg_of X G y_LONG_MARKS) (PySem.W.mg_of X G y_MARKS) (PySem.W.mg_of X G y_MAX_TEXT) ⟨⟨PySem.W.mg_of X G xa2, xe2, xk2, xb2, xt2⟩, xd2, ⟨xg2, xh2, xb2, xd2, xc2, xn, xo, xm2⟩⟩ ⟨⟨PySem.W.mg_of X G xa1, xe1, xk1, xb1, xt1⟩, xd1, ⟨xg1, xh1, xb1, xd1, xc1, xn, xo, xm1⟩⟩ ⟨⟨PySem.W.mg_of X G xa0, xe0, xk0, xb0, xt0⟩, xd0, ⟨xg0, xh0, xb0, xd0, xc0, xn, xo, xm0⟩⟩ (kit_f xd1 xt1 uk_BadForm_NotAllowed vk_BadForm_NotAllowed) (kit_t xd0 xt0 uk_BadForm_ReckonError) s_BadForm_BadForm (fun av H => .tuple (xs := [.str "<<", .str ">>", .str "<=", .str "==", .str "!="]) (.inr ⟨_, _, _, qa_LONG_MARKS, rfl, rfl, by show 5 ≤ sizeLine; decide, (.cons ⟨_, rfl⟩ (.cons ⟨_, rfl⟩ (.cons ⟨_, rfl⟩ (.cons ⟨_, rfl⟩ (.cons ⟨_, rfl⟩ .nil)))))⟩) (.cons (.str _) (.cons (.str _) (.cons (.str _) (.cons (.str _) (.cons (.str _) .nil)))))) T0 T1 T2 T3 T4 T5 T6 T7 6
  exact law_ok FL sc8 rfl rfl rfl (by decide) (w8 (PySem.W.mg_of X G y_MAX_TEXT) hf__law_at hf__law_meet hf__law_refused hf__law_row hf__law_token hf_tokens (PySem.W.mg_none_of X G z_int) (PySem.W.mg_none_of X G z_len) (PySem.W.mg_none_of X G z_range)) pure_law
end My
open PySem PySem.W PyProof.Rows
set_option maxHeartbeats 0 in
theorem PySem.Challenge.cw_sandreckoner_k25_tokens_holds : PySem.Challenge.rw_sandreckoner_k25_tokens.Holds := by
  w_on; o_law; k_head; (case hw => w_witness2)
  k_fill
  refine L2.walk_of (l := PySem.Challenge.rw_sandreckoner_k25_tokens) (n := 63) (k := 7) (x := "_law_script") (CX := fun _ => L2.CX0) (sp := fun w => Rf.spLaw 63 _) rfl (by decide) rfl ⟨rfl, by decide, by decide⟩ (fun w h Y => PySem.W.kIn_of Y) ?F (fun _ _ a ns hl _ hS => ⟨a, ns, rfl, hS, hl, fun _ => rfl⟩) (fun _ _ _ _ _ h => h)
  case F =>
    intro w mg fa h KX G hmg
    refine' My.all_mk KX G hmg ?a0 ?l0 ?c0 ?k0 ?a1 ?l1 ?c1 ?k1 ?a2 ?l2 ?c2 ?k2 ?a3 ?l3 ?c3 ?k3 ?a4 ?l4 ?c4 ?k4 ?a5 ?l5 ?c5 ?k5 ?a6 ?l6 ?c6 ?k6 ?a7 ?l7 ?c7 ?k7 ?a8 ?l8 ?c8 ?k8 ?z_abs ?z_int ?z_isinstance ?z_len ?z_range ?y_DIGITS ?y_LETTERS ?y_LONG_MARKS ?qa_LONG_MARKS ?y_MARKS ?y_MAX_TEXT ?xa0 ?xe0 ?xk0 ?xb0 ?xt0 ?xd0 ?xg0 ?xh0 ?xc0 ?xm0 ?xa1 ?xe1 ?xk1 ?xb1 ?xt1 ?xd1 ?xg1 ?xh1 ?xc1 ?xm1 ?xa2 ?xe2 ?xk2 ?xb2 ?xt2 ?xd2 ?xg2 ?xh2 ?xc2 ?xm2 ?xn ?xo ?uk_BadForm_NotAllowed ?vk_BadForm_NotAllowed ?uk_BadForm_ReckonError ?s_BadForm_BadForm
    (case a0 => k_is); (case l0 => k_is); (case c0 => k_is); (case k0 => k_is); (case a1 => k_is); (case l1 => k_is); (case c1 => k_is); (case k1 => k_is); (case a2 => k_is); (case l2 => k_is); (case c2 => k_is); (case k2 => k_is); (case a3 => k_is); (case l3 => k_is); (case c3 => k_is); (case k3 => k_is); (case a4 => k_is); (case l4 => k_is); (case c4 => k_is); (case k4 => k_is); (case a5 => k_is); (case l5 => k_is); (case c5 => k_is); (case k5 => k_is); (case a6 => k_is); (case l6 => k_is); (case c6 => k_is); (case k6 => k_is); (case a7 => k_is); (case l7 => k_is); (case c7 => k_is); (case k7 => k_is); (case a8 => k_is); (case l8 => k_is); (case c8 => k_is); (case k8 => k_is); (case z_abs => k_is); (case z_int => k_is); (case z_isinstance => k_is); (case z_len => k_is); (case z_range => k_is); (case y_DIGITS => k_is); (case y_LETTERS => k_is); (case y_LONG_MARKS => k_is); (case qa_LONG_MARKS => k_is); (case y_MARKS => k_is); (case y_MAX_TEXT => k_is); (case xa0 => k_is); (case xe0 => k_exc); (case xk0 => k_is); (case xb0 => k_is); (case xt0 => k_is); (case xd0 => k_is); (case xg0 => k_is); (case xh0 => k_is); (case xc0 => k_is); (case xm0 => k_is); (case xa1 => k_is); (case xe1 => k_exc); (case xk1 => k_is); (case xb1 => k_is); (case xt1 => k_is); (case xd1 => k_is); (case xg1 => k_is); (case xh1 => k_is); (case xc1 => k_is); (case xm1 => k_is); (case xa2 => k_is); (case xe2 => k_exc); (case xk2 => k_is); (case xb2 => k_is); (case xt2 => k_is); (case xd2 => k_is); (case xg2 => k_is); (case xh2 => k_is); (case xc2 => k_is); (case xm2 => k_is); (case xn => k_is); (case xo => k_is); (case uk_BadForm_NotAllowed => k_is); (case vk_BadForm_NotAllowed => rfl); (case uk_BadForm_ReckonError => k_is); (case s_BadForm_BadForm => k_is)
