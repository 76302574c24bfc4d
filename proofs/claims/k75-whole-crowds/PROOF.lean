import PyProof.Rows.All
import Wide.All
import OpenK.AllK
import Wide.FinOn
import HandS.ForMost
import KE.DataEq
import KE.LtData
import KE.DataCmp
import KE.DataMinMax
import KE.SortData
import KE.KDictKeyed
import KE.KDictWalk
import HandS.TupAny
import HandS.Flow
import HandS.IsInst
import HandS.Exc
import PyProof.Rows.SeqMore
import KE.KDictCopyH
import HandS.SortOrd
import HandS.List
import HandS.Zip
import HandS.Iter
import HandS.Comp
import HandS.DictComp
import PyProof.RulesAssignMore
import HandS.RepeatKit
import HandS.Defaults
import HandS.Words
import HandS.HeadHook1
import HandS.HeadHook2
import PySem.Challenge.RW_damptiles_k75_whole_crowds
import HandS.Ends
import HandS.More
import HandS.WordsExc
import HandS.Head0
import HandS.Head1
import HandS.Head2
import HandS.Head3
import HandS.HeadEnd
import KE.KStateDown
import Lean
set_option Elab.async false
set_option linter.all false
section T_PvA
namespace Pv
open PySem

/-! ### data -/
inductive D where
  | non | bl (b : Bool) | int (i : Int) | str (x : Str)
  | tup (xs : List D) | lst (xs : List D) | dic (ks vs : List D)
  | cell (n : Nat) | fn (x : Str) | clo (k : Nat) (cap : List D) | exn (c : Str) (ns : List Str) (vs : List D)
  deriving Inhabited

mutual
def D.beq : D → D → Bool
  | .non, .non => true
  | .bl a, .bl b => a == b
  | .int a, .int b => a == b
  | .str a, .str b => a == b
  | .tup a, .tup b => D.beqs a b
  | .lst a, .lst b => D.beqs a b
  | .dic a b, .dic c d => D.beqs a c && D.beqs b d
  | .cell a, .cell b => a == b
  | .fn a, .fn b => a == b
  | .clo a b, .clo c d => a == c && D.beqs b d
  | .exn a b c, .exn d e f => a == d && b == e && D.beqs c f
  | _, _ => false
def D.beqs : List D → List D → Bool
  | [], [] => true
  | a :: as, b :: bs => D.beq a b && D.beqs as bs
  | _, _ => false
end
mutual
theorem D.beq_iff : ∀ a b : D, D.beq a b = true ↔ a = b
  | .non, b => by cases b <;> simp [D.beq]
  | .bl _, b => by cases b <;> simp [D.beq]
  | .int _, b => by cases b <;> simp [D.beq]
  | .str _, b => by cases b <;> simp [D.beq]
  | .tup a, b => by cases b <;> simp [D.beq, D.beqs_iff a]
  | .lst a, b => by cases b <;> simp [D.beq, D.beqs_iff a]
  | .dic a c, b => by cases b <;> simp [D.beq, D.beqs_iff a, D.beqs_iff c]
  | .cell _, b => by cases b <;> simp [D.beq]
  | .fn _, b => by cases b <;> simp [D.beq]
  | .clo _ a, b => by cases b <;> simp [D.beq, D.beqs_iff a]
  | .exn _ _ a, b => by cases b <;> simp [D.beq, D.beqs_iff a, and_assoc]
theorem D.beqs_iff : ∀ a b : List D, D.beqs a b = true ↔ a = b
  | [], b => by cases b <;> simp [D.beqs]
  | a :: as, b => by cases b <;> simp [D.beqs, D.beq_iff a, D.beqs_iff as]
end
instance : DecidableEq D := fun a b => if h : D.beq a b = true then .isTrue ((D.beq_iff a b).mp h) else .isFalse fun e => h ((D.beq_iff a b).mpr e)

mutual
def toPy : D → Option PyData
  | .non => some .none | .bl b => some (.bool b) | .int i => some (.int i) | .str x => some (.str x)
  | .tup xs => (toPys xs).map .tuple
  | .lst xs => (toPys xs).map .list
  | .dic _ _ => none | .cell _ => none | .fn _ => none | .clo _ _ => none | .exn _ _ _ => none
def toPys : List D → Option (List PyData)
  | [] => some []
  | x :: xs => match toPy x, toPys xs with
    | some a, some b => some (a :: b)
    | _, _ => none
end
mutual
/-- no cell within -/
def flatD : D → Bool
  | .non => true | .bl _ => true | .int _ => true | .str _ => true
  | .tup xs => flatDs xs
  | .lst xs => flatDs xs
  | .dic a b => flatDs a && flatDs b
  | .cell _ => false | .fn _ => true | .clo _ a => flatDs a | .exn _ _ a => flatDs a
def flatDs : List D → Bool
  | [] => true
  | x :: xs => flatD x && flatDs xs
end

/-! ### operations -/
def SZ : Nat := 16777216
def DEEP : Nat := 60
/-- a == b -/
def eqD (a b : D) : Option Bool := match a, b with
  | .int i, .int j => some (decide (i = j))
  | a, b => match toPy a, toPy b with
    | some p, some q => if p.depth ≤ DEEP then some (p.eqv q) else none
    | _, _ => none
def notNone : PyData → Bool
  | .none => false
  | _ => true
/-- a < b -/
def ltD (a b : D) : Option Bool := match a, b with
  | .int i, .int j => some (decide (i < j))
  | a, b => match toPy a, toPy b with
    | some p, some q => if W.alike p q && W.alike q p && notNone p && notNone q && decide (p.depth ≤ DEEP) && decide (q.depth ≤ DEEP) then some (W.dataLt p q) else none
    | _, _ => none
/-- the kind of a key: a tuple (true) of ints, texts, such; an int or text (false) -/
def keyIn : Nat → D → Bool
  | _, .int _ => true
  | _, .str _ => true
  | n + 1, .tup xs => xs.all (keyIn n)
  | _, _ => false
def keyKind : D → Option Bool
  | .int _ => some false
  | .str _ => some false
  | .tup xs => if xs.all (keyIn 6) then some true else none
  | _ => none
def keyOk (ks : List D) (x : D) : Bool := match ks with
  | [] => keyKind x == some true
  | k :: _ => (keyKind x).isSome && (keyKind x == keyKind k)
def dget : List D → List D → D → Option D
  | k :: ks, v :: vs, x => if x = k then some v else dget ks vs x
  | _, _, _ => none
def dputV : List D → List D → D → D → List D
  | k :: ks, v :: vs, x, y => if x = k then y :: vs else v :: dputV ks vs x y
  | _, _, _, y => [y]
def dputK (ks : List D) (x : D) : List D := if x ∈ ks then ks else ks ++ [x]
def inD (x c : D) : Option Bool := match c with
  | .tup ys => match toPy x, toPys ys with
    | some p, some qs => if p.depth ≤ DEEP then some (qs.any fun q => q.eqv p) else none
    | _, _ => none
  | .lst ys => match toPy x, toPys ys with
    | some p, some qs => if p.depth ≤ DEEP then some (qs.any fun q => q.eqv p) else none
    | _, _ => none
  | .dic ks _ => if keyOk ks x then some (decide (x ∈ ks)) else none
  | _ => none
/-- truth -/
def truD : D → Option Bool
  | .non => some false
  | .bl b => some b
  | .int i => some (decide (i ≠ 0))
  | .str x => if x.length ≤ SZ then some (decide (x.length ≠ 0)) else none
  | .tup xs => some (!xs.isEmpty)
  | .lst xs => some (!xs.isEmpty)
  | _ => none
inductive BOp where | add | sub | mul | mod | fdiv | pow
  deriving DecidableEq
def BIG : Int := 18446744073709551616
def binD (op : BOp) (a b : D) : Option D := match op, a, b with
  | .add, .int i, .int j => some (.int (i + j))
  | .sub, .int i, .int j => some (.int (i - j))
  | .mul, .int i, .int j => if (-BIG < i ∧ i < BIG) ∨ (-BIG < j ∧ j < BIG) then some (.int (i * j)) else none
  | .mod, .int i, .int j => if 0 < j then some (.int (i % j)) else none
  | .fdiv, .int i, .int j => if 0 < j ∧ j < 1073741824 then some (.int (i / j)) else none
  | .pow, .int i, .int j => if 0 ≤ j ∧ j ≤ 1000000 ∧ i.natAbs < 18446744073709551616 then some (.int (i ^ j.toNat)) else none
  | .add, .tup xs, .tup ys => if xs.length + ys.length ≤ SZ then some (.tup (xs ++ ys)) else none
  | .add, .lst xs, .lst ys => if xs.length + ys.length ≤ SZ then some (.lst (xs ++ ys)) else none
  | _, _, _ => none
inductive COp where | eq | ne | lt | le | gt | ge | isin | notin | isNone | notNone
  deriving DecidableEq
def cmpD (op : COp) (a b : D) : Option Bool := match op with
  | .eq => eqD a b
  | .ne => (eqD a b).map (!·)
  | .lt => ltD a b
  | .gt => ltD b a
  | .le => (ltD b a).map (!·)
  | .ge => (ltD a b).map (!·)
  | .isin => inD a b
  | .notin => (inD a b).map (!·)
  | .isNone => match b with | .non => some (decide (a = .non)) | _ => none
  | .notNone => match b with | .non => some (decide (a ≠ .non)) | _ => none
def ixD (a i : D) : Option D := match a, i with
  | .tup xs, .int i => L2.atI xs i
  | .lst xs, .int i => L2.atI xs i
  | .dic ks vs, k => if keyOk ks k then dget ks vs k else none
  | _, _ => none
def cutD (xs : List D) (lo hi : Option Int) : List D := (xs.drop (HT.sIx xs.length 0 lo)).take (HT.sIx xs.length xs.length hi - HT.sIx xs.length 0 lo)
def partD : Option D → Option (Option Int)
  | none => some none
  | some (.int i) => some (some i)
  | _ => none
def sliceD (a : D) (lo hi : Option D) : Option D := match partD lo, partD hi with
  | some lo, some hi => (match a with
    | .tup xs => some (.tup (cutD xs lo hi))
    | .lst xs => some (.lst (cutD xs lo hi))
    | _ => none)
  | _, _ => none
def pyD (d : D) : PyData := (toPy d).getD .none
def leD (a b : D) : Bool := !W.dataLt (pyD b) (pyD a)
def alikeD : List PyData → Bool
  | [] => true
  | p :: ps => (p :: ps).all (fun q => (p :: ps).all fun r => W.alike q r)
def fullTup : PyData → Bool
  | .tuple (_ :: _) => true
  | _ => false
def noTup : PyData → Bool
  | .tuple _ => false
  | .none => false
  | _ => true
def sortOkD (ps : List PyData) : Bool := alikeD ps && (ps.all fullTup || ps.all noTup) && ps.all fun p => decide (p.depth ≤ DEEP)
def sortD (xs : List D) : Option (List D) := match toPys xs with
  | some ps => if sortOkD ps then some (xs.mergeSort leD) else if xs.length ≤ 1 then some xs else none
  | none => none
/-- the first least one, the first greatest one -/
def minD : List D → Option D
  | [] => none
  | x :: xs => match toPys (x :: xs) with
    | some ps => if alikeD ps && ps.all (fun p => notNone p && decide (p.depth ≤ DEEP)) then some (xs.foldl (fun a b => if W.dataLt (pyD b) (pyD a) then b else a) x) else none
    | none => none
def maxD : List D → Option D
  | [] => none
  | x :: xs => match toPys (x :: xs) with
    | some ps => if alikeD ps && ps.all (fun p => notNone p && decide (p.depth ≤ DEEP)) then some (xs.foldl (fun a b => if W.dataLt (pyD a) (pyD b) then b else a) x) else none
    | none => none
def blsD : List D → Option (List Bool)
  | [] => some []
  | .bl b :: xs => (blsD xs).map (b :: ·)
  | _ => none
def intsD : List D → Option (List Int)
  | [] => some []
  | .int b :: xs => (intsD xs).map (b :: ·)
  | _ => none
def itemsD : D → Option (List D)
  | .tup xs => some xs
  | .lst xs => some xs
  | .dic ks _ => some ks
  | _ => none
inductive Ty where | int | bool | tuple | list | str | dict
  deriving DecidableEq
def isTy : D → Ty → Option Bool
  | .non, _ => some false
  | .bl _, t => some (t == .int || t == .bool)
  | .int _, t => some (t == .int)
  | .str _, t => some (t == .str)
  | .tup _, t => some (t == .tuple)
  | .lst _, t => some (t == .list)
  | .dic _ _, t => some (t == .dict)
  | _, _ => none
end Pv

end T_PvA
section T_PvE
namespace Pv
open PySem

/-! ### syntax: no positions; names are places -/
inductive P where
  | var (i : Nat) | tup (ps : List P)
inductive B where
  | len | tuple | list | sorted | min1 | max1 | min2 | max2 | all | any | sum | abs | int | divmod
  deriving DecidableEq
mutual
inductive E where
  | lit (d : D) | var (i : Nat) | glob (x : Str)
  | bin (op : BOp) (a b : E) | neg (a : E) | not (a : E) | and (a b : E) | or (a b : E)
  | cmp (op : COp) (a b : E) | chain (o1 o2 : COp) (a b c : E) | ite (c a b : E)
  | tup (es : List E) | lst (es : List E) | ix (a i : E) | slice (a : E) (hl : Bool) (lo : E) (hh : Bool) (hi : E)
  | lc (elt : E) (p : P) (it : I) (cs : List E)
  | lc2 (elt : E) (p : P) (it : I) (p2 : P) (it2 : I)
  | dc (k v : E) (p : P) (it : I)
  | call (x : Str) (es : List E) (kn : List Str) (ks : List E)
  | blt (b : B) (es : List E) | isi (a : E) (t : Ty)
  | mk (e : E) | cat (a b : E)
inductive I where
  | ex (e : E) | range (es : List E) | zip (es : List E) | enum (es : List E) | items (a : E) | vals (a : E) | combos (es : List E)
end
inductive LT where
  | var (i : Nat) | tup (ts : List LT) | ix (a i : E)
inductive S where
  | expr (e : E) | asg (t : LT) (e : E) | app (a e : E)
  | iff (c : E) (a b : List S) | for (p : P) (it : I) (b : List S) | while (c : E) (b : List S)
  | ret (e : E) | retN | brk | pass | bad

/-! ### what is changed in place -/
inductive C where
  | lst (xs : List D) | dic (ks vs : List D)
  deriving DecidableEq
abbrev Env := List (Option D)
abbrev Res (α : Type) := Option (Except D α × List C)
def bnd {α β : Type} (r : Res α) (k : α → List C → Res β) : Res β := match r with
  | some (.ok a, M) => k a M
  | some (.error x, M) => some (.error x, M)
  | none => none
/-- no error may come -/
def bndN {α β : Type} (r : Res α) (k : α → List C → Res β) : Res β := match r with
  | some (.ok a, M) => k a M
  | _ => none
def ofO {α : Type} (o : Option α) (M : List C) : Res α := match o with
  | some a => some (.ok a, M)
  | none => none
section
variable {α β : Type} {k : α → List C → Res β} {M : List C} {a : α} {x : D}
@[simp] theorem bnd_ok : bnd (some (.ok a, M)) k = k a M := rfl
@[simp] theorem bnd_err : bnd (some (.error x, M)) k = some (.error x, M) := rfl
@[simp] theorem bnd_none : bnd none k = none := rfl
@[simp] theorem bndN_ok : bndN (some (.ok a, M)) k = k a M := rfl
@[simp] theorem bndN_err : bndN (some (.error x, M)) k = none := rfl
@[simp] theorem bndN_none : bndN none k = none := rfl
@[simp] theorem ofO_some : ofO (some a) M = some (.ok a, M) := rfl
@[simp] theorem ofO_none : ofO (none : Option α) M = none := rfl
end
/-- what a cell holds -/
def drf (M : List C) (d : D) : D := match d with
  | .cell n => (match M[n]? with
    | some (.lst xs) => .lst xs
    | some (.dic ks vs) => .dic ks vs
    | none => .cell n)
  | d => d
mutual
def bindP : P → D → Env → Option Env
  | .var i, d, ρ => if i < ρ.length then some (ρ.set i (some d)) else none
  | .tup ps, .tup ds, ρ => bindPs ps ds ρ
  | _, _, _ => none
def bindPs : List P → List D → Env → Option Env
  | [], [], ρ => some ρ
  | p :: ps, d :: ds, ρ => (bindP p d ρ).bind fun ρ' => bindPs ps ds ρ'
  | _, _, _ => none
end
mutual
def varsP : P → List Nat
  | .var i => [i]
  | .tup ps => varsPs ps
def varsPs : List P → List Nat
  | [] => []
  | p :: ps => varsP p ++ varsPs ps
end
def wipeE (ρ : Env) : List Nat → Env
  | [] => ρ
  | v :: vs => (wipeE ρ vs).set v none
/-- a walked thing is as it was -/
def same (g : Option Nat) (M0 M : List C) : Bool := match g with
  | none => true
  | some n => M[n]? == M0[n]?
@[simp] theorem same_none (M0 M : List C) : same none M0 M = true := rfl
/-- the items that a comprehension makes, one after another -/
def lcLoop (g : Option Nat) (M0 : List C) (body : D → List C → Res (Option D)) : List D → List D → List C → Res (List D)
  | [], acc, M => if same g M0 M then some (.ok acc, M) else none
  | d :: ds, acc, M => if same g M0 M then bndN (body d M) fun o M' => lcLoop g M0 body ds (match o with | some r => acc ++ [r] | none => acc) M' else none
def lcLoop2 (g : Option Nat) (M0 : List C) (body : D → List D → List C → Res (List D)) : List D → List D → List C → Res (List D)
  | [], acc, M => if same g M0 M then some (.ok acc, M) else none
  | d :: ds, acc, M => if same g M0 M then bndN (body d acc M) fun acc' M' => lcLoop2 g M0 body ds acc' M' else none
def dcLoop (g : Option Nat) (M0 : List C) (body : D → List C → Res (D × D)) : List D → List D → List D → List C → Res (List D × List D)
  | [], ks, vs, M => if same g M0 M then some (.ok (ks, vs), M) else none
  | d :: ds, ks, vs, M => if same g M0 M then bndN (body d M) fun kv M' => if keyOk ks kv.1 then dcLoop g M0 body ds (dputK ks kv.1) (dputV ks vs kv.1 kv.2) M' else none else none
def pairsD : List D → List D → List D
  | a :: as, b :: bs => .tup [a, b] :: pairsD as bs
  | _, _ => []
def enumD : Nat → List D → List D
  | _, [] => []
  | i, d :: ds => .tup [.int i, d] :: enumD (i + 1) ds
def rangeD (lo hi : Int) : List D := (List.range (hi - lo).toNat).map fun (i : Nat) => D.int (lo + (i : Int))
/-- all lots of n of the things, as they come -/
def combos {α : Type} : List α → Nat → List (List α)
  | _, 0 => [[]]
  | [], _ + 1 => []
  | d :: ds, n + 1 => (combos ds n).map (d :: ·) ++ combos ds (n + 1)
def R62 : Int := 4611686018427387904
def evB (b : B) (ds : List D) : Option D := match b, ds with
  | .len, [.tup xs] => some (.int xs.length)
  | .len, [.lst xs] => some (.int xs.length)
  | .len, [.dic ks _] => some (.int ks.length)
  | .tuple, [.tup xs] => some (.tup xs)
  | .tuple, [.lst xs] => some (.tup xs)
  | .list, [.tup xs] => some (.lst xs)
  | .list, [.lst xs] => some (.lst xs)
  | .list, [.dic ks _] => some (.lst ks)
  | .sorted, [.tup xs] => (sortD xs).map .lst
  | .sorted, [.lst xs] => (sortD xs).map .lst
  | .sorted, [.dic ks _] => (sortD ks).map .lst
  | .min1, [.lst xs] => minD xs
  | .max1, [.lst xs] => maxD xs
  | .min2, [.int a, .int b] => some (.int (if b < a then b else a))
  | .max2, [.int a, .int b] => some (.int (if b > a then b else a))
  | .all, [.lst xs] => (blsD xs).map fun bs => .bl (bs.all id)
  | .any, [.lst xs] => (blsD xs).map fun bs => .bl (bs.any id)
  | .sum, [.lst xs] => (intsD xs).map fun ns => .int ns.sum
  | .abs, [.int i] => some (.int (if i < 0 then -i else i))
  | .int, [.int i] => some (.int i)
  | .int, [.bl b] => some (.int (if b then 1 else 0))
  | .divmod, [.int i, .int j] => if 0 < j ∧ j < 1073741824 then some (.tup [.int (i / j), .int (i % j)]) else none
  | _, _ => none

structure Ctx where
  call : Str → List D → List (Str × D) → List C → Res D
  glob : Str → Option D

section
variable (Γ : Ctx)
mutual
def evE : E → Env → List C → Res D
  | .lit d, _, M => some (.ok d, M)
  | .var i, ρ, M => (match ρ[i]? with
    | some (some d) => some (.ok d, M)
    | _ => none)
  | .glob x, _, M => ofO (Γ.glob x) M
  | .bin op a b, ρ, M => bnd (evE a ρ M) fun x M1 => bnd (evE b ρ M1) fun y M2 => ofO (binD op (drf M2 x) (drf M2 y)) M2
  | .neg a, ρ, M => bnd (evE a ρ M) fun x M1 => (match x with
    | .int i => some (.ok (.int (-i)), M1)
    | _ => none)
  | .not a, ρ, M => bnd (evE a ρ M) fun x M1 => ofO ((truD (drf M1 x)).map fun b => .bl (!b)) M1
  | .and a b, ρ, M => bnd (evE a ρ M) fun x M1 => (match truD (drf M1 x) with
    | some true => evE b ρ M1
    | some false => some (.ok x, M1)
    | none => none)
  | .or a b, ρ, M => bnd (evE a ρ M) fun x M1 => (match truD (drf M1 x) with
    | some true => some (.ok x, M1)
    | some false => evE b ρ M1
    | none => none)
  | .cmp op a b, ρ, M => bnd (evE a ρ M) fun x M1 => bnd (evE b ρ M1) fun y M2 => ofO ((cmpD op (drf M2 x) (drf M2 y)).map .bl) M2
  | .chain o1 o2 a b c, ρ, M => bnd (evE a ρ M) fun x M1 => bnd (evE b ρ M1) fun y M2 => (match cmpD o1 (drf M2 x) (drf M2 y) with
    | some true => bnd (evE c ρ M2) fun z M3 => ofO ((cmpD o2 (drf M3 y) (drf M3 z)).map .bl) M3
    | some false => some (.ok (.bl false), M2)
    | none => none)
  | .ite c a b, ρ, M => bnd (evE c ρ M) fun x M1 => (match truD (drf M1 x) with
    | some true => evE a ρ M1
    | some false => evE b ρ M1
    | none => none)
  | .tup es, ρ, M => bnd (evEs es ρ M) fun ds M1 => some (.ok (.tup ds), M1)
  | .lst es, ρ, M => bnd (evEs es ρ M) fun ds M1 => some (.ok (.lst ds), M1)
  | .ix a i, ρ, M => bnd (evE a ρ M) fun x M1 => bnd (evE i ρ M1) fun y M2 => ofO (ixD (drf M2 x) y) M2
  | .slice a hl lo hh hi, ρ, M => bnd (evE a ρ M) fun x M1 => bnd (if hl then evE lo ρ M1 else some (.ok .non, M1)) fun l M2 => bndN (if hh then evE hi ρ M2 else some (.ok .non, M2)) fun h M3 =>
      ofO (sliceD (drf M3 x) (if hl then some l else none) (if hh then some h else none)) M3
  | .lc elt p it cs, ρ, M => bnd (evI it ρ M) fun dg M1 =>
      bndN (lcLoop dg.2 M1 (fun d M => match bindP p d (wipeE ρ (varsP p)) with
        | none => none
        | some ρ' => bndN (evCs cs ρ' M) fun b M' => if b then bndN (evE elt ρ' M') fun r M'' => some (.ok (some r), M'') else some (.ok none, M')) dg.1 [] M1) fun ds M2 =>
      if ds.length ≤ SZ then some (.ok (.lst ds), M2) else none
  | .lc2 elt p it p2 it2, ρ, M => bnd (evI it ρ M) fun dg M1 =>
      bndN (lcLoop2 dg.2 M1 (fun d acc M => match bindP p d (wipeE ρ (varsP p ++ varsP p2)) with
        | none => none
        | some ρ' => bndN (evI it2 ρ' M) fun dg2 M' => lcLoop dg2.2 M' (fun d2 M => match bindP p2 d2 (wipeE ρ' (varsP p2)) with
          | none => none
          | some ρ2 => bndN (evE elt ρ2 M) fun r M'' => some (.ok (some r), M'')) dg2.1 acc M') dg.1 [] M1) fun ds M2 =>
      if ds.length ≤ SZ then some (.ok (.lst ds), M2) else none
  | .dc k v p it, ρ, M => bnd (evI it ρ M) fun dg M1 =>
      bndN (dcLoop dg.2 M1 (fun d M => match bindP p d (wipeE ρ (varsP p)) with
        | none => none
        | some ρ' => bndN (evE k ρ' M) fun x M' => bndN (evE v ρ' M') fun y M'' => some (.ok (x, y), M'')) dg.1 [] [] M1) fun kv M2 =>
      if kv.1.length < SZ then some (.ok (.dic kv.1 kv.2), M2) else none
  | .call x es kn ks, ρ, M => bnd (evEs es ρ M) fun ds M1 => bnd (evEs ks ρ M1) fun zs M2 => Γ.call x ds (kn.zip zs) M2
  | .blt b es, ρ, M => bnd (evEs es ρ M) fun ds M1 => ofO (evB b (ds.map (drf M1))) M1
  | .isi a t, ρ, M => bnd (evE a ρ M) fun x M1 => ofO ((isTy (drf M1 x) t).map .bl) M1
  | .cat a b, ρ, M => bnd (evE a ρ M) fun x M1 => bnd (evE b ρ M1) fun y M2 => (match drf M2 x, drf M2 y with
    | .lst xs, .lst ys => if xs.length + ys.length ≤ SZ then some (.ok (.lst (xs ++ ys)), M2) else none
    | _, _ => none)
  | .mk e, ρ, M => bnd (evE e ρ M) fun d M1 => (match d with
    | .lst xs => some (.ok (.cell M1.length), M1 ++ [.lst xs])
    | .dic ks vs => some (.ok (.cell M1.length), M1 ++ [.dic ks vs])
    | _ => none)
def evEs : List E → Env → List C → Res (List D)
  | [], _, M => some (.ok [], M)
  | e :: es, ρ, M => bnd (evE e ρ M) fun d M1 => bnd (evEs es ρ M1) fun ds M2 => some (.ok (d :: ds), M2)
def evCs : List E → Env → List C → Res Bool
  | [], _, M => some (.ok true, M)
  | e :: es, ρ, M => bnd (evE e ρ M) fun d M1 => (match truD (drf M1 d) with
    | some true => evCs es ρ M1
    | some false => some (.ok false, M1)
    | none => none)
def evI : I → Env → List C → Res (List D × Option Nat)
  | .ex e, ρ, M => bnd (evE e ρ M) fun d M1 => (match d with
    | .cell n => (match M1[n]? with
      | some (.lst xs) => some (.ok (xs, some n), M1)
      | _ => none)
    | d => ofO ((itemsD d).map fun xs => (xs, none)) M1)
  | .range es, ρ, M => bnd (evEs es ρ M) fun ds M1 => (match ds with
    | [.int n] => if -R62 ≤ n ∧ n < R62 then some (.ok (rangeD 0 n, none), M1) else none
    | [.int a, .int b] => if -R62 ≤ a ∧ a < R62 ∧ -R62 ≤ b ∧ b < R62 then some (.ok (rangeD a b, none), M1) else none
    | _ => none)
  | .zip es, ρ, M => bnd (evEs es ρ M) fun ds M1 => (match ds with
    | [.tup xs, .tup ys] => some (.ok (pairsD xs ys, none), M1)
    | [.lst xs, .lst ys] => some (.ok (pairsD xs ys, none), M1)
    | _ => none)
  | .enum es, ρ, M => bnd (evEs es ρ M) fun ds M1 => (match ds with
    | [.lst xs] => some (.ok (enumD 0 xs, none), M1)
    | _ => none)
  | .items a, ρ, M => bnd (evE a ρ M) fun x M1 => (match x with
    | .dic ks vs => if vs.length = ks.length then some (.ok (pairsD ks vs, none), M1) else none
    | _ => none)
  | .vals a, ρ, M => bnd (evE a ρ M) fun x M1 => (match x with
    | .dic ks vs => if vs.length = ks.length then some (.ok (vs, none), M1) else none
    | _ => none)
  | .combos es, ρ, M => bnd (evEs es ρ M) fun ds M1 => (match ds with
    | [.tup xs, .int n] => if 0 ≤ n ∧ n < 1000 then some (.ok ((combos xs n.toNat).map .tup, none), M1) else none
    | _ => none)
end

/-! ### statements -/
inductive Flow where
  | next (ρ : Env) | ret (d : D) | brk (ρ : Env) | exc (x : D) (ρ : Env)
abbrev SRes := Option (Flow × List C)
def bndS {α : Type} (r : Res α) (ρ : Env) (k : α → List C → SRes) : SRes := match r with
  | some (.ok a, M) => k a M
  | some (.error x, M) => some (.exc x ρ, M)
  | none => none
section
variable {α : Type} {ρ : Env} {k : α → List C → SRes} {M : List C} {a : α} {x : D}
@[simp] theorem bndS_ok : bndS (some (.ok a, M)) ρ k = k a M := rfl
@[simp] theorem bndS_err : bndS (some (.error x, M)) ρ k = some (.exc x ρ, M) := rfl
@[simp] theorem bndS_none : bndS none ρ k = none := rfl
end
def nextS (r : Res Env) : SRes := match r with
  | some (.ok ρ, M) => some (.next ρ, M)
  | _ => none
@[simp] theorem nextS_ok {ρ : Env} {M : List C} : nextS (some (.ok ρ, M)) = some (.next ρ, M) := rfl
def storeC (M : List C) (n : Nat) (i v : D) : Option (List C) := match M[n]?, i with
  | some (.lst xs), .int j => (L2.ixN xs.length j).map fun k => M.set n (.lst (xs.set k v))
  | some (.dic ks vs), k => if keyOk ks k ∧ ks.length < SZ then some (M.set n (.dic (dputK ks k) (dputV ks vs k v))) else none
  | _, _ => none
mutual
def asgT : LT → D → Env → List C → Res Env
  | .var i, d, ρ, M => if i < ρ.length then some (.ok (ρ.set i (some d)), M) else none
  | .tup ts, .tup ds, ρ, M => asgTs ts ds ρ M
  | .ix a i, d, ρ, M => bndN (evE Γ a ρ M) fun x M1 => bndN (evE Γ i ρ M1) fun y M2 => (match x with
    | .cell n => (match storeC M2 n y d with
      | some M3 => some (.ok ρ, M3)
      | none => none)
    | _ => none)
  | _, _, _, _ => none
def asgTs : List LT → List D → Env → List C → Res Env
  | [], [], ρ, M => some (.ok ρ, M)
  | t :: ts, d :: ds, ρ, M => bndN (asgT t d ρ M) fun ρ' M' => asgTs ts ds ρ' M'
  | _, _, _, _ => none
end
def seqS (r : SRes) (k : Env → List C → SRes) : SRes := match r with
  | some (.next ρ, M) => k ρ M
  | r => r
section
variable {ρ : Env} {k : Env → List C → SRes} {M : List C} {d : D}
@[simp] theorem seqS_next : seqS (some (.next ρ, M)) k = k ρ M := rfl
@[simp] theorem seqS_ret : seqS (some (.ret d, M)) k = some (.ret d, M) := rfl
@[simp] theorem seqS_brk : seqS (some (.brk ρ, M)) k = some (.brk ρ, M) := rfl
@[simp] theorem seqS_exc : seqS (some (.exc d ρ, M)) k = some (.exc d ρ, M) := rfl
@[simp] theorem seqS_none : seqS none k = none := rfl
end
/-- behind a loop's turn -/
def turnS (r : SRes) (k : Env → List C → SRes) : SRes := match r with
  | some (.next ρ, M) => k ρ M
  | some (.brk ρ, M) => some (.next ρ, M)
  | r => r
section
variable {ρ : Env} {k : Env → List C → SRes} {M : List C} {d : D}
@[simp] theorem turnS_next : turnS (some (.next ρ, M)) k = k ρ M := rfl
@[simp] theorem turnS_ret : turnS (some (.ret d, M)) k = some (.ret d, M) := rfl
@[simp] theorem turnS_brk : turnS (some (.brk ρ, M)) k = some (.next ρ, M) := rfl
@[simp] theorem turnS_exc : turnS (some (.exc d ρ, M)) k = some (.exc d ρ, M) := rfl
@[simp] theorem turnS_none : turnS none k = none := rfl
end
def forLoop (g : Option Nat) (M0 : List C) (p : P) (body : Env → List C → SRes) : List D → Env → List C → SRes
  | [], ρ, M => if same g M0 M then some (.next ρ, M) else none
  | d :: ds, ρ, M => if same g M0 M then (match bindP p d ρ with
      | none => none
      | some ρ' => turnS (body ρ' M) fun ρ'' M' => forLoop g M0 p body ds ρ'' M') else none
def whileLoop (c : Env → List C → Res Bool) (body : Env → List C → SRes) : Nat → Env → List C → SRes
  | 0, _, _ => none
  | n + 1, ρ, M => bndS (c ρ M) ρ fun b M1 => if b then turnS (body ρ M1) fun ρ' M' => whileLoop c body n ρ' M' else some (.next ρ, M1)
def WF : Nat := 1000000
def evT (e : E) (ρ : Env) (M : List C) : Res Bool := bnd (evE Γ e ρ M) fun d M1 => ofO (truD (drf M1 d)) M1
mutual
def evS : S → Env → List C → SRes
  | .expr e, ρ, M => bndS (evE Γ e ρ M) ρ fun _ M1 => some (.next ρ, M1)
  | .asg t e, ρ, M => bndS (evE Γ e ρ M) ρ fun d M1 => nextS (asgT Γ t d ρ M1)
  | .app a e, ρ, M => bndS (evE Γ a ρ M) ρ fun x M1 => (match x with
    | .cell n => (match M1[n]? with
      | some (.lst _) => bndS (evE Γ e ρ M1) ρ fun d M2 => (match M2[n]? with
        | some (.lst xs) => if xs.length < SZ then some (.next ρ, M2.set n (.lst (xs ++ [d]))) else none
        | _ => none)
      | _ => none)
    | _ => none)
  | .iff c a b, ρ, M => bndS (evT Γ c ρ M) ρ fun t M1 => if t then evSs a ρ M1 else evSs b ρ M1
  | .for p it b, ρ, M => bndS (evI Γ it ρ M) ρ fun dg M1 => forLoop dg.2 M1 p (fun ρ M => evSs b ρ M) dg.1 ρ M1
  | .while c b, ρ, M => whileLoop (fun ρ M => evT Γ c ρ M) (fun ρ M => evSs b ρ M) WF ρ M
  | .ret e, ρ, M => bndS (evE Γ e ρ M) ρ fun d M1 => some (.ret d, M1)
  | .retN, _, M => some (.ret .non, M)
  | .brk, ρ, M => some (.brk ρ, M)
  | .pass, ρ, M => some (.next ρ, M)
  | .bad, _, _ => none
def evSs : List S → Env → List C → SRes
  | [], ρ, M => some (.next ρ, M)
  | s :: ss, ρ, M => seqS (evS s ρ M) fun ρ' M' => evSs ss ρ' M'
end
end

/-! ### defs -/
structure Fn where
  ps : List Str
  many : Nat          -- how many names
  body : List S
  pure : Bool
/-- by value, no cell within -/
def frz (M : List C) (d : D) : Option D := let x := drf M d; if flatD x then some x else none
def frzs (M : List C) : List D → Option (List D)
  | [] => some []
  | d :: ds => match frz M d, frzs M ds with
    | some a, some b => some (a :: b)
    | _, _ => none
def endF (r : SRes) : Res D := match r with
  | some (.next _, M) => some (.ok .non, M)
  | some (.ret d, M) => some (.ok d, M)
  | some (.exc x _, M) => some (.error x, M)
  | _ => none
def startE (n : Nat) (ds : List D) : Env := ds.map some ++ List.replicate (n - ds.length) none
def lookK (kw : List (Str × D)) (x : Str) : Option D := kw.lookup x
/-- the arguments in the parameters' order: the keywords are the last ones, as they come -/
def bindA (ps : List Str) (ds : List D) (kw : List (Str × D)) : Option (List D) :=
  if ds.length + kw.length = ps.length ∧ kw.map (·.1) = ps.drop ds.length then some (ds ++ kw.map (·.2)) else none
def frzR (M : List C) (r : Res D) : Res D := match r with
  | some (.ok d, M') => (match frz M' d with
    | some x => some (.ok x, M)
    | none => none)
  | some (.error d, M') => (match frz M' d with
    | some x => some (.error x, M)
    | none => none)
  | none => none
def runB (Γ : Ctx) (f : Fn) (ds : List D) (M : List C) : Res D :=
  if f.pure && flatDs ds then frzR M (endF (evSs Γ f.body (startE f.many ds) []))
  else endF (evSs Γ f.body (startE f.many ds) M)
def run (Φ : Str → Option Fn) (G : Str → Option D) : Nat → Str → List D → List (Str × D) → List C → Res D
  | 0, _, _, _, _ => none
  | n + 1, x, ds, kw, M => match Φ x with
    | some f => (match bindA f.ps ds kw with
      | some as => runB ⟨run Φ G n, G⟩ f as M
      | none => none)
    | none => none
def runA (Φ : Str → Option Fn) (G : Str → Option D) : Nat → Str → List D → List C → Res D
  | 0, _, _, _ => none
  | n + 1, x, as, M => match Φ x with
    | some f => runB ⟨run Φ G n, G⟩ f as M
    | none => none
theorem run_eq {Φ : Str → Option Fn} {G : Str → Option D} {n : Nat} {x : Str} {ds : List D} {kw : List (Str × D)} {M : List C} {z : Except D D × List C} (h : run Φ G n x ds kw M = some z) : ∃ f as, Φ x = some f ∧ bindA f.ps ds kw = some as ∧ runA Φ G n x as M = some z := by
  cases n with
  | zero => cases h
  | succ n =>
    rw [run] at h
    split at h
    · rename_i f hf
      split at h
      · rename_i as ha
        exact ⟨f, as, hf, ha, by rw [runA, hf]; exact h⟩
      · cases h
    · cases h
end Pv

end T_PvE
section T_PvB
set_option maxRecDepth 100000
namespace Pv
open PySem PySem.Spec PyProof.Rows L2

/-! ### how data lie in the heap -/
structure Rc where
  P : Program
  w : World
  K : PySem.W.Frag
  mg : Str → Option Value
abbrev rc (X : Cx) : Rc := ⟨X.prog, X.w, X.K, X.mg⟩

mutual
def nkey : D → Option NestedKey
  | .int i => some (.num i)
  | .str x => some (.text x)
  | .tup xs => (nkeys xs).map .tup
  | _ => none
def nkeys : List D → Option (List NestedKey)
  | [] => some []
  | x :: xs => match nkey x, nkeys xs with
    | some a, some b => some (a :: b)
    | _, _ => none
end
abbrev Ent := NestedKey × Addr × Value
/-- the dict at a, its entries written out -/
def dO (R : Rc) (a : Addr) (xs : List Ent) (o : Obj) : HO := .ext fun h =>
  (a == sysModules) = false ∧ h.get? a = some o ∧ o.ExactDict ∧ ∃ es ep, o.data = .dict es ep ∧ es.toList = xs.map (entryOfKey (nestedKind R.P R.w)) ∧ (xs.map (·.1)).Nodup
/-- the entries' places against the data -/
structure EntOk (ks : List D) (kv vv : List V) (xs : List Ent) : Prop where
  kv : kv = xs.map fun x => V.ref x.2.1
  nk : nkeys ks = some (xs.map (·.1))
  ok : ∀ x ∈ xs, x.1.depth ≤ 8 ∧ ∃ q, x.1 = .tup q
  vv : Vals vv (xs.map (·.2.2))
  sz : xs.length ≤ sizeLine
def NoH : Hp := fun _ => none
def AtT (R : Rc) (ψ φ : List Addr) (H : Hp) (a : Addr) (vs : List V) : Prop := (a ∉ ψ ∧ a ∉ φ ∧ Rd H a (.tup vs)) ∨ SqT R.K NoH a vs
def AtL (R : Rc) (ψ φ : List Addr) (H : Hp) (a : Addr) (vs : List V) : Prop := (a ∉ ψ ∧ a ∉ φ ∧ Rd H a (.lst vs)) ∨ SqL R.K NoH a vs
mutual
def Rep (R : Rc) (ψ φ : List Addr) (H : Hp) : D → V → Prop
  | .non, v => v = .non
  | .bl b, v => v = .bl b
  | .int i, v => v = .int i
  | .str x, v => v = .str x
  | .tup ds, v => ∃ a vs, v = .ref a ∧ AtT R ψ φ H a vs ∧ Reps R ψ φ H ds vs
  | .lst ds, v => ∃ a vs, v = .ref a ∧ AtL R ψ φ H a vs ∧ Reps R ψ φ H ds vs
  | .dic ks vs, v => ∃ a xs od kv vv, v = .ref a ∧ (a ∉ ψ ∧ a ∉ φ ∧ H a = some (dO R a xs od)) ∧ Reps R ψ φ H ks kv ∧ Reps R ψ φ H vs vv ∧ EntOk ks kv vv xs
  | .cell n, v => ∃ a, v = .ref a ∧ φ[n]? = some a
  | .fn x, v => ∃ f, v = .ref f ∧ R.mg x = some (.ref f)
  | .clo _ _, _ => False
  | .exn _ _ _, _ => False
def Reps (R : Rc) (ψ φ : List Addr) (H : Hp) : List D → List V → Prop
  | [], vs => vs = []
  | d :: ds, vs => ∃ v r, vs = v :: r ∧ Rep R ψ φ H d v ∧ Reps R ψ φ H ds r
end
section
variable {R : Rc} {ψ φ φ' φ'' : List Addr} {H H' H'' : Hp} {d : D} {ds : List D} {v : V} {vs : List V} {a : Addr} {M M' : List C}
theorem Reps.length : ∀ {ds : List D} {vs : List V}, Reps R ψ φ H ds vs → vs.length = ds.length
  | [], vs, h => by rw [Reps] at h; rw [h] <;> rfl
  | d :: ds, vs, h => by
    rw [Reps] at h
    obtain ⟨v, r, rfl, _, h2⟩ := h
    simp [Reps.length h2]
theorem Reps.nil : Reps R ψ φ H [] [] := by rw [Reps]
theorem Reps.cons (h : Rep R ψ φ H d v) (t : Reps R ψ φ H ds vs) : Reps R ψ φ H (d :: ds) (v :: vs) := by rw [Reps]; exact ⟨v, vs, rfl, h, t⟩
theorem Reps.nil_inv (h : Reps R ψ φ H [] vs) : vs = [] := by rw [Reps] at h; exact h
theorem Reps.cons_inv (h : Reps R ψ φ H (d :: ds) vs) : ∃ v r, vs = v :: r ∧ Rep R ψ φ H d v ∧ Reps R ψ φ H ds r := by rw [Reps] at h; exact h
theorem Reps.get : ∀ {ds : List D} {vs : List V} {i : Nat} {d : D}, Reps R ψ φ H ds vs → ds[i]? = some d → ∃ v, vs[i]? = some v ∧ Rep R ψ φ H d v
  | [], _, _, _, _, e => by simp at e
  | d :: ds, vs, i, d', h, e => by
    obtain ⟨v, r, rfl, h1, h2⟩ := h.cons_inv
    cases i with
    | zero => simp at e; subst e; exact ⟨v, by simp, h1⟩
    | succ i =>
      obtain ⟨v', e', h'⟩ := Reps.get (i := i) h2 (by simpa using e)
      exact ⟨v', by simpa using e', h'⟩
theorem Reps.append : ∀ {ds es : List D} {vs ws : List V}, Reps R ψ φ H ds vs → Reps R ψ φ H es ws → Reps R ψ φ H (ds ++ es) (vs ++ ws)
  | [], _, vs, _, h, k => by rw [h.nil_inv]; exact k
  | d :: ds, _, vs, _, h, k => by
    obtain ⟨v, r, rfl, h1, h2⟩ := h.cons_inv
    exact .cons h1 (Reps.append h2 k)
theorem Reps.set : ∀ {ds : List D} {vs : List V} (i : Nat), Reps R ψ φ H ds vs → Rep R ψ φ H d v → Reps R ψ φ H (ds.set i d) (vs.set i v)
  | [], vs, i, h, k => by rw [h.nil_inv]; exact .nil
  | e :: ds, vs, i, h, k => by
    obtain ⟨w, r, rfl, h1, h2⟩ := h.cons_inv
    cases i with
    | zero => exact .cons k h2
    | succ i => exact .cons h1 (Reps.set i h2 k)
theorem Reps.drop : ∀ {ds : List D} {vs : List V} (i : Nat), Reps R ψ φ H ds vs → Reps R ψ φ H (ds.drop i) (vs.drop i)
  | _, _, 0, h => h
  | [], vs, _ + 1, h => by rw [h.nil_inv]; exact .nil
  | e :: ds, vs, i + 1, h => by
    obtain ⟨w, r, rfl, h1, h2⟩ := h.cons_inv
    exact Reps.drop i h2
theorem Reps.take : ∀ {ds : List D} {vs : List V} (i : Nat), Reps R ψ φ H ds vs → Reps R ψ φ H (ds.take i) (vs.take i)
  | _, _, 0, h => .nil
  | [], vs, _ + 1, h => by rw [h.nil_inv]; exact .nil
  | e :: ds, vs, i + 1, h => by
    obtain ⟨w, r, rfl, h1, h2⟩ := h.cons_inv
    exact .cons h1 (Reps.take i h2)

/-! ### what may have happened -/
structure Fr (φ : List Addr) (H : Hp) (φ' : List Addr) (H' : Hp) : Prop where
  keep : ∀ a o, a ∉ φ → H a = some o → H' a = some o
  pre : φ <+: φ'
  new : ∀ a ∈ φ', a ∈ φ ∨ H a = none
theorem Fr.refl : Fr φ H φ H := ⟨fun _ _ _ h => h, List.prefix_refl _, fun _ h => .inl h⟩
theorem Fr.trans (f : Fr φ H φ' H') (g : Fr φ' H' φ'' H'') : Fr φ H φ'' H'' := by
  refine ⟨fun a o n h => g.keep a o (fun m => ?_) (f.keep a o n h), f.pre.trans g.pre, fun a m => ?_⟩
  · rcases f.new a m with q | q
    · exact n q
    · rw [q] at h; cases h
  · rcases g.new a m with q | q
    · exact f.new a q
    · by_cases m' : a ∈ φ
      · exact .inl m'
      · right
        cases e : H a with
        | none => rfl
        | some o => rw [f.keep a o m' e] at q; cases q
theorem Fr.of_same (h : Same H H') : Fr φ H φ H' := ⟨fun a o _ e => h a o e, List.prefix_refl _, fun _ h => .inl h⟩
theorem Fr.not (f : Fr φ H φ' H') {o : HO} (n : a ∉ φ) (h : H a = some o) : a ∉ φ' := fun m => by
  rcases f.new a m with q | q
  · exact n q
  · rw [q] at h; cases h
theorem Fr.rd (f : Fr φ H φ' H') {u : HO} (n : a ∉ φ) (h : Rd H a u) : a ∉ φ' ∧ Rd H' a u := by
  rcases h with h | ⟨o, h⟩
  · exact ⟨f.not n h, .inl (f.keep a _ n h)⟩
  · exact ⟨f.not n h, .inr ⟨o, f.keep a _ n h⟩⟩
theorem Fr.get (f : Fr φ H φ' H') {n : Nat} (h : φ[n]? = some a) : φ'[n]? = some a := by
  obtain ⟨t, rfl⟩ := f.pre
  rw [List.getElem?_append_left (List.getElem?_eq_some_iff.mp h).1]
  exact h
theorem AtT.mono (f : Fr φ H φ' H') (h : AtT R ψ φ H a vs) : AtT R ψ φ' H' a vs := by
  rcases h with ⟨h1, h2, h3⟩ | h
  · obtain ⟨q1, q2⟩ := f.rd h2 h3
    exact .inl ⟨h1, q1, q2⟩
  · exact .inr h
theorem AtL.mono (f : Fr φ H φ' H') (h : AtL R ψ φ H a vs) : AtL R ψ φ' H' a vs := by
  rcases h with ⟨h1, h2, h3⟩ | h
  · obtain ⟨q1, q2⟩ := f.rd h2 h3
    exact .inl ⟨h1, q1, q2⟩
  · exact .inr h
theorem noH_rd {u : HO} : ¬ Rd NoH a u := by
  rintro (h | ⟨o, h⟩) <;> cases h
theorem AtT.seq (h : AtT R ψ φ H a vs) : SqT R.K H a vs := by
  rcases h with ⟨_, _, h⟩ | h | h
  · exact .inl h
  · exact absurd h noH_rd
  · exact .inr h
theorem AtL.seq (h : AtL R ψ φ H a vs) : SqL R.K H a vs := by
  rcases h with ⟨_, _, h⟩ | h | h
  · exact .inl h
  · exact absurd h noH_rd
  · exact .inr h
mutual
theorem Rep.mono (f : Fr φ H φ' H') : ∀ (d : D) (v : V), Rep R ψ φ H d v → Rep R ψ φ' H' d v
  | .non, v, h => by rw [Rep] at *; exact h
  | .bl _, v, h => by rw [Rep] at *; exact h
  | .int _, v, h => by rw [Rep] at *; exact h
  | .str _, v, h => by rw [Rep] at *; exact h
  | .tup ds, v, h => by
    rw [Rep] at *
    obtain ⟨a, vs, e, h1, h2⟩ := h
    exact ⟨a, vs, e, h1.mono f, Reps.mono f ds vs h2⟩
  | .lst ds, v, h => by
    rw [Rep] at *
    obtain ⟨a, vs, e, h1, h2⟩ := h
    exact ⟨a, vs, e, h1.mono f, Reps.mono f ds vs h2⟩
  | .dic ks ws, v, h => by
    rw [Rep] at *
    obtain ⟨a, xs, od, kv, vv, e, ⟨h1, h2, h3⟩, h4, h5, h6⟩ := h
    exact ⟨a, xs, od, kv, vv, e, ⟨h1, f.not h2 h3, f.keep _ _ h2 h3⟩, Reps.mono f ks kv h4, Reps.mono f ws vv h5, h6⟩
  | .cell n, v, h => by
    rw [Rep] at *
    obtain ⟨a, e, h⟩ := h
    exact ⟨a, e, f.get h⟩
  | .fn _, v, h => by rw [Rep] at *; exact h
  | .clo _ _, v, h => by rw [Rep] at *; exact h
  | .exn _ _ _, v, h => by rw [Rep] at *; exact h
theorem Reps.mono (f : Fr φ H φ' H') : ∀ (ds : List D) (vs : List V), Reps R ψ φ H ds vs → Reps R ψ φ' H' ds vs
  | [], vs, h => by rw [Reps] at *; exact h
  | d :: ds, vs, h => by
    rw [Reps] at *
    obtain ⟨v, r, e, h1, h2⟩ := h
    exact ⟨v, r, e, Rep.mono f d v h1, Reps.mono f ds r h2⟩
end

/-! ### the cells -/
def CellOk (R : Rc) (ψ φ : List Addr) (H : Hp) (a : Addr) : C → Prop
  | .lst xs => ∃ vs, H a = some (.lst vs) ∧ Reps R ψ φ H xs vs
  | .dic ks vs => ∃ xs od kv vv, H a = some (dO R a xs od) ∧ Reps R ψ φ H ks kv ∧ Reps R ψ φ H vs vv ∧ EntOk ks kv vv xs
structure Cells (R : Rc) (ψ φ : List Addr) (H : Hp) (M : List C) : Prop where
  len : φ.length = M.length
  nd : φ.Nodup
  apart : ∀ a ∈ φ, a ∉ ψ
  hid : ∀ a ∈ ψ, ∃ o, H a = some o
  ok : ∀ (n : Nat) (a : Addr) (c : C), φ[n]? = some a → M[n]? = some c → CellOk R ψ φ H a c
theorem CellOk.mono (f : Fr φ H φ' H') {c : C} (h : CellOk R ψ φ H a c) (e : ∀ o, H a = some o → H' a = some o) : CellOk R ψ φ' H' a c := by
  cases c with
  | lst xs =>
    obtain ⟨vs, h1, h2⟩ := h
    exact ⟨vs, e _ h1, h2.mono f⟩
  | dic ks ws =>
    obtain ⟨xs, od, kv, vv, h1, h2, h3, h4⟩ := h
    exact ⟨xs, od, kv, vv, e _ h1, h2.mono f, h3.mono f, h4⟩
theorem CellOk.some {c : C} (h : CellOk R ψ φ H a c) : ∃ o, H a = some o := by
  cases c with
  | lst xs => obtain ⟨vs, h1, _⟩ := h; exact ⟨_, h1⟩
  | dic ks ws => obtain ⟨xs, od, kv, vv, h1, _⟩ := h; exact ⟨_, h1⟩
theorem Cells.at (c : Cells R ψ φ H M) {n : Nat} (h : φ[n]? = some a) : ∃ x, M[n]? = some x ∧ CellOk R ψ φ H a x := by
  have hn : n < M.length := by rw [← c.len]; exact (List.getElem?_eq_some_iff.mp h).1
  exact ⟨M[n], List.getElem?_eq_getElem hn, c.ok n a _ h (List.getElem?_eq_getElem hn)⟩
theorem Cells.some (c : Cells R ψ φ H M) (m : a ∈ φ) : ∃ o, H a = some o := by
  obtain ⟨n, h⟩ := List.mem_iff_getElem?.mp m
  obtain ⟨x, _, q⟩ := c.at h
  exact q.some
theorem Cells.free (c : Cells R ψ φ H M) (h : H a = none) : a ∉ φ ∧ a ∉ ψ := by
  refine ⟨fun m => ?_, fun m => ?_⟩
  · obtain ⟨o, e⟩ := c.some m
    rw [h] at e
    cases e
  · obtain ⟨o, e⟩ := c.hid a m
    rw [h] at e
    cases e
/-- nothing of ours is changed -/
theorem Cells.same (c : Cells R ψ φ H M) (h : Same H H') : Cells R ψ φ H' M :=
  ⟨c.len, c.nd, c.apart, fun a m => let ⟨o, e⟩ := c.hid a m; ⟨o, h _ _ e⟩, fun n a x h1 h2 => (c.ok n a x h1 h2).mono (.of_same h) fun o e => h _ _ e⟩
end

/-! ### the names -/
/-- each known place -/
def EnvOk (R : Rc) (ψ φ : List Addr) (H : Hp) (ρ : Env) (σ : L2.St) : Prop := ρ.length = σ.length ∧ ∀ (i : Nat) (d : D), ρ[i]? = some (some d) → ∃ v, σ[i]? = some (some v) ∧ Rep R ψ φ H d v
section
variable {R : Rc} {ψ φ φ' φ'' : List Addr} {H H' H'' : Hp} {d : D} {ρ : Env} {σ : L2.St} {v : V} {a : Addr} {M M' : List C}
theorem EnvOk.mono (f : Fr φ H φ' H') (h : EnvOk R ψ φ H ρ σ) : EnvOk R ψ φ' H' ρ σ :=
  ⟨h.1, fun i d e => let ⟨v, q, r⟩ := h.2 i d e; ⟨v, q, r.mono f⟩⟩
theorem EnvOk.set (h : EnvOk R ψ φ H ρ σ) (r : Rep R ψ φ H d v) (i : Nat) : EnvOk R ψ φ H (ρ.set i (some d)) (σ.set i (some v)) := by
  refine ⟨by simp [h.1], fun j e q => ?_⟩
  by_cases hij : i = j
  · subst hij
    by_cases hi : i < ρ.length
    · rw [List.getElem?_set_self hi] at q
      simp at q
      subst q
      exact ⟨v, by rw [List.getElem?_set_self (by rw [← h.1]; exact hi)], r⟩
    · rw [List.getElem?_eq_none (by simp; omega)] at q
      cases q
  · rw [List.getElem?_set_ne hij] at q
    obtain ⟨w, q1, q2⟩ := h.2 j e q
    exact ⟨w, by rw [List.getElem?_set_ne hij]; exact q1, q2⟩
end
end Pv

end T_PvB
section T_PvC
set_option maxRecDepth 100000
set_option maxHeartbeats 1000000
namespace Pv
open PySem PySem.Spec PyProof.Rows L2

/-! ### the judgement: what a function of names and cells says of an expression -/
/-- an exception's place -/
def ExnOk (R : Rc) (ψ φ : List Addr) (H : Hp) : D → Value → Option Addr → Prop
  | .exn c ns ds, cls, dx => ∃ C, R.mg c = some (.ref C) ∧ cls = .ref C ∧ (ns ≠ [] → ∃ d vs, dx = some d ∧ H d = some (.xd (ns.zip vs)) ∧ Reps R ψ φ H ds vs)
  | _, _, _ => False
def Post (R : Rc) (W : WX) (ψ φ : List Addr) (H : Hp) (σ : L2.St) (Q : VK) (o : Except D D) (M' : List C) : Prop := match o with
  | .ok d => ∀ v φ' H', Fr φ H φ' H' → Cells R ψ φ' H' M' → Rep R ψ φ' H' d v → Q v H'
  | .error x => ∀ cls dx φ' H', Fr φ H φ' H' → Cells R ψ φ' H' M' → ExnOk R ψ φ' H' x cls dx → W cls dx σ H'
def tD (R : Rc) (W : WX) (f : Env → List C → Res D) : TE := fun σ H Q => ∃ ψ φ ρ M o M', EnvOk R ψ φ H ρ σ ∧ Cells R ψ φ H M ∧ f ρ M = some (o, M') ∧ Post R W ψ φ H σ Q o M'
section
variable {R : Rc} {W : WX} {ψ φ φ1 : List Addr} {ρ : Env} {σ : L2.St} {H H1 H' : Hp} {M M' M1 : List C} {Q Q' : VK} {o : Except D D} {f fa fb : Env → List C → Res D} {k : D → List C → Res D}
theorem Post.mono (h : Post R W ψ φ H σ Q o M') (g : Fr φ H φ1 H1) : Post R W ψ φ1 H1 σ Q o M' := by
  cases o with
  | ok d => exact fun v φ' H' g' c r => h v φ' H' (g.trans g') c r
  | error x => exact fun cls dx φ' H' g' c r => h cls dx φ' H' (g.trans g') c r
theorem bnd_some {α β : Type} {r : Res α} {k : α → List C → Res β} {z : Except D β × List C} (h : bnd r k = some z) : (∃ a M, r = some (.ok a, M) ∧ k a M = some z) ∨ ∃ x M, r = some (.error x, M) ∧ z = (.error x, M) := by
  rcases r with _ | ⟨_ | a, M⟩
  · cases h
  · exact .inr ⟨_, _, rfl, (Option.some.inj h).symm⟩
  · exact .inl ⟨_, _, rfl, h⟩
theorem bndN_some {α β : Type} {r : Res α} {k : α → List C → Res β} {z : Except D β × List C} (h : bndN r k = some z) : ∃ a M, r = some (.ok a, M) ∧ k a M = some z := by
  rcases r with _ | ⟨_ | a, M⟩
  · cases h
  · cases h
  · exact ⟨_, _, rfl, h⟩
theorem ofO_inv {α : Type} {r : Option α} {z : Except D α × List C} (h : ofO r M = some z) : ∃ a, r = some a ∧ z = (.ok a, M) := by
  cases r with
  | none => cases h
  | some a => exact ⟨a, rfl, (Option.some.inj h).symm⟩
/-- first a part, then what follows -/
theorem tD_step (hρ : EnvOk R ψ φ H ρ σ) (hc : Cells R ψ φ H M) (he : bnd (fa ρ M) k = some (o, M')) (hp : Post R W ψ φ H σ Q o M')
    (hq : ∀ d x φ1 H1 M1, Fr φ H φ1 H1 → EnvOk R ψ φ1 H1 ρ σ → Cells R ψ φ1 H1 M1 → Rep R ψ φ1 H1 d x → k d M1 = some (o, M') → Post R W ψ φ1 H1 σ Q o M' → Q' x H1) : tD R W fa σ H Q' := by
  rcases bnd_some he with ⟨d, M1, e1, e2⟩ | ⟨x, M1, e1, e2⟩
  · exact ⟨ψ, φ, ρ, M, _, _, hρ, hc, e1, fun v φ' H' g c r => hq d v φ' H' M1 g (hρ.mono g) c r e2 (hp.mono g)⟩
  · cases e2
    exact ⟨ψ, φ, ρ, M, _, _, hρ, hc, e1, hp⟩
/-- the last part -/
theorem tD_last (hρ : EnvOk R ψ φ H ρ σ) (hc : Cells R ψ φ H M) (he : fa ρ M = some (o, M')) (hp : Post R W ψ φ H σ Q o M') : tD R W fa σ H Q := ⟨ψ, φ, ρ, M, o, M', hρ, hc, he, hp⟩
theorem Post.ok {d : D} {v : V} (h : Post R W ψ φ H σ Q (.ok d) M') (hs : Same H H') (hc : Cells R ψ φ H M') (r : Rep R ψ φ H' d v) : Q v H' := h v φ H' (.of_same hs) (hc.same hs) r
theorem same_upd {p : Addr} {u : HO} (hp : H p = none) : Same H (upd H p u) := fun b o e => by rw [upd_ne (ne_of_none e hp)]; exact e
end

theorem pe_mono {X : Cx} {e : Expr} {t t' : TE} (h : PE X e t) (i : ∀ σ H Q, t' σ H Q → t σ H Q) : PE X e t' := ⟨fun pins s σ H Q I q => h.run pins s σ H Q I (i σ H Q q)⟩
theorem pt_mono {X : Cx} {e : Expr} {t t' : TT} (h : PT X e t) (i : ∀ σ H Q, t' σ H Q → t σ H Q) : PT X e t' := ⟨fun pins s σ H Q I q => h.run pins s σ H Q I (i σ H Q q)⟩

/-! ### what a value is at the top: its cell read -/
def Top (R : Rc) (ψ φ : List Addr) (H : Hp) : D → V → Prop
  | .lst ds, v => ∃ a vs, v = .ref a ∧ SqL R.K H a vs ∧ Reps R ψ φ H ds vs
  | .dic ks ws, v => ∃ a xs od kv vv, v = .ref a ∧ H a = some (dO R a xs od) ∧ Reps R ψ φ H ks kv ∧ Reps R ψ φ H ws vv ∧ EntOk ks kv vv xs
  | .cell _, _ => False
  | d, v => Rep R ψ φ H d v
section
variable {R : Rc} {ψ φ φ1 : List Addr} {H H' : Hp} {M : List C} {d : D} {v : V}
theorem Rep.top (h : Rep R ψ φ H d v) (hn : ∀ n, d ≠ .cell n) : Top R ψ φ H d v := by
  cases d with
  | tup ds => exact h
  | lst ds =>
    rw [Rep] at h
    obtain ⟨a, vs, e, h1, h2⟩ := h
    exact ⟨a, vs, e, h1.seq, h2⟩
  | dic ks ws =>
    rw [Rep] at h
    obtain ⟨a, xs, od, kv, vv, e, ⟨_, _, h3⟩, h4, h5, h6⟩ := h
    exact ⟨a, xs, od, kv, vv, e, h3, h4, h5, h6⟩
  | cell n => exact absurd rfl (hn n)
  | non => exact h
  | bl _ => exact h
  | int _ => exact h
  | str _ => exact h
  | fn _ => exact h
  | clo _ _ => exact h
  | exn _ _ _ => exact h
theorem Top.tup {ds : List D} (h : Top R ψ φ H (.tup ds) v) : ∃ a vs, v = .ref a ∧ AtT R ψ φ H a vs ∧ Reps R ψ φ H ds vs := by
  have h : Rep R ψ φ H (.tup ds) v := h
  rw [Rep] at h
  exact h
theorem Rep.drf (h : Rep R ψ φ H d v) (hc : Cells R ψ φ H M) : Top R ψ φ H (drf M d) v := by
  by_cases hn : ∃ n, d = .cell n
  · obtain ⟨n, rfl⟩ := hn
    rw [Rep] at h
    obtain ⟨a, rfl, e⟩ := h
    obtain ⟨c, e1, h1⟩ := hc.at e
    unfold Pv.drf
    cases c with
    | lst xs =>
      obtain ⟨vs, h1, h2⟩ := h1
      simp only [e1]
      exact ⟨a, vs, rfl, .of h1, h2⟩
    | dic ks ws =>
      obtain ⟨xs, od, kv, vv, h1, h2⟩ := h1
      simp only [e1]
      exact ⟨a, xs, od, kv, vv, rfl, h1, h2⟩
  · have hn : ∀ n, d ≠ .cell n := fun n e => hn ⟨n, e⟩
    have e : Pv.drf M d = d := by
      cases d <;> first | rfl | exact absurd rfl (hn _)
    rw [e]
    exact h.top hn
mutual
theorem Rep.dp : ∀ (d : D) (p : PyData) (v : V), toPy d = some p → Rep R ψ φ H d v → Dp R.K H v p
  | .non, p, v, e, h => by rw [toPy] at e; cases e; rw [Rep] at h; subst h; exact .non
  | .bl b, p, v, e, h => by rw [toPy] at e; cases e; rw [Rep] at h; subst h; exact .bl b
  | .int b, p, v, e, h => by rw [toPy] at e; cases e; rw [Rep] at h; subst h; exact .int b
  | .str b, p, v, e, h => by rw [toPy] at e; cases e; rw [Rep] at h; subst h; exact .str b
  | .tup ds, p, v, e, h => by
    rw [toPy] at e
    obtain ⟨ps, e', rfl⟩ := Option.map_eq_some_iff.mp e
    rw [Rep] at h
    obtain ⟨a, vs, rfl, h1, h2⟩ := h
    exact .tup h1.seq (Reps.dp ds ps vs e' h2)
  | .lst ds, p, v, e, h => by
    rw [toPy] at e
    obtain ⟨ps, e', rfl⟩ := Option.map_eq_some_iff.mp e
    rw [Rep] at h
    obtain ⟨a, vs, rfl, h1, h2⟩ := h
    exact .lst h1.seq (Reps.dp ds ps vs e' h2)
  | .dic _ _, p, v, e, h => by rw [toPy] at e; cases e
  | .cell _, p, v, e, h => by rw [toPy] at e; cases e
  | .fn _, p, v, e, h => by rw [toPy] at e; cases e
  | .clo _ _, p, v, e, h => by rw [toPy] at e; cases e
  | .exn _ _ _, p, v, e, h => by rw [toPy] at e; cases e
theorem Reps.dp : ∀ (ds : List D) (ps : List PyData) (vs : List V), toPys ds = some ps → Reps R ψ φ H ds vs → DpAll R.K H vs ps
  | [], ps, vs, e, h => by rw [toPys] at e; cases e; rw [h.nil_inv]; exact .nil
  | d :: ds, ps, vs, e, h => by
    rw [toPys] at e
    obtain ⟨v, r, rfl, h1, h2⟩ := h.cons_inv
    cases e1 : toPy d with
    | none => rw [e1] at e; cases e
    | some p =>
      cases e2 : toPys ds with
      | none => rw [e1, e2] at e; cases e
      | some qs =>
        rw [e1, e2] at e
        cases e
        exact .cons (Rep.dp d p v e1 h1) (Reps.dp ds qs r e2 h2)
end
theorem Top.dp {p : PyData} (e : toPy d = some p) (h : Top R ψ φ H d v) : Dp R.K H v p := by
  cases d with
  | tup ds => exact Rep.dp (ψ := ψ) (φ := φ) (.tup ds) p v e h
  | lst ds =>
    rw [toPy] at e
    obtain ⟨ps, e', rfl⟩ := Option.map_eq_some_iff.mp e
    obtain ⟨a, vs, rfl, h1, h2⟩ := h
    exact .lst h1 (Reps.dp ds ps vs e' h2)
  | non => exact Rep.dp (ψ := ψ) (φ := φ) .non p v e h
  | bl b => exact Rep.dp (ψ := ψ) (φ := φ) (.bl b) p v e h
  | int b => exact Rep.dp (ψ := ψ) (φ := φ) (.int b) p v e h
  | str b => exact Rep.dp (ψ := ψ) (φ := φ) (.str b) p v e h
  | dic _ _ => rw [toPy] at e; cases e
  | cell _ => rw [toPy] at e; cases e
  | fn _ => rw [toPy] at e; cases e
  | clo _ _ => rw [toPy] at e; cases e
  | exn _ _ _ => rw [toPy] at e; cases e
end
mutual
theorem toPy_plain : ∀ (d : D) (p : PyData), toPy d = some p → p.plain = true
  | .non, p, e => by rw [toPy] at e; cases e; simp [PyData.plain]
  | .bl b, p, e => by rw [toPy] at e; cases e; simp [PyData.plain]
  | .int b, p, e => by rw [toPy] at e; cases e; simp [PyData.plain]
  | .str b, p, e => by rw [toPy] at e; cases e; simp [PyData.plain]
  | .tup ds, p, e => by
    rw [toPy] at e
    obtain ⟨ps, e', rfl⟩ := Option.map_eq_some_iff.mp e
    rw [PyData.plain]
    exact toPys_plain ds ps e'
  | .lst ds, p, e => by
    rw [toPy] at e
    obtain ⟨ps, e', rfl⟩ := Option.map_eq_some_iff.mp e
    rw [PyData.plain]
    exact toPys_plain ds ps e'
  | .dic _ _, p, e => by rw [toPy] at e; cases e
  | .cell _, p, e => by rw [toPy] at e; cases e
  | .fn _, p, e => by rw [toPy] at e; cases e
  | .clo _ _, p, e => by rw [toPy] at e; cases e
  | .exn _ _ _, p, e => by rw [toPy] at e; cases e
theorem toPys_plain : ∀ (ds : List D) (ps : List PyData), toPys ds = some ps → PyData.plainAll ps = true
  | [], ps, e => by rw [toPys] at e; cases e; simp [PyData.plainAll]
  | d :: ds, ps, e => by
    rw [toPys] at e
    cases e1 : toPy d with
    | none => rw [e1] at e; cases e
    | some p =>
      cases e2 : toPys ds with
      | none => rw [e1, e2] at e; cases e
      | some qs =>
        rw [e1, e2] at e
        cases e
        rw [PyData.plainAll, toPy_plain d p e1, toPys_plain ds qs e2]; rfl
end
end Pv

end T_PvC
section T_PvO
set_option maxRecDepth 100000
set_option maxHeartbeats 1000000
namespace Pv
open PySem PySem.Spec PyProof.Rows L2
section
variable {R : Rc} {ψ φ φ1 : List Addr} {H H' : Hp} {M : List C} {d : D} {v : V}
theorem Top.int {i : Int} (h : Top R ψ φ H (.int i) v) : v = .int i := by have h : Rep R ψ φ H (.int i) v := h; rw [Rep] at h; exact h
theorem Top.bl {i : Bool} (h : Top R ψ φ H (.bl i) v) : v = .bl i := by have h : Rep R ψ φ H (.bl i) v := h; rw [Rep] at h; exact h
theorem Top.str {i : Str} (h : Top R ψ φ H (.str i) v) : v = .str i := by have h : Rep R ψ φ H (.str i) v := h; rw [Rep] at h; exact h
theorem Top.non (h : Top R ψ φ H .non v) : v = .non := by have h : Rep R ψ φ H .non v := h; rw [Rep] at h; exact h
theorem Rep.int {i : Int} (h : Rep R ψ φ H (.int i) v) : v = .int i := by rw [Rep] at h; exact h
theorem Rep.bl {i : Bool} (h : Rep R ψ φ H (.bl i) v) : v = .bl i := by rw [Rep] at h; exact h
theorem Rep.mkInt {i : Int} : Rep R ψ φ H (.int i) (.int i) := by rw [Rep]
theorem Rep.mkBl {i : Bool} : Rep R ψ φ H (.bl i) (.bl i) := by rw [Rep]
theorem Rep.mkStr {i : Str} : Rep R ψ φ H (.str i) (.str i) := by rw [Rep]
theorem Rep.mkNon : Rep R ψ φ H .non .non := by rw [Rep]
/-- a new tuple, a new list -/
theorem Rep.mkTup {ds : List D} {vs : List V} {p : Addr} (hc : Cells R ψ φ H M) (hp : H p = none) (h : Reps R ψ φ H ds vs) : Rep R ψ φ (upd H p (.tup vs)) (.tup ds) (.ref p) := by
  rw [Rep]
  exact ⟨p, vs, rfl, .inl ⟨(hc.free hp).2, (hc.free hp).1, .inl upd_same⟩, Reps.mono (.of_same (same_upd hp)) _ _ h⟩
theorem Rep.mkLst {ds : List D} {vs : List V} {p : Addr} (hc : Cells R ψ φ H M) (hp : H p = none) (h : Reps R ψ φ H ds vs) : Rep R ψ φ (upd H p (.lst vs)) (.lst ds) (.ref p) := by
  rw [Rep]
  exact ⟨p, vs, rfl, .inl ⟨(hc.free hp).2, (hc.free hp).1, .inl upd_same⟩, Reps.mono (.of_same (same_upd hp)) _ _ h⟩
theorem SZ_le {n : Nat} (h : n ≤ SZ) : n ≤ sizeLine := by rw [sizeLine_eq]; exact h
end

/-! ### operators -/
def rTop (R : Rc) (g : D → D → Option D) : R2 := fun x y H Q => ∃ ψ φ M d e z, Cells R ψ φ H M ∧ Top R ψ φ H d x ∧ Top R ψ φ H e y ∧ g d e = some z ∧ ∀ v H', Same H H' → Rep R ψ φ H' z v → Q v H'
section
variable {X : Cx} {pins : List (Addr × Obj)} {σ : L2.St} {H : Hp} {s : Shared}
theorem op_catL {a b : Addr} {xs ys : List V} {Q : VK} (I : Inv X pins σ H s) (ha : SqL X.K H a xs) (hb : SqL X.K H b ys) (hz : xs.length + ys.length ≤ sizeLine) (q : ∀ p, H p = none → Q (.ref p) (upd H p (.lst (xs ++ ys)))) :
    wpAny (model X.prog X.w) X.A (binaryOp .Add (.ref a) (.ref b)) (EP X pins σ Q) X.xe s := by
  obtain ⟨vs, r1, p1, _⟩ := I.list ha
  obtain ⟨ws, r2, p2, _⟩ := I.list hb
  obtain ⟨⟨cls, dd, data, sl⟩, ho, hc, n, hd⟩ := id p1.isList
  obtain ⟨⟨cls2, dd2, data2, sl2⟩, ho2, hc2, n2, hd2⟩ := id p2.isList
  simp only at hc hd hc2 hd2
  subst hc hd hc2 hd2
  have e : vs.toArray ++ ws.toArray = (vs ++ ws).toArray := by simp
  have l1 := r1.length
  have l2 := r2.length
  refine concat_meets ⟨_, ho, rfl⟩ ⟨_, ho2, rfl⟩ noFill_list_add seq_list_add PySem.F.slot_list_add PySem.F.entry_list_add (PySem.F.args_list_add_2 _ _) (list_addW a b vs.toArray ws.toArray n n2 dd dd2 sl sl2 (by simp; omega)) ⟨ho, ho2, ?_⟩
  rw [e]
  exact ⟨.ref _, _, I.lnew (t' := s.toks) (r1.append r2) (by rw [List.length_append]; omega), rfl, q _ I.fresh⟩
/-- a new list of two -/
def rCat (R : Rc) : R2 := fun x y H Q => ∃ ψ φ M ds es, Cells R ψ φ H M ∧ Top R ψ φ H (.lst ds) x ∧ Top R ψ φ H (.lst es) y ∧ ds.length + es.length ≤ SZ ∧ ∀ p vs, H p = none → Reps R ψ φ H (ds ++ es) vs → Q (.ref p) (upd H p (.lst vs))
theorem op_catD : OpR X (binaryOp .Add) (rCat (rc X)) := by
  intro pins s σ H x y v u Q I rx ry ⟨ψ, φ, M, ds, es, hc, hd, he, hz, q⟩
  obtain ⟨a, vs, rfl, h1, h2⟩ := hd
  obtain ⟨b, ws, rfl, k1, k2⟩ := he
  cases rx
  cases ry
  exact op_catL I h1 k1 (by rw [h2.length, k2.length]; exact SZ_le hz) fun p hp => q p _ hp (h2.append k2)
theorem op_addD : OpR X (binaryOp .Add) (rTop (rc X) (binD .add)) := by
  intro pins s σ H x y v u Q I rx ry ⟨ψ, φ, M, d, e, z, hc, hd, he, hz, q⟩
  unfold binD at hz
  split at hz
  · cases hz
    rw [hd.int] at rx
    rw [he.int] at ry
    exact op_add pins s σ H _ _ v u Q I rx ry ⟨_, _, rfl, rfl, q _ H (Same.refl H) .mkInt⟩
  · rename_i heq; cases heq
  · rename_i heq; cases heq
  · rename_i heq; cases heq
  · rename_i heq; cases heq
  · rename_i heq; cases heq
  · split at hz
    · rename_i xs ys heq hl
      cases hz
      obtain ⟨a, vs, rfl, h1, h2⟩ := hd.tup
      obtain ⟨b, ws, rfl, k1, k2⟩ := he.tup
      refine op_catA pins s σ H _ _ v u Q I rx ry ⟨a, b, vs, ws, rfl, rfl, h1.seq, k1.seq, ?_, fun e => ?_, fun n e => ?_, fun n n' p hp => ?_⟩
      · rw [h2.length, k2.length]; exact SZ_le hl
      · have e0 : xs = [] := by have := h2.length; rw [e] at this; exact List.eq_nil_of_length_eq_zero this.symm
        subst e0
        exact q _ H (Same.refl H) (by rw [List.nil_append]; exact he)
      · have e0 : ys = [] := by have := k2.length; rw [e] at this; exact List.eq_nil_of_length_eq_zero this.symm
        subst e0
        exact q _ H (Same.refl H) (by rw [List.append_nil]; exact hd)
      · exact q _ _ (same_upd hp) (.mkTup hc hp (h2.append k2))
    · cases hz
  · split at hz
    · rename_i hl
      cases hz
      obtain ⟨a, vs, rfl, h1, h2⟩ := hd
      obtain ⟨b, ws, rfl, k1, k2⟩ := he
      cases rx
      cases ry
      exact op_catL I h1 k1 (by rw [h2.length, k2.length]; exact SZ_le hl) fun p hp => q _ _ (same_upd hp) (.mkLst hc hp (h2.append k2))
    · cases hz
  · cases hz
theorem op_subD : OpR X (binaryOp .Sub) (rTop (rc X) (binD .sub)) := by
  intro pins s σ H x y v u Q I rx ry ⟨ψ, φ, M, d, e, z, hc, hd, he, hz, q⟩
  unfold binD at hz
  split at hz <;> (try (rename_i heq; cases heq; done)) <;> (try (cases hz; done))
  cases hz
  rw [hd.int] at rx
  rw [he.int] at ry
  exact op_sub pins s σ H _ _ v u Q I rx ry ⟨_, _, rfl, rfl, q _ H (Same.refl H) .mkInt⟩
theorem op_mulD : OpR X (binaryOp .Mult) (rTop (rc X) (binD .mul)) := by
  intro pins s σ H x y v u Q I rx ry ⟨ψ, φ, M, d, e, z, hc, hd, he, hz, q⟩
  unfold binD at hz
  split at hz <;> (try (rename_i heq; cases heq; done)) <;> (try (cases hz; done))
  split at hz
  · rename_i hb
    cases hz
    rw [hd.int] at rx
    rw [he.int] at ry
    refine op_mul pins s σ H _ _ v u Q I rx ry ⟨_, _, rfl, rfl, ?_, q _ H (Same.refl H) .mkInt⟩
    unfold CMul
    unfold BIG at hb
    omega
  · cases hz
theorem op_modD : OpR X (binaryOp .Mod) (rTop (rc X) (binD .mod)) := by
  intro pins s σ H x y v u Q I rx ry ⟨ψ, φ, M, d, e, z, hc, hd, he, hz, q⟩
  unfold binD at hz
  split at hz <;> (try (rename_i heq; cases heq; done)) <;> (try (cases hz; done))
  split at hz
  · rename_i hb
    cases hz
    rw [hd.int] at rx
    rw [he.int] at ry
    exact op_mod pins s σ H _ _ v u Q I rx ry ⟨_, _, rfl, rfl, hb, q _ H (Same.refl H) .mkInt⟩
  · cases hz
theorem op_fdivD : OpR X (binaryOp .FloorDiv) (rTop (rc X) (binD .fdiv)) := by
  intro pins s σ H x y v u Q I rx ry ⟨ψ, φ, M, d, e, z, hc, hd, he, hz, q⟩
  unfold binD at hz
  split at hz <;> (try (rename_i heq; cases heq; done)) <;> (try (cases hz; done))
  split at hz
  · rename_i hb
    cases hz
    rw [hd.int] at rx
    rw [he.int] at ry
    exact op_fdiv pins s σ H _ _ v u Q I rx ry ⟨_, _, rfl, rfl, hb, q _ H (Same.refl H) .mkInt⟩
  · cases hz
theorem op_powD : OpR X (binaryOp .Pow) (rTop (rc X) (binD .pow)) := by
  intro pins s σ H x y v u Q I rx ry ⟨ψ, φ, M, d, e, z, hc, hd, he, hz, q⟩
  unfold binD at hz
  split at hz <;> (try (rename_i heq; cases heq; done)) <;> (try (cases hz; done))
  split at hz
  · rename_i hb
    cases hz
    rw [hd.int] at rx
    rw [he.int] at ry
    exact op_pow pins s σ H _ _ v u Q I rx ry ⟨_, _, rfl, rfl, hb, q _ H (Same.refl H) .mkInt⟩
  · cases hz
def bopOf : Operator → Option BOp
  | .Add => some .add | .Sub => some .sub | .Mult => some .mul | .Mod => some .mod | .FloorDiv => some .fdiv | .Pow => some .pow
  | _ => none
theorem op_binD {op : Operator} {b : BOp} (h : bopOf op = some b) : OpR X (binaryOp op) (rTop (rc X) (binD b)) := by
  cases op <;> first | (cases h; done) | (cases h; first | exact op_addD | exact op_subD | exact op_mulD | exact op_modD | exact op_fdivD | exact op_powD)
end
end Pv

end T_PvO
section T_PvP
set_option maxRecDepth 100000
set_option maxHeartbeats 1000000
namespace Pv
open PySem PySem.Spec PyProof.Rows L2
section
variable {X : Cx} {pins : List (Addr × Obj)} {σ : L2.St} {H : Hp} {s : Shared} {ψ φ : List Addr} {M : List C} {d e : D} {x y : V} {v u : Value}
theorem Top.reads (I : Inv X pins σ H s) {p : PyData} (e : toPy d = some p) (h : Top (rc X) ψ φ H d x) (r : RelV x v) : ∃ as, Reads s.heap v p as := Dp.reads I p x v (h.dp e) r
theorem Reps.reads (I : Inv X pins σ H s) {ds : List D} {vs : List V} {us : List Value} {ps : List PyData} (e : toPys ds = some ps) (h : Reps (rc X) ψ φ H ds vs) (r : Vals vs us) : ∃ as, ReadsAll s.heap us ps as := Dp.readsAll I ps vs us (Reps.dp ds ps vs e h) r
/-- ints are data, too -/
theorem eqD_gen (h : eqD d e = some b) : ∃ p q, toPy d = some p ∧ toPy e = some q ∧ p.depth ≤ DEEP ∧ PyData.eqv p q = b := by
  unfold eqD at h
  split at h
  · cases h
    refine ⟨_, _, by rw [toPy], by rw [toPy], by simp [PyData.depth], ?_⟩
    simp only [PyData.eqv]
    rfl
  · split at h
    · rename_i p q e1 e2
      split at h
      · rename_i hd
        cases h
        exact ⟨p, q, e1, e2, hd, rfl⟩
      · cases h
    · cases h
theorem notNone_ne {p : PyData} (h : notNone p = true) : p ≠ .none := fun e => by rw [e] at h; cases h
theorem ltD_gen (h : ltD d e = some b) : ∃ p q, toPy d = some p ∧ toPy e = some q ∧ W.alike p q = true ∧ W.alike q p = true ∧ p ≠ .none ∧ q ≠ .none ∧ p.depth ≤ DEEP ∧ q.depth ≤ DEEP ∧ W.dataLt p q = b := by
  unfold ltD at h
  split at h
  · cases h
    refine ⟨_, _, by rw [toPy], by rw [toPy], by simp [W.alike], by simp [W.alike], by simp, by simp, by simp [PyData.depth], by simp [PyData.depth], ?_⟩
    exact PySem.W.dataLt_int _ _
  · split at h
    · rename_i p q e1 e2
      split at h
      · rename_i hd
        cases h
        simp only [Bool.and_eq_true, decide_eq_true_eq] at hd
        obtain ⟨⟨⟨⟨⟨h1, h2⟩, h3⟩, h4⟩, h5⟩, h6⟩ := hd
        exact ⟨p, q, e1, e2, h1, h2, notNone_ne h3, notNone_ne h4, h5, h6, rfl⟩
      · cases h
    · cases h
abbrev rB (R : Rc) (op : COp) : R2 := rTop R fun a b => (cmpD op a b).map .bl
theorem room_min {A : Around} (hu : A.units + 64 < cLine) {a b : Nat} (h : a ≤ DEEP) : A.units + min a b < cLine := by
  have := Nat.min_le_left a b
  unfold DEEP at h
  omega
theorem op_eqC (hu : X.A.units + 64 < cLine) : OpR X (compareOp .Eq) (rB (rc X) .eq) := by
  intro pins s σ H x y v u Q I rx ry ⟨ψ, φ, M, d, e, z, hc, hd, he, hz, q⟩
  obtain ⟨b, hb, rfl⟩ := Option.map_eq_some_iff.mp hz
  obtain ⟨p, q', e1, e2, h1, rfl⟩ := eqD_gen hb
  obtain ⟨as, r1⟩ := hd.reads I e1 rx
  obtain ⟨bs, r2⟩ := he.reads I e2 ry
  exact PySem.SeqAt.eq_plain r1 r2 (toPy_plain _ _ e1) (toPy_plain _ _ e2) (room_min hu h1) ⟨.bl _, H, I, rfl, q _ H (Same.refl H) .mkBl⟩
theorem op_neC (hu : X.A.units + 64 < cLine) : OpR X (compareOp .NotEq) (rB (rc X) .ne) := by
  intro pins s σ H x y v u Q I rx ry ⟨ψ, φ, M, d, e, z, hc, hd, he, hz, q⟩
  obtain ⟨b, hb, rfl⟩ := Option.map_eq_some_iff.mp hz
  obtain ⟨b, hb2, rfl⟩ := Option.map_eq_some_iff.mp hb
  obtain ⟨p, q', e1, e2, h1, rfl⟩ := eqD_gen hb2
  obtain ⟨as, r1⟩ := hd.reads I e1 rx
  obtain ⟨bs, r2⟩ := he.reads I e2 ry
  exact PySem.SeqAt.ne_plain r1 r2 (toPy_plain _ _ e1) (toPy_plain _ _ e2) (room_min hu h1) ⟨.bl _, H, I, rfl, q _ H (Same.refl H) .mkBl⟩
theorem op_ltC (hu : X.A.units + 64 < cLine) : OpR X (compareOp .Lt) (rB (rc X) .lt) := by
  intro pins s σ H x y v u Q I rx ry ⟨ψ, φ, M, d, e, z, hc, hd, he, hz, q⟩
  obtain ⟨b, hb, rfl⟩ := Option.map_eq_some_iff.mp hz
  obtain ⟨p, q', e1, e2, h1, h2, h3, h4, h5, h6, rfl⟩ := ltD_gen hb
  obtain ⟨as, r1⟩ := hd.reads I e1 rx
  obtain ⟨bs, r2⟩ := he.reads I e2 ry
  exact PySem.W.lt_data r1 r2 h1 h3 (room_min hu h5) ⟨.bl _, H, I, rfl, q _ H (Same.refl H) .mkBl⟩
theorem op_gtC (hu : X.A.units + 64 < cLine) : OpR X (compareOp .Gt) (rB (rc X) .gt) := by
  intro pins s σ H x y v u Q I rx ry ⟨ψ, φ, M, d, e, z, hc, hd, he, hz, q⟩
  obtain ⟨b, hb, rfl⟩ := Option.map_eq_some_iff.mp hz
  obtain ⟨p, q', e1, e2, h1, h2, h3, h4, h5, h6, rfl⟩ := ltD_gen hb
  obtain ⟨as, r1⟩ := hd.reads I e2 rx
  obtain ⟨bs, r2⟩ := he.reads I e1 ry
  exact PySem.W.gt_data r1 r2 h2 h4 (room_min hu h6) ⟨.bl _, H, I, rfl, q _ H (Same.refl H) .mkBl⟩
theorem op_leC (hu : X.A.units + 64 < cLine) : OpR X (compareOp .LtE) (rB (rc X) .le) := by
  intro pins s σ H x y v u Q I rx ry ⟨ψ, φ, M, d, e, z, hc, hd, he, hz, q⟩
  obtain ⟨b, hb, rfl⟩ := Option.map_eq_some_iff.mp hz
  obtain ⟨b, hb2, rfl⟩ := Option.map_eq_some_iff.mp hb
  obtain ⟨p, q', e1, e2, h1, h2, h3, h4, h5, h6, rfl⟩ := ltD_gen hb2
  obtain ⟨as, r1⟩ := hd.reads I e2 rx
  obtain ⟨bs, r2⟩ := he.reads I e1 ry
  exact PySem.W.le_data r1 r2 h2 h4 (room_min hu h6) ⟨.bl _, H, I, rfl, q _ H (Same.refl H) .mkBl⟩
theorem op_geC (hu : X.A.units + 64 < cLine) : OpR X (compareOp .GtE) (rB (rc X) .ge) := by
  intro pins s σ H x y v u Q I rx ry ⟨ψ, φ, M, d, e, z, hc, hd, he, hz, q⟩
  obtain ⟨b, hb, rfl⟩ := Option.map_eq_some_iff.mp hz
  obtain ⟨b, hb2, rfl⟩ := Option.map_eq_some_iff.mp hb
  obtain ⟨p, q', e1, e2, h1, h2, h3, h4, h5, h6, rfl⟩ := ltD_gen hb2
  obtain ⟨as, r1⟩ := hd.reads I e1 rx
  obtain ⟨bs, r2⟩ := he.reads I e2 ry
  exact PySem.W.ge_data r1 r2 h1 h3 (room_min hu h5) ⟨.bl _, H, I, rfl, q _ H (Same.refl H) .mkBl⟩

/-! ### keys -/
theorem nkeys_cons {d : D} {ds : List D} {ks : List NestedKey} (h : nkeys (d :: ds) = some ks) : ∃ k r, ks = k :: r ∧ nkey d = some k ∧ nkeys ds = some r := by
  rw [nkeys] at h
  split at h
  · rename_i a b e1 e2
    cases h
    exact ⟨a, b, rfl, e1, e2⟩
  · cases h
mutual
theorem nkey_inj : ∀ (a b : D) (k : NestedKey), nkey a = some k → nkey b = some k → a = b
  | .int i, b, k, e, e' => by
    rw [nkey] at e
    cases e
    cases b <;> simp [nkey] at e'
    rw [e']
  | .str i, b, k, e, e' => by
    rw [nkey] at e
    cases e
    cases b <;> simp [nkey] at e'
    rw [e']
  | .tup xs, b, k, e, e' => by
    rw [nkey] at e
    obtain ⟨ks, h1, rfl⟩ := Option.map_eq_some_iff.mp e
    cases b <;> simp [nkey] at e'
    rw [nkeys_inj xs _ ks h1 e']
  | .non, b, k, e, _ => by simp [nkey] at e
  | .bl _, b, k, e, _ => by simp [nkey] at e
  | .lst _, b, k, e, _ => by simp [nkey] at e
  | .dic _ _, b, k, e, _ => by simp [nkey] at e
  | .cell _, b, k, e, _ => by simp [nkey] at e
  | .fn _, b, k, e, _ => by simp [nkey] at e
  | .clo _ _, b, k, e, _ => by simp [nkey] at e
  | .exn _ _ _, b, k, e, _ => by simp [nkey] at e
theorem nkeys_inj : ∀ (a b : List D) (k : List NestedKey), nkeys a = some k → nkeys b = some k → a = b
  | [], b, k, e, e' => by
    rw [nkeys] at e
    cases e
    cases b with
    | nil => rfl
    | cons b bs =>
      obtain ⟨_, _, h, _⟩ := nkeys_cons e'
      cases h
  | a :: as, b, k, e, e' => by
    obtain ⟨k1, r1, rfl, h1, h2⟩ := nkeys_cons e
    cases b with
    | nil => rw [nkeys] at e'; cases e'
    | cons b bs =>
      obtain ⟨_, _, h, h3, h4⟩ := nkeys_cons e'
      cases h
      rw [nkey_inj a b k1 h1 h3, nkeys_inj as bs r1 h2 h4]
end
mutual
theorem Rep.nested (I : Inv X pins σ H s) : ∀ (d : D) (k : NestedKey) (v : V) (u : Value), nkey d = some k → Rep (rc X) ψ φ H d v → RelV v u → NestedIs s.heap k u
  | .int i, k, v, u, e, h, r => by
    rw [nkey] at e; cases e
    rw [Rep] at h; subst h
    obtain ⟨t, rfl⟩ := r
    exact .int _ _
  | .str i, k, v, u, e, h, r => by
    rw [nkey] at e; cases e
    rw [Rep] at h; subst h
    obtain ⟨t, rfl⟩ := r
    exact .text _ _
  | .tup ds, k, v, u, e, h, r => by
    rw [nkey] at e
    obtain ⟨ks, h1, rfl⟩ := Option.map_eq_some_iff.mp e
    rw [Rep] at h
    obtain ⟨a, vs, rfl, h2, h3⟩ := h
    cases r
    obtain ⟨its, rv, ⟨o, ho, hc, n, hd⟩, _⟩ := I.tuple h2.seq
    exact .tup ho hc hd (by simpa using Reps.nested I ds ks vs its h1 h3 rv)
  | .non, k, v, u, e, _, _ => by simp [nkey] at e
  | .bl _, k, v, u, e, _, _ => by simp [nkey] at e
  | .lst _, k, v, u, e, _, _ => by simp [nkey] at e
  | .dic _ _, k, v, u, e, _, _ => by simp [nkey] at e
  | .cell _, k, v, u, e, _, _ => by simp [nkey] at e
  | .fn _, k, v, u, e, _, _ => by simp [nkey] at e
  | .clo _ _, k, v, u, e, _, _ => by simp [nkey] at e
  | .exn _ _ _, k, v, u, e, _, _ => by simp [nkey] at e
theorem Reps.nested (I : Inv X pins σ H s) : ∀ (ds : List D) (ks : List NestedKey) (vs : List V) (us : List Value), nkeys ds = some ks → Reps (rc X) ψ φ H ds vs → Vals vs us → NestedAll s.heap ks us
  | [], ks, vs, us, e, h, r => by
    rw [nkeys] at e; cases e
    have h := h.nil_inv
    subst h
    cases r
    exact .nil
  | d :: ds, ks, vs, us, e, h, r => by
    obtain ⟨k1, r1, rfl, h1, h2⟩ := nkeys_cons e
    obtain ⟨v, vr, rfl, h3, h4⟩ := h.cons_inv
    cases r with
    | cons q1 q2 => exact .cons (Rep.nested I d k1 v _ h1 h3 q1) (Reps.nested I ds r1 vr _ h2 h4 q2)
end
/-- what keyIn says -/
theorem keyIn_nkey : ∀ (n : Nat) (d : D), keyIn n d = true → ∃ k, nkey d = some k ∧ k.depth ≤ n
  | n, .int i, _ => ⟨.num i, by rw [nkey], by simp [NestedKey.depth]⟩
  | n, .str i, _ => ⟨.text i, by rw [nkey], by simp [NestedKey.depth]⟩
  | n + 1, .tup xs, h => by
    have h : xs.all (keyIn n) = true := h
    have key : ∀ xs : List D, xs.all (keyIn n) = true → ∃ ks, nkeys xs = some ks ∧ NestedKey.depthAll ks ≤ n := by
      intro xs
      induction xs with
      | nil => intro _; exact ⟨[], by rw [nkeys], by simp [NestedKey.depthAll]⟩
      | cons a as ih =>
        intro h
        rw [List.all_cons, Bool.and_eq_true] at h
        obtain ⟨k, e1, d1⟩ := keyIn_nkey n a h.1
        obtain ⟨ks, e2, d2⟩ := ih h.2
        exact ⟨k :: ks, by rw [nkeys, e1, e2], by rw [NestedKey.depthAll]; omega⟩
    obtain ⟨ks, e, hd⟩ := key xs h
    refine ⟨.tup ks, by rw [nkey, e]; rfl, ?_⟩
    rw [NestedKey.depth]
    omega
  | 0, .tup xs, h => by simp [keyIn] at h
  | n, .non, h => by cases n <;> simp [keyIn] at h
  | n, .bl _, h => by cases n <;> simp [keyIn] at h
  | n, .lst _, h => by cases n <;> simp [keyIn] at h
  | n, .dic _ _, h => by cases n <;> simp [keyIn] at h
  | n, .cell _, h => by cases n <;> simp [keyIn] at h
  | n, .fn _, h => by cases n <;> simp [keyIn] at h
  | n, .clo _ _, h => by cases n <;> simp [keyIn] at h
  | n, .exn _ _ _, h => by cases n <;> simp [keyIn] at h
theorem keyKind_true (h : keyKind d = some true) : ∃ ks, nkey d = some (.tup ks) ∧ (NestedKey.tup ks).depth ≤ 8 ∧ ∃ ds, d = .tup ds := by
  cases d with
  | tup xs =>
    simp only [keyKind] at h
    split at h
    · rename_i ha
      obtain ⟨k, e, hd⟩ := keyIn_nkey 7 (.tup xs) (by simpa [keyIn] using ha)
      have e' := e
      rw [nkey] at e'
      obtain ⟨ks, h1, rfl⟩ := Option.map_eq_some_iff.mp e'
      exact ⟨ks, e, by omega, xs, rfl⟩
    · cases h
  | _ => simp [keyKind] at h
end
end Pv

end T_PvP
section T_PvQ
set_option maxRecDepth 100000
set_option maxHeartbeats 1000000
namespace Pv
open PySem PySem.Spec PyProof.Rows L2

/-! ### dicts by their entries -/
theorem nkeys_length : ∀ {ks : List D} {ns : List NestedKey}, nkeys ks = some ns → ns.length = ks.length
  | [], ns, h => by rw [nkeys] at h; cases h; rfl
  | k :: ks, ns, h => by
    obtain ⟨_, _, rfl, _, h2⟩ := nkeys_cons h
    simp [nkeys_length h2]
theorem atKey_nil (k : NestedKey) : atKey ([] : List Ent) k = none := rfl
theorem atKey_cons (x : Ent) (xs : List Ent) (k : NestedKey) : atKey (x :: xs) k = if x.1 = k then some x.2 else atKey xs k := by
  unfold atKey
  rw [List.find?_cons]
  by_cases h : x.1 = k <;> simp [h]
theorem nkeys_mem : ∀ {ks : List D} {xs : List Ent} {x : D} {k : NestedKey}, nkeys ks = some (xs.map (·.1)) → nkey x = some k → (decide (x ∈ ks)) = (atKey xs k).isSome
  | [], xs, x, k, h, e => by
    rw [nkeys] at h
    have : xs = [] := by cases xs with | nil => rfl | cons _ _ => cases h
    subst this
    simp [atKey_nil]
  | d :: ks, xs, x, k, h, e => by
    obtain ⟨k1, r1, h0, h1, h2⟩ := nkeys_cons h
    cases xs with
    | nil => cases h0
    | cons y ys =>
      simp only [List.map_cons, List.cons.injEq] at h0
      obtain ⟨rfl, rfl⟩ := h0
      rw [atKey_cons]
      by_cases q : y.1 = k
      · have : d = x := nkey_inj d x k (by rw [h1, q]) e
        simp [q, this]
      · have hn : x ≠ d := fun z => q (by rw [z, h1] at e; exact Option.some.inj e)
        rw [if_neg q, ← nkeys_mem h2 e]
        simp [hn]
section
variable {R : Rc} {ψ φ : List Addr} {H : Hp}
theorem dget_at : ∀ {ks vs : List D} {vv : List V} {xs : List Ent} {x d : D} {k : NestedKey}, nkeys ks = some (xs.map (·.1)) → Reps R ψ φ H vs vv → Vals vv (xs.map (·.2.2)) → nkey x = some k → dget ks vs x = some d →
    ∃ p w, atKey xs k = some p ∧ RelV w p.2 ∧ Rep R ψ φ H d w
  | [], vs, vv, xs, x, d, k, h, hv, hr, e, g => by cases g
  | c :: ks, [], vv, xs, x, d, k, h, hv, hr, e, g => by cases g
  | c :: ks, v :: vs, vv, xs, x, d, k, h, hv, hr, e, g => by
    obtain ⟨k1, r1, h0, h1, h2⟩ := nkeys_cons h
    cases xs with
    | nil => cases h0
    | cons y ys =>
      simp only [List.map_cons, List.cons.injEq] at h0
      obtain ⟨rfl, rfl⟩ := h0
      obtain ⟨w, wr, rfl, q1, q2⟩ := hv.cons_inv
      cases hr with
      | cons s1 s2 =>
        rw [atKey_cons]
        unfold dget at g
        by_cases q : x = c
        · rw [if_pos q] at g
          cases g
          have : y.1 = k := by rw [← q, e] at h1; exact (Option.some.inj h1).symm
          exact ⟨y.2, w, by rw [if_pos this], s1, q1⟩
        · rw [if_neg q] at g
          have : ¬ y.1 = k := fun z => q (nkey_inj x c k e (by rw [h1, z]))
          rw [if_neg this]
          exact dget_at h2 q2 s2 e g
/-- a store -/
theorem putAt_ne {k : NestedKey} {v : Value} {x : Ent} (h : ¬ x.1 = k) : putAt k v x = x := by unfold putAt; rw [if_neg h]
theorem putAll_ne {k : NestedKey} {v : Value} : ∀ {xs : List Ent}, (∀ x ∈ xs, ¬ x.1 = k) → xs.map (putAt k v) = xs
  | [], _ => rfl
  | x :: xs, h => by rw [List.map_cons, putAt_ne (h x List.mem_cons_self), putAll_ne fun y hy => h y (List.mem_cons_of_mem _ hy)]
theorem ent_put : ∀ {ks vs : List D} {kv vv : List V} {xs : List Ent} {x d : D} {k : NestedKey} {w : V} {u : Value} {a : Addr},
    nkeys ks = some (xs.map (·.1)) → (xs.map (·.1)).Nodup → kv = xs.map (fun x => V.ref x.2.1) → Reps R ψ φ H ks kv → Reps R ψ φ H vs vv → Vals vv (xs.map (·.2.2)) → nkey x = some k → Rep R ψ φ H x (.ref a) → Rep R ψ φ H d w → RelV w u →
    ∃ kv' vv', Reps R ψ φ H (dputK ks x) kv' ∧ Reps R ψ φ H (dputV ks vs x d) vv' ∧ kv' = (storedH xs k a u).map (fun x => V.ref x.2.1) ∧ nkeys (dputK ks x) = some ((storedH xs k a u).map (·.1)) ∧ Vals vv' ((storedH xs k a u).map (·.2.2))
  | [], vs, kv, vv, xs, x, d, k, w, u, a, h, hd, hk, rk, rv, hv, e, rx, rd, ru => by
    rw [nkeys] at h
    have hx : xs = [] := by cases xs with | nil => rfl | cons _ _ => cases h
    subst hx
    cases hv
    have q1 : dputK [] x = [x] := by simp [dputK]
    have q2 : dputV [] vs x d = [d] := by cases vs <;> rfl
    rw [q1, q2, storedH_new (atKey_nil k)]
    exact ⟨[.ref a], [w], .cons rx .nil, .cons rd .nil, rfl, by rw [nkeys, e, nkeys]; rfl, .cons ru .nil⟩
  | c :: ks, vs, kv, vv, xs, x, d, k, w, u, a, h, hd, hk, rk, rv, hv, e, rx, rd, ru => by
    obtain ⟨k1, r1, h0, h1, h2⟩ := nkeys_cons h
    cases xs with
    | nil => cases h0
    | cons y ys =>
      simp only [List.map_cons, List.cons.injEq] at h0
      obtain ⟨rfl, rfl⟩ := h0
      cases vs with
      | nil =>
        have := rv.nil_inv
        subst this
        cases hv
      | cons v vs =>
        obtain ⟨wv, wr, rfl, q1, q2⟩ := rv.cons_inv
        cases hv with
        | cons s1 s2 =>
          subst hk
          rw [List.map_cons] at rk
          have t1 : Rep R ψ φ H c (.ref y.2.1) := by
            obtain ⟨_, _, z, t1, _⟩ := rk.cons_inv
            cases z
            exact t1
          have t2 : Reps R ψ φ H ks (ys.map fun x => V.ref x.2.1) := by
            obtain ⟨_, _, z, _, t2⟩ := rk.cons_inv
            cases z
            exact t2
          have hd' := List.nodup_cons.mp hd
          by_cases q : x = c
          · subst q
            have hk0 : y.1 = k := by rw [e] at h1; exact (Option.some.inj h1).symm
            have m1 : dputK (x :: ks) x = x :: ks := by simp [dputK]
            have m2 : dputV (x :: ks) (v :: vs) x d = d :: vs := by simp [dputV]
            have m3 : storedH (y :: ys) k a u = (y.1, y.2.1, u) :: ys := by
              rw [storedH_old (p := y.2) (by rw [atKey_cons, if_pos hk0]), List.map_cons]
              rw [putAll_ne fun z hz z' => hd'.1 (List.mem_map.mpr ⟨z, hz, z'.trans hk0.symm⟩)]
              unfold putAt
              rw [if_pos hk0]
            rw [m1, m2, m3]
            exact ⟨_, _, .cons t1 t2, .cons rd q2, rfl, by rw [nkeys, h1, h2]; rfl, .cons ru s2⟩
          · have hk0 : ¬ y.1 = k := fun z => q (nkey_inj x c k e (by rw [h1, z]))
            obtain ⟨kv', vv', z1, z2, z3, z4, z5⟩ := ent_put (vv := wr) (xs := ys) h2 hd'.2 rfl t2 q2 s2 e rx rd ru
            have m1 : dputK (c :: ks) x = c :: dputK ks x := by
              unfold dputK
              by_cases m : x ∈ ks <;> simp [m, q]
            have m2 : dputV (c :: ks) (v :: vs) x d = v :: dputV ks vs x d := by simp [dputV, q]
            have m3 : storedH (y :: ys) k a u = y :: storedH ys k a u := by
              unfold storedH
              rw [atKey_cons, if_neg hk0]
              split
              · rw [List.map_cons, putAt_ne hk0]
              · rfl
            rw [m1, m2, m3]
            exact ⟨_, _, .cons t1 z1, .cons q1 z2, by rw [List.map_cons, z3], by rw [nkeys, h1, z4]; rfl, .cons s1 z5⟩
end
theorem storedH_ok {xs : List Ent} {k : NestedKey} {a : Addr} {u : Value} (h : ∀ x ∈ xs, x.1.depth ≤ 8 ∧ ∃ q, x.1 = .tup q) (hk : k.depth ≤ 8 ∧ ∃ q, k = .tup q) : ∀ x ∈ storedH xs k a u, x.1.depth ≤ 8 ∧ ∃ q, x.1 = .tup q := by
  intro x hx
  unfold storedH at hx
  split at hx
  · obtain ⟨y, hy, rfl⟩ := List.mem_map.mp hx
    have : (putAt k u y).1 = y.1 := by unfold putAt; split <;> rfl
    rw [this]
    exact h y hy
  · rcases List.mem_append.mp hx with hx | hx
    · exact h x hx
    · rw [List.mem_singleton.mp hx]
      exact hk
theorem storedH_length (xs : List Ent) (k : NestedKey) (a : Addr) (u : Value) : (storedH xs k a u).length ≤ xs.length + 1 := by
  unfold storedH
  split <;> simp

theorem vals_refs : ∀ xs : List Ent, Vals (xs.map fun x => V.ref x.2.1) (xs.map fun x => Value.ref x.2.1)
  | [] => .nil
  | y :: ys => .cons rfl (vals_refs ys)
theorem nested_mem {h : Heap} : ∀ {xs : List Ent} {x : Ent}, NestedAll h (xs.map (·.1)) (xs.map fun x => Value.ref x.2.1) → x ∈ xs → NestedIs h x.1 (.ref x.2.1)
  | [], _, _, hm => by cases hm
  | y :: ys, x, ha, hm => by
    cases ha with
    | cons h1 h2 =>
      rcases List.mem_cons.mp hm with rfl | hm
      · exact h1
      · exact nested_mem h2 hm
theorem keyOk_true {ks : List D} {x : D} {xs : List Ent} (h : keyOk ks x = true) (hk : nkeys ks = some (xs.map (·.1))) (ok : ∀ x ∈ xs, x.1.depth ≤ 8 ∧ ∃ q, x.1 = .tup q) : keyKind x = some true := by
  unfold keyOk at h
  cases ks with
  | nil => simpa using h
  | cons k ks =>
    obtain ⟨k1, r1, h0, h1, _⟩ := nkeys_cons hk
    cases xs with
    | nil => cases h0
    | cons y ys =>
      simp only [List.map_cons, List.cons.injEq] at h0
      obtain ⟨rfl, rfl⟩ := h0
      obtain ⟨_, q, hq⟩ := ok y List.mem_cons_self
      rw [hq] at h1
      simp only [Bool.and_eq_true, beq_iff_eq] at h
      obtain ⟨h2, h3⟩ := h
      cases k with
      | tup ds =>
        have e : keyKind (.tup ds) = some true ∨ keyKind (.tup ds) = none := by
          simp only [keyKind]
          split
          · exact .inl rfl
          · exact .inr rfl
        rcases e with e | e
        · rw [h3, e]
        · rw [h3, e] at h2; cases h2
      | int _ => simp [nkey] at h1
      | str _ => simp [nkey] at h1
      | _ => simp [nkey] at h1
section
variable {X : Cx} {pins : List (Addr × Obj)} {σ : L2.St} {H : Hp} {s : Shared} {ψ φ : List Addr} {M : List C}
theorem Inv.dictH (I : Inv X pins σ H s) {a : Addr} {xs : List Ent} {od : Obj} {ks : List D} {kv vv : List V} (h : H a = some (dO (rc X) a xs od)) (hk : Reps (rc X) ψ φ H ks kv) (e : EntOk ks kv vv xs) :
    (a == sysModules) = false ∧ s.heap.DictOfH (nestedKind X.prog X.w) a xs := by
  obtain ⟨⟨hs, ho, hx, es, ep, hd, he, hn⟩, _⟩ := I.hok a _ h
  refine ⟨hs, od, es, ep, ho, hx, hd, he, fun x hm => ⟨?_, (e.ok x hm).1⟩, hn⟩
  have hv : Vals kv (xs.map fun x => Value.ref x.2.1) := by
    rw [e.kv]
    exact vals_refs xs
  exact nested_mem (Reps.nested I ks _ kv _ e.nk hk hv) hm
theorem keyed_room {A : Around} (hu : A.units + 64 < cLine) (R : Rc) : (nestedKind R.P R.w).room A.in1 := by
  show A.units + 1 + 8 < cLine
  omega
theorem in_dict {x : D} {v u : Value} {xv cv : V} {ks ws : List D} (hu : X.A.units + 64 < cLine) (I : Inv X pins σ H s) (hc : Top (rc X) ψ φ H (.dic ks ws) cv) (hx : Top (rc X) ψ φ H x xv) (hk : keyOk ks x = true)
    (rx : RelV xv v) (ry : RelV cv u) : ∃ nk a b, v = .ref a ∧ u = .ref b ∧ (b == sysModules) = false ∧ nkey x = some nk ∧ (nestedKind X.prog X.w).is s.heap nk a ∧ ∃ xs od, s.heap.DictOfH (nestedKind X.prog X.w) b xs ∧ nkeys ks = some (xs.map (·.1)) ∧
      H b = some (dO (rc X) b xs od) ∧ xv = .ref a ∧ cv = .ref b ∧ (∃ q, nk = .tup q) ∧ ∃ kv vv, Reps (rc X) ψ φ H ks kv ∧ Reps (rc X) ψ φ H ws vv ∧ EntOk ks kv vv xs := by
  obtain ⟨b, xs, od, kv, vv, rfl, h1, h2, h3, h4⟩ := hc
  cases ry
  obtain ⟨hs, hd⟩ := Inv.dictH I h1 h2 h4
  have kk : keyKind x = some true := keyOk_true hk h4.nk h4.ok
  obtain ⟨qs, e1, e2, ds, rfl⟩ := keyKind_true kk
  obtain ⟨a, vs, rfl, _, _⟩ := hx.tup
  cases rx
  exact ⟨_, a, b, rfl, rfl, hs, e1, ⟨Rep.nested I _ _ _ _ e1 hx rfl, e2⟩, xs, od, hd, h4.nk, h1, rfl, rfl, ⟨_, rfl⟩, kv, vv, h2, h3, h4⟩
theorem op_inC (hu : X.A.units + 64 < cLine) : OpR X (compareOp .In) (rB (rc X) .isin) := by
  intro pins s σ H x y v u Q I rx ry ⟨ψ, φ, M, d, e, z, hc, hd, he, hz, q⟩
  obtain ⟨b, hb, rfl⟩ := Option.map_eq_some_iff.mp hz
  replace hb : inD d e = some b := hb
  unfold inD at hb
  split at hb
  · split at hb
    · rename_i ys p qs e1 e2
      split at hb
      · rename_i hdp
        cases hb
        obtain ⟨as, r1⟩ := hd.reads I e1 rx
        obtain ⟨bs, r2⟩ := he.reads I (p := .tuple qs) (by rw [toPy, e2]; rfl) ry
        refine PySem.SeqAt.in_tuple_data r2 r1 (toPys_plain _ _ e2) (toPy_plain _ _ e1) ?_ ⟨.bl _, H, I, rfl, q _ H (Same.refl H) .mkBl⟩
        have := Nat.min_le_right (PyData.depthAll qs) p.depth
        unfold DEEP at hdp
        omega
      · cases hb
    · cases hb
  · split at hb
    · rename_i ys p qs e1 e2
      split at hb
      · rename_i hdp
        cases hb
        obtain ⟨as, r1⟩ := hd.reads I e1 rx
        obtain ⟨bs, r2⟩ := he.reads I (p := .list qs) (by rw [toPy, e2]; rfl) ry
        refine PySem.SeqAt.in_list_data r2 r1 (toPys_plain _ _ e2) (toPy_plain _ _ e1) ?_ ⟨.bl _, H, I, rfl, q _ H (Same.refl H) .mkBl⟩
        have := Nat.min_le_right (PyData.depthAll qs) p.depth
        unfold DEEP at hdp
        omega
      · cases hb
    · cases hb
  · split at hb
    · rename_i ks ws hk
      cases hb
      obtain ⟨nk, a, c, rfl, rfl, hs, e1, e2, xs, od, hx, e3, _⟩ := in_dict hu I he hd hk rx ry
      refine wpAny_in_heap (keyed_room hu (rc X)) e2 hs hx ⟨.bl _, H, I.tok _, rfl, ?_⟩
      rw [← nkeys_mem e3 e1]
      exact q _ H (Same.refl H) .mkBl
    · cases hb
  · cases hb
theorem op_notinC (hu : X.A.units + 64 < cLine) : OpR X (compareOp .NotIn) (rB (rc X) .notin) := by
  intro pins s σ H x y v u Q I rx ry ⟨ψ, φ, M, d, e, z, hc, hd, he, hz, q⟩
  obtain ⟨b, hb, rfl⟩ := Option.map_eq_some_iff.mp hz
  obtain ⟨b, hb2, rfl⟩ := Option.map_eq_some_iff.mp hb
  unfold inD at hb2
  split at hb2
  · split at hb2
    · rename_i ys p qs e1 e2
      split at hb2
      · rename_i hdp
        cases hb2
        obtain ⟨as, r1⟩ := hd.reads I e1 rx
        obtain ⟨bs, r2⟩ := he.reads I (p := .tuple qs) (by rw [toPy, e2]; rfl) ry
        refine PySem.SeqAt.notIn_tuple_data r2 r1 (toPys_plain _ _ e2) (toPy_plain _ _ e1) ?_ ⟨.bl _, H, I, rfl, q _ H (Same.refl H) .mkBl⟩
        have := Nat.min_le_right (PyData.depthAll qs) p.depth
        unfold DEEP at hdp
        omega
      · cases hb2
    · cases hb2
  · split at hb2
    · rename_i ys p qs e1 e2
      split at hb2
      · rename_i hdp
        cases hb2
        obtain ⟨as, r1⟩ := hd.reads I e1 rx
        obtain ⟨bs, r2⟩ := he.reads I (p := .list qs) (by rw [toPy, e2]; rfl) ry
        refine PySem.SeqAt.notIn_list_data r2 r1 (toPys_plain _ _ e2) (toPy_plain _ _ e1) ?_ ⟨.bl _, H, I, rfl, q _ H (Same.refl H) .mkBl⟩
        have := Nat.min_le_right (PyData.depthAll qs) p.depth
        unfold DEEP at hdp
        omega
      · cases hb2
    · cases hb2
  · split at hb2
    · rename_i ks ws hk
      cases hb2
      obtain ⟨nk, a, c, rfl, rfl, hs, e1, e2, xs, od, hx, e3, _⟩ := in_dict hu I he hd hk rx ry
      show wpAny _ _ (do return Value.bool (!(← contains (.ref c) (.ref a)))) _ _ s
      refine wpAny_bind (wpAny_contains_heap (keyed_room hu (rc X)) e2 hs hx (wpAny_pure ⟨.bl _, H, I.tok _, rfl, ?_⟩))
      rw [← nkeys_mem e3 e1]
      exact q _ H (Same.refl H) .mkBl
    · cases hb2
  · cases hb2
def copOf : CmpOp → Option COp
  | .Eq => some .eq | .NotEq => some .ne | .Lt => some .lt | .LtE => some .le | .Gt => some .gt | .GtE => some .ge | .In => some .isin | .NotIn => some .notin
  | _ => none
theorem op_cmpD (hu : X.A.units + 64 < cLine) {op : CmpOp} {b : COp} (h : copOf op = some b) : OpR X (compareOp op) (rB (rc X) b) := by
  cases op <;> first | (cases h; done) | (cases h; first | exact op_eqC hu | exact op_neC hu | exact op_ltC hu | exact op_leC hu | exact op_gtC hu | exact op_geC hu | exact op_inC hu | exact op_notinC hu)

/-! ### subscripts -/
theorem atI_lt {α : Type} {xs : List α} {i : Int} {v : α} (h : atI xs i = some v) : ∃ j, ixN xs.length i = some j ∧ xs[j]? = some v := by
  unfold atI at h
  cases e : ixN xs.length i with
  | none => rw [e] at h; cases h
  | some j => rw [e] at h; exact ⟨j, rfl, h⟩
theorem Reps.atI {R : Rc} {ds : List D} {vs : List V} {i : Int} {d : D} (h : Reps R ψ φ H ds vs) (e : L2.atI ds i = some d) : ∃ v, L2.atI vs i = some v ∧ Rep R ψ φ H d v := by
  obtain ⟨j, e1, e2⟩ := atI_lt e
  obtain ⟨v, e3, r⟩ := h.get e2
  refine ⟨v, ?_, r⟩
  unfold L2.atI
  rw [h.length, e1]
  exact e3
theorem ix_dD (hu : X.A.units + 64 < cLine) : IxR X (rTop (rc X) ixD) := by
  intro value slice pins s σ H x y v u Q I rx ry ⟨ψ, φ, M, d, e, z, hc, hd, he, hz, q⟩ hs
  unfold ixD at hz
  split at hz
  · obtain ⟨a, vs, rfl, h1, h2⟩ := hd.tup
    rw [he.int] at ry
    obtain ⟨w, e1, e2⟩ := h2.atI hz
    exact ix_tup value slice pins s σ H _ _ v u Q I rx ry ⟨a, vs, _, w, rfl, rfl, h1.seq, e1, q _ H (Same.refl H) e2⟩ hs
  · obtain ⟨a, vs, rfl, h1, h2⟩ := hd
    rw [he.int] at ry
    obtain ⟨w, e1, e2⟩ := h2.atI hz
    exact ix_list value slice pins s σ H _ _ v u Q I rx ry ⟨a, vs, _, w, rfl, rfl, h1, e1, q _ H (Same.refl H) e2⟩ hs
  · split at hz
    · rename_i ks ws k hk
      obtain ⟨nk, a, c, rfl, rfl, hsm, e1, e2, xs, od, hx, e3, h4, _, _, _, kv, vv, h5, h6, h7⟩ := in_dict hu I hd he hk ry rx
      obtain ⟨p, w, e5, e6, e7⟩ := dget_at e3 h6 h7.vv e1 hz
      exact subscriptTail_builtinR (x := p.2) hx.typeIs PySem.F.slot_dict_getitem.lookup (wpAny_getItem_heap (Q := fun r s' => r = p.2 ∧ EP X pins σ Q r s') (keyed_room hu (rc X)) e2 hx e5 ⟨rfl, w, H, I.tok _, e6, q _ H (Same.refl H) e7⟩) hs
    · cases hz
  · cases hz
end
end Pv

end T_PvQ
section T_PvR
set_option maxRecDepth 100000
set_option maxHeartbeats 1000000
namespace PySem.W
section
variable {prog : Program} {w : World} {A : Around} {E : Value → Shared → Prop} {s : Shared} {T : String} {r d : Addr} {n : Nat} {P : Nat → Value → Prop} {OK : Heap → Prop}
/-- collect of a dict -/
theorem pv_collect {R : List Value → Shared → Prop} (K : KdlSrc prog w T r d n P OK) (hh : A.handled = none) (hok : OK s.heap) (hn : n ≤ sizeLine)
    (h : ∀ (h' : Heap) (tk : Nat) (acc : Array Value), (∀ b o, s.heap.get? b = some o → h'.get? b = some o) → ItemsOf P acc n → R acc.toList { s with heap := h', toks := tk }) :
    wpAny (model prog w) A (collect (.ref r)) R E s := by
  have hlt := K.there _ hok
  unfold collect
  refine wpAny_bind (wpAny_runValue (codeAny_builtin PyProof.Rows.entry_proto_collect' ?_))
  rw [Around.under_plainId PySem.F.plain_proto_collect _]
  show wpAny _ A.in1 (newList [] >>= fun l => again (.builtin "list.__iadd__" ⟨[l, .ref r], []⟩)) _ _ s
  refine wpAny_bind (wpAny_newObj_type ?_)
  refine wpAny_pure ⟨plainId_quiet PySem.F.plain_list_iadd _, codeAny_builtin PyProof.Rows.entry_list_iadd' ?_⟩
  rw [Around.under_plainId PySem.F.plain_list_iadd _]
  have hS₁ : (s.heap.push { cls := .type "list", data := .seq ([] : List Value).toArray }).get? s.heap.objs.size = some { cls := .type "list", data := .seq #[] } := Heap.get?_push_size _ rfl
  show wpAny _ A.in1 (Builtin.List.listExtendWith (.ref s.heap.objs.size) (.ref r) (.ref s.heap.objs.size)) _ _ _
  have key := kdl_extend (prog := prog) (w := w) (A := A) (s := { s with heap := s.heap.push { cls := .type "list", data := .seq ([] : List Value).toArray } })
    (R := fun (q : Result) (s' : Shared) => ∃ (h' : Heap) (tk : Nat) (acc' : Array Value) (c' : Nat), q = .ok (.ret (.ref s.heap.objs.size)) ∧ s' = { s with heap := h', toks := tk } ∧
      (∀ b o, s.heap.get? b = some o → h'.get? b = some o) ∧ h'.get? s.heap.objs.size = some { cls := .type "list", dict := none, data := .seq acc' c', slots := #[] } ∧ ItemsOf P acc' n)
    K hh (K.keep _ _ hok fun b _ o e => Heap.get?_push_of_some _ e) s.heap.objs.size (Nat.ne_of_gt hlt.1) (Nat.ne_of_gt hlt.2) (.ref s.heap.objs.size) 0 hS₁
    (fun h' tk acc' c' hk hS' hacc => ⟨h', tk, acc', c', rfl, rfl, fun b o e => hk b o (Nat.ne_of_lt (Heap.lt_size e)) (Heap.get?_push_of_some _ e), hS', hacc⟩) hn
  refine wpAny_mono key (fun fin s' x => ?_) fun e s' x => ?_
  · cases fin with
    | done f =>
      obtain ⟨h', tk, acc', c', e, rfl, hk, hS', hacc⟩ := x
      cases e
      show wpAny _ A (load s.heap.objs.size >>= _) _ _ _
      refine wpAny_bind (wpAny_load hS' ?_)
      refine wpAny_pure ?_
      exact h h' tk acc' hk hacc
    | again c₁ =>
      refine ⟨x.1, codeAny_mono x.2 fun q s₂ y => ?_⟩
      obtain ⟨h', tk, acc', c', rfl, rfl, hk, hS', hacc⟩ := y
      show wpAny _ A (load s.heap.objs.size >>= _) _ _ _
      refine wpAny_bind (wpAny_load hS' ?_)
      refine wpAny_pure ?_
      exact h h' tk acc' hk hacc
  · obtain ⟨_, _, _, _, e', _⟩ := x
    cases e'
end
end PySem.W
namespace Pv
open PySem PySem.Spec PyProof.Rows L2
section
variable {X : Cx} {pins : List (Addr × Obj)} {σ : L2.St} {H : Hp} {s : Shared} {ψ φ : List Addr} {M : List C}
/-- the entries of a dict, in order -/
theorem dict_raw {a : Addr} {xs : List Ent} (h : s.heap.DictOfH (nestedKind X.prog X.w) a xs) : ∃ es ep, s.heap.DictRaw a es ep ∧ es.toList = xs.map (entryOfKey (nestedKind X.prog X.w)) := by
  obtain ⟨o, es, ep, ho, hx, hd, he, _, _⟩ := h
  exact ⟨es, ep, ⟨o, ho, hx, hd⟩, he⟩
theorem itemsOf_list {P : Nat → Value → Prop} {acc : Array Value} {n : Nat} {us : List Value} (h : ItemsOf P acc n) (hl : us.length = n) (hp : ∀ i v u, P i v → us[i]? = some u → v = u) : acc.toList = us := by
  refine List.ext_getElem? fun i => ?_
  by_cases hi : i < n
  · have h1 : i < acc.size := by rw [h.1]; exact hi
    have e1 : acc.toList[i]? = some acc[i] := by rw [Array.getElem?_toList]; exact Array.getElem?_eq_getElem h1
    have e2 : us[i]? = some us[i] := List.getElem?_eq_getElem (by omega)
    rw [e1, e2, hp i _ _ (h.2 i _ (Array.getElem?_eq_getElem h1)) e2]
  · rw [List.getElem?_eq_none (by rw [Array.length_toList, h.1]; omega), List.getElem?_eq_none (by omega)]
theorem collect_items {A : Around} {E : Value → Shared → Prop} {d : D} {x : V} {v : Value} {xs : List D} {Q : List Value → Shared → Prop} (I : Inv X pins σ H s) (hh : A.handled = none) (hd : Top (rc X) ψ φ H d x) (he : itemsD d = some xs) (rx : RelV x v)
    (h : ∀ us vs h' tk, Vals vs us → Reps (rc X) ψ φ H xs vs → vs.length ≤ sizeLine → (∀ b o, s.heap.get? b = some o → h'.get? b = some o) → Q us { s with heap := h', toks := tk }) : wpAny (model X.prog X.w) A (collect v) Q E s := by
  cases d with
  | tup ds =>
    cases he
    obtain ⟨a, vs, rfl, h1, h2⟩ := hd.tup
    cases rx
    obtain ⟨its, rv, ⟨o, ho, hc, n, hdt⟩, hz⟩ := I.tuple h1.seq
    refine wpAny_collect_seq a (.inr rfl) ho hc hdt (fun h' hk => ?_) (by have := rv.length; rw [List.size_toArray]; omega)
    have := h its vs h' s.toks rv h2 hz hk
    simpa using this
  | lst ds =>
    cases he
    obtain ⟨a, vs, rfl, h1, h2⟩ := hd
    cases rx
    obtain ⟨its, rv, ⟨o, n, ho, hc, _, hdt⟩, hz⟩ := I.list h1
    refine wpAny_collect_seq a (.inl rfl) ho hc hdt (fun h' hk => ?_) (by have := rv.length; rw [List.size_toArray]; omega)
    have := h its vs h' s.toks rv h2 hz hk
    simpa using this
  | dic ks ws =>
    cases he
    obtain ⟨a, es, od, kv, vv, rfl, h1, h2, h3, h4⟩ := hd
    cases rx
    obtain ⟨hs, hx⟩ := Inv.dictH I h1 h2 h4
    obtain ⟨ar, ep, hr, hl⟩ := dict_raw hx
    have hsz : ar.size = es.length := by rw [← Array.length_toList, hl, List.length_map]
    refine PySem.W.pv_collect (KdlSrc.rawDict hs) hh hr (by rw [hsz]; exact h4.sz) fun h' tk acc hk hacc => ?_
    have e : acc.toList = es.map fun x => Value.ref x.2.1 := itemsOf_list hacc (by rw [List.length_map, hsz]) (fun i v u ⟨hi, hv⟩ hu => by
      rw [hv]
      have q : ar.toList[i]? = some ar[i] := by rw [Array.getElem?_toList]; exact Array.getElem?_eq_getElem hi
      rw [hl, List.getElem?_map] at q
      rw [List.getElem?_map] at hu
      cases ee : es[i]? with
      | none => rw [ee] at hu; cases hu
      | some y =>
        rw [ee] at hu q
        cases hu
        have q := Option.some.inj q
        rw [← q]
        rfl)
    rw [e]
    exact h _ kv h' tk (by rw [h4.kv]; exact vals_refs es) h2 (by rw [h4.kv, List.length_map]; exact h4.sz) hk
  | _ => cases he
end
end Pv

end T_PvR
section T_PvT
set_option maxRecDepth 100000
set_option maxHeartbeats 1000000
namespace Pv
open PySem PySem.Spec PyProof.Rows L2
abbrev Tops (R : Rc) (ψ φ : List Addr) (H : Hp) : List D → List V → Prop := Paired fun d v => Top R ψ φ H d v
theorem Reps.tops {R : Rc} {ψ φ : List Addr} {H : Hp} {M : List C} (hc : Cells R ψ φ H M) : ∀ {ds : List D} {vs : List V}, Reps R ψ φ H ds vs → Tops R ψ φ H (ds.map (drf M)) vs
  | [], vs, h => by rw [h.nil_inv]; exact .nil
  | d :: ds, vs, h => by
    obtain ⟨v, r, rfl, h1, h2⟩ := h.cons_inv
    exact .cons (h1.drf hc) (Reps.tops hc h2)
def rCall (R : Rc) (b : B) : List V → Hp → VK → Prop := fun xs H Q => ∃ ψ φ M ds z, Cells R ψ φ H M ∧ Tops R ψ φ H ds xs ∧ evB b ds = some z ∧ ∀ v H', Same H H' → Rep R ψ φ H' z v → Q v H'
/-! ### what lists of data read as -/
theorem toPys_each : ∀ {ds : List D} {ps : List PyData}, toPys ds = some ps → ps = ds.map pyD ∧ ∀ d ∈ ds, toPy d = some (pyD d)
  | [], ps, h => by rw [toPys] at h; cases h; exact ⟨rfl, fun _ m => by cases m⟩
  | d :: ds, ps, h => by
    rw [toPys] at h
    cases e1 : toPy d with
    | none => rw [e1] at h; cases h
    | some p =>
      cases e2 : toPys ds with
      | none => rw [e1, e2] at h; cases h
      | some qs =>
        rw [e1, e2] at h
        cases h
        obtain ⟨i1, i2⟩ := toPys_each e2
        have e3 : pyD d = p := by unfold pyD; rw [e1]; rfl
        refine ⟨by rw [List.map_cons, e3, i1], fun x hx => ?_⟩
        rcases List.mem_cons.mp hx with rfl | hx
        · rw [e1, e3]
        · exact i2 x hx
theorem alikeD_all {ps : List PyData} (h : alikeD ps = true) : PySem.W.AllAlike ps := by
  cases ps with
  | nil => exact fun _ m => by cases m
  | cons p ps =>
    unfold alikeD at h
    intro a ha b hb
    exact List.all_eq_true.mp (List.all_eq_true.mp h a ha) b hb
theorem depthAll_le {n : Nat} : ∀ {ps : List PyData}, (∀ p ∈ ps, p.depth ≤ n) → PyData.depthAll ps ≤ n
  | [], _ => by simp [PyData.depthAll]
  | p :: ps, h => by
    rw [PyData.depthAll]
    exact Nat.max_le.mpr ⟨h p List.mem_cons_self, depthAll_le fun q hq => h q (List.mem_cons_of_mem _ hq)⟩
mutual
theorem toPy_inj : ∀ (a b : D) (p : PyData), toPy a = some p → toPy b = some p → a = b
  | .non, b, p, e, e' => by rw [toPy] at e; cases e; cases b <;> simp [toPy] at e' <;> rfl
  | .bl _, b, p, e, e' => by rw [toPy] at e; cases e; cases b <;> simp [toPy] at e'; rw [e']
  | .int _, b, p, e, e' => by rw [toPy] at e; cases e; cases b <;> simp [toPy] at e'; rw [e']
  | .str _, b, p, e, e' => by rw [toPy] at e; cases e; cases b <;> simp [toPy] at e'; rw [e']
  | .tup xs, b, p, e, e' => by
    rw [toPy] at e
    obtain ⟨ps, h, rfl⟩ := Option.map_eq_some_iff.mp e
    cases b <;> simp [toPy] at e'
    rw [toPys_inj xs _ ps h e']
  | .lst xs, b, p, e, e' => by
    rw [toPy] at e
    obtain ⟨ps, h, rfl⟩ := Option.map_eq_some_iff.mp e
    cases b <;> simp [toPy] at e'
    rw [toPys_inj xs _ ps h e']
  | .dic _ _, b, p, e, _ => by rw [toPy] at e; cases e
  | .cell _, b, p, e, _ => by rw [toPy] at e; cases e
  | .fn _, b, p, e, _ => by rw [toPy] at e; cases e
  | .clo _ _, b, p, e, _ => by rw [toPy] at e; cases e
  | .exn _ _ _, b, p, e, _ => by rw [toPy] at e; cases e
theorem toPys_inj : ∀ (a b : List D) (p : List PyData), toPys a = some p → toPys b = some p → a = b
  | [], b, p, e, e' => by
    rw [toPys] at e; cases e
    cases b with
    | nil => rfl
    | cons b bs =>
      obtain ⟨h, _⟩ := toPys_each e'
      simp at h
  | a :: as, b, p, e, e' => by
    obtain ⟨h1, h2⟩ := toPys_each e
    subst h1
    cases b with
    | nil => rw [toPys] at e'; simp at e'
    | cons b bs =>
      rw [toPys] at e e'
      cases q1 : toPy a with
      | none => rw [q1] at e; cases e
      | some p1 =>
        cases q2 : toPys as with
        | none => rw [q1, q2] at e; cases e
        | some p2 =>
          cases q3 : toPy b with
          | none => rw [q3] at e'; cases e'
          | some p3 =>
            cases q4 : toPys bs with
            | none => rw [q3, q4] at e'; cases e'
            | some p4 =>
              rw [q1, q2] at e
              rw [q3, q4] at e'
              simp only [Option.some.injEq] at e e'
              have e5 := e.trans e'.symm
              simp only [List.cons.injEq] at e5
              obtain ⟨rfl, rfl⟩ := e5
              rw [toPy_inj a b p1 q1 q3, toPys_inj as bs p2 q2 q4]
end

section
variable {X : Cx} {pins : List (Addr × Obj)} {σ : L2.St} {H : Hp} {s : Shared} {ψ φ : List Addr} {M : List C}
/-- an item with its value -/
def Is (R : Rc) (ψ φ : List Addr) (H : Hp) (u : Value) (d : D) : Prop := ∃ w, RelV w u ∧ Rep R ψ φ H d w
theorem is_each {R : Rc} : ∀ {ds : List D} {vs : List V} {us : List Value}, Vals vs us → Reps R ψ φ H ds vs → PySem.W.EachIs (Is R ψ φ H) us ds
  | [], vs, us, r, h => by
    have := h.nil_inv
    subst this
    cases r
    exact .nil
  | d :: ds, vs, us, r, h => by
    obtain ⟨v, vr, rfl, h1, h2⟩ := h.cons_inv
    cases r with
    | cons q1 q2 => exact .cons ⟨v, q1, h1⟩ (is_each q2 h2)
theorem each_is {R : Rc} : ∀ {ds : List D} {us : List Value}, PySem.W.EachIs (Is R ψ φ H) us ds → ∃ vs, Vals vs us ∧ Reps R ψ φ H ds vs
  | _, _, .nil => ⟨[], .nil, .nil⟩
  | _, _, .cons ⟨w, h1, h2⟩ t => by
    obtain ⟨vs, q1, q2⟩ := each_is t
    exact ⟨w :: vs, .cons h1 q1, .cons h2 q2⟩
theorem each_mem {α β : Type} {R S : α → β → Prop} : ∀ {us : List α} {ds : List β}, PySem.W.EachIs R us ds → (∀ u d, d ∈ ds → R u d → S u d) → PySem.W.EachIs S us ds
  | _, _, .nil, _ => .nil
  | _, _, .cons h t, k => .cons (k _ _ List.mem_cons_self h) (each_mem t fun u d hd => k u d (List.mem_cons_of_mem _ hd))
theorem sortOk {ps : List PyData} (h : sortOkD ps = true) : PySem.W.AllAlike ps ∧ PySem.W.Sortable ps ∧ ∀ p ∈ ps, p.depth ≤ DEEP := by
  unfold sortOkD at h
  simp only [Bool.and_eq_true, Bool.or_eq_true] at h
  obtain ⟨⟨h1, h2⟩, h3⟩ := h
  refine ⟨alikeD_all h1, ?_, fun p hp => of_decide_eq_true (List.all_eq_true.mp h3 p hp)⟩
  rcases h2 with h2 | h2
  · left
    intro d hd
    have := List.all_eq_true.mp h2 d hd
    unfold fullTup at this
    split at this
    · exact ⟨_, _, rfl⟩
    · cases this
  · right
    intro d hd
    have := List.all_eq_true.mp h2 d hd
    unfold noTup at this
    split at this
    · cases this
    · cases this
    · rename_i h1 h2
      exact ⟨h2, fun xs e => h1 xs e⟩
/-- the place of list.sort -/
theorem sort_run {A : Around} {E : Value → Shared → Prop} {a : Addr} {us : List Value} {vs : List V} {ds out : List D} {Q : Value → Shared → Prop} (I : Inv X pins σ H s) (hu : A.units + 64 < cLine) (hds : Reps (rc X) ψ φ H ds vs) (hv : Vals vs us) (hz : vs.length ≤ sizeLine)
    (ho : s.heap.get? a = some (seqObj "list" us.toArray 0)) (hn : H a = none) (hr : ∀ d u p, toPy d = some p → Is (rc X) ψ φ H u d → ∃ as, Reads s.heap u p as ∧ a ∉ as) (hs : sortD ds = some out)
    (h : ∀ us' vs', Vals vs' us' → Reps (rc X) ψ φ H out vs' → vs'.length ≤ sizeLine → Q .none { s with heap := sortedHeap s.heap a us us'.toArray }) :
    wpAny (model X.prog X.w) A (call (.builtin "list.sort") [.ref a]) Q E s := by
  unfold sortD at hs
  split at hs
  · rename_i ps hps
    obtain ⟨e1, e2⟩ := toPys_each hps
    split at hs
    · rename_i hok
      cases hs
      obtain ⟨k1, k2, k3⟩ := sortOk hok
      rw [e1] at k1 k2 k3
      have ei := is_each (R := rc X) hv hds
      refine PySem.W.list_sort_data (enc := pyD) (R := Is (rc X) ψ φ H) ho ei (each_mem ei fun u d hd hi => hr d u _ (e2 d hd) hi) k1 k2 (by rw [← hds.length]; exact hz) (fun d hd => ?_) fun o hl ho' => ?_
      · have := k3 (pyD d) (List.mem_map.mpr ⟨d, hd, rfl⟩)
        unfold DEEP at this
        omega
      · obtain ⟨vs', q1, q2⟩ := each_is ho'
        refine h o vs' q1 q2 ?_
        rw [q1.length, hl, ← hds.length]
        exact hz
    · split at hs
      · rename_i hl
        cases hs
        have hlen : us.length ≤ 1 := by rw [← hv.length, hds.length]; exact hl
        refine PySem.wpAny_call_entry slot_list_sort ⟨_, ho, rfl⟩ entry_list_sort (SrtO.list_sort_ord (ltv := fun _ _ => false) ⟨fun _ _ _ => rfl, fun _ _ _ _ _ => rfl⟩ ho (by rw [← hv.length]; exact hz) (fun h2 => by omega) fun out h1 h2 => ⟨_, rfl, ?_⟩) (args_list_sort _)
        have e : out = us := by
          have p := h2.perm
          match us, hlen with
          | [], _ => exact p.eq_nil
          | [u], _ => exact List.perm_singleton.mp p
          | _ :: _ :: _, hl => simp at hl
        rw [e]
        exact h us vs hv hds hz
      · cases hs
  · cases hs
end
end Pv

end T_PvT
section T_PvU
set_option maxRecDepth 100000
set_option maxHeartbeats 1000000
namespace Pv
open PySem PySem.Spec PyProof.Rows L2
mutual
theorem reads_there {h : Heap} : ∀ (d : PyData) (v : Value) (as : List Addr), d.plain = true → Reads h v d as → ∀ b ∈ as, ∃ o, h.get? b = some o
  | .none, _, _, _, r => by cases r; exact fun _ m => nomatch m
  | .bool _, _, _, _, r => by cases r; exact fun _ m => nomatch m
  | .int _, _, _, _, r => by cases r; exact fun _ m => nomatch m
  | .str _, _, _, _, r => by cases r; exact fun _ m => nomatch m
  | .list xs, _, _, p, r => by
    rw [PyData.plain] at p
    cases r with
    | list h1 h2 h3 h4 =>
      intro b hb
      rcases List.mem_cons.mp hb with rfl | hb
      · exact ⟨_, h1⟩
      · exact readsAll_there xs _ _ p h4 b hb
  | .tuple xs, _, _, p, r => by
    rw [PyData.plain] at p
    cases r with
    | tuple h1 h2 h3 h4 => exact readsAll_there xs _ _ p h4
  | .dict _, _, _, p, _ => by simp [PyData.plain] at p
theorem readsAll_there {h : Heap} : ∀ (ds : List PyData) (vs : List Value) (as : List Addr), PyData.plainAll ds = true → ReadsAll h vs ds as → ∀ b ∈ as, ∃ o, h.get? b = some o
  | [], _, _, _, r => by cases r; exact fun _ m => nomatch m
  | d :: ds, _, _, p, r => by
    rw [PyData.plainAll, Bool.and_eq_true] at p
    cases r with
    | cons h1 h2 =>
      intro b hb
      rcases List.mem_append.mp hb with hb | hb
      · exact reads_there d _ _ p.1 h1 b hb
      · exact readsAll_there ds _ _ p.2 h2 b hb
end
section
variable {X : Cx} {pins : List (Addr × Obj)} {σ : L2.St} {H : Hp} {s : Shared} {ψ φ : List Addr} {M : List C}
theorem Tops.one {R : Rc} {d : D} {vs : List V} (h : Tops R ψ φ H [d] vs) : ∃ v, vs = [v] ∧ Top R ψ φ H d v := by
  cases h with
  | cons h t => cases t; exact ⟨_, rfl, h⟩
theorem Tops.two {R : Rc} {d e : D} {vs : List V} (h : Tops R ψ φ H [d, e] vs) : ∃ v w, vs = [v, w] ∧ Top R ψ φ H d v ∧ Top R ψ φ H e w := by
  cases h with
  | cons h t =>
    obtain ⟨w, rfl, k⟩ := Tops.one t
    exact ⟨_, w, rfl, h, k⟩
theorem cr_len (hu : X.A.units + 64 < cLine) : CallR X (.builtin "len") (rCall (rc X) .len) := by
  intro pins s σ H xs us Q I r ⟨ψ, φ, M, ds, z, hc, ht, hz, q⟩
  unfold evB at hz
  split at hz <;> (try (rename_i heq; cases heq; done)) <;> (try (cases hz; done))
  · cases hz
    obtain ⟨v, rfl, h⟩ := ht.one
    obtain ⟨a, vs, rfl, h1, h2⟩ := h.tup
    exact call_len_seq pins s σ H _ us Q I r ⟨a, vs, rfl, .inr h1.seq, q _ H (Same.refl H) (by rw [h2.length]; exact .mkInt)⟩
  · cases hz
    obtain ⟨v, rfl, h⟩ := ht.one
    obtain ⟨a, vs, rfl, h1, h2⟩ := h
    exact call_len_seq pins s σ H _ us Q I r ⟨a, vs, rfl, .inl h1, q _ H (Same.refl H) (by rw [h2.length]; exact .mkInt)⟩
  · cases hz
    rename_i ks ws _
    obtain ⟨v, rfl, h⟩ := ht.one
    obtain ⟨a, xs, od, kv, vv, rfl, h1, h2, h3, h4⟩ := h
    obtain ⟨u, rfl, ru⟩ := vals1 r
    cases ru
    obtain ⟨hs, hx⟩ := Inv.dictH I h1 h2 h4
    have hl : xs.length = ks.length := by rw [← nkeys_length h4.nk, List.length_map]
    have hz := h4.sz
    rw [sizeLine_eq] at hz
    have hm : s.heap.DictKeyed (nestedKind X.prog X.w) a (pairsH xs) := ⟨xs, hx, rfl⟩
    refine PyProof.Rows.call_len_slot (n := (pairsH xs).length) hm.typeIs PySem.F.slot_dict_len (fun Q' hq => len_keyed hs hm hq) (by omega) (by rw [pairsH_length]; omega) ?_
    refine ⟨.int (pairsH xs).length, H, I.tok _, ⟨_, rfl⟩, ?_⟩
    rw [pairsH_length, hl]
    exact q _ H (Same.refl H) .mkInt
/-- a builtin whose value is a new list -/
def rCallN (R : Rc) (b : B) : List V → Hp → VK → Prop := fun xs H Q => ∃ ψ φ M ds z, Cells R ψ φ H M ∧ Tops R ψ φ H ds xs ∧ evB b ds = some z ∧ ∀ p vs zs, H p = none → z = .lst zs → Reps R ψ φ H zs vs → Q (.ref p) (upd H p (.lst vs))
theorem cr_tuple : CallR X (.type "tuple") (rCall (rc X) .tuple) := by
  intro pins s σ H xs us Q I r ⟨ψ, φ, M, ds, z, hc, ht, hz, q⟩
  unfold evB at hz
  split at hz <;> (try (rename_i heq; cases heq; done)) <;> (try (cases hz; done))
  · cases hz
    obtain ⟨v, rfl, h⟩ := ht.one
    obtain ⟨a, vs, rfl, h1, h2⟩ := h.tup
    exact call_tuple_of pins s σ H _ us Q I r ⟨a, vs, rfl, .inr ⟨h1.seq, q _ H (Same.refl H) h⟩⟩
  · cases hz
    obtain ⟨v, rfl, h⟩ := ht.one
    obtain ⟨a, vs, rfl, h1, h2⟩ := h
    exact call_tuple_of pins s σ H _ us Q I r ⟨a, vs, rfl, .inl ⟨h1, fun l hl => q _ _ (same_upd hl) (.mkTup hc hl h2)⟩⟩
theorem cr_list (hcm : X.calm = true) : CallR X (.type "list") (rCallN (rc X) .list) := by
  intro pins s σ H xs us Q I r ⟨ψ, φ, M, ds, z, hc, ht, hz, q⟩
  unfold evB at hz
  split at hz <;> (try (rename_i heq; cases heq; done)) <;> (try (cases hz; done))
  · cases hz
    obtain ⟨v, rfl, h⟩ := ht.one
    obtain ⟨a, vs, rfl, h1, h2⟩ := h.tup
    exact call_list_of pins s σ H _ us Q I r ⟨a, vs, rfl, .inr h1.seq, fun l hl => q _ _ _ hl rfl h2⟩
  · cases hz
    obtain ⟨v, rfl, h⟩ := ht.one
    obtain ⟨a, vs, rfl, h1, h2⟩ := h
    exact call_list_of pins s σ H _ us Q I r ⟨a, vs, rfl, .inl h1, fun l hl => q _ _ _ hl rfl h2⟩
  · cases hz
    rename_i ks ws _
    obtain ⟨v, rfl, h⟩ := ht.one
    obtain ⟨a, xs, od, kv, vv, rfl, h1, h2, h3, h4⟩ := h
    obtain ⟨u, rfl, ru⟩ := vals1 r
    cases ru
    obtain ⟨hs, hx⟩ := Inv.dictH I h1 h2 h4
    obtain ⟨ar, ep, hr, hl⟩ := dict_raw hx
    have hsz : ar.size = xs.length := by rw [← Array.length_toList, hl, List.length_map]
    refine PySem.W.kdl_call (KdlSrc.rawDict hs) (I.ok.hd hcm) hr (by rw [hsz]; exact h4.sz) fun h' tk acc c' hk hS hacc => ?_
    have e : acc.toList = xs.map fun x => Value.ref x.2.1 := itemsOf_list hacc (by rw [List.length_map, hsz]) (fun i v u ⟨hi, hv⟩ hu => by
      rw [hv]
      have q : ar.toList[i]? = some ar[i] := by rw [Array.getElem?_toList]; exact Array.getElem?_eq_getElem hi
      rw [hl, List.getElem?_map] at q
      rw [List.getElem?_map] at hu
      cases ee : xs[i]? with
      | none => rw [ee] at hu; cases hu
      | some y =>
        rw [ee] at hu q
        cases hu
        have q := Option.some.inj q
        rw [← q]
        rfl)
    have hn : H s.heap.objs.size = none := I.hok.fresh (Nat.le_refl _)
    have J := I.laid (t' := tk) (h' := h') (o := .lst kv) hk (Nat.le_refl _) ⟨by rw [h4.kv, List.length_map]; exact h4.sz, acc.toList, c', by rw [e, h4.kv]; exact vals_refs xs, by rw [hS, Array.toArray_toList]⟩
    exact ⟨.ref _, _, J, rfl, q _ _ _ hn rfl h2⟩
theorem cr_sortedD (hcm : X.calm = true) (hu : X.A.units + 80 < cLine) : CallR X (.builtin "sorted") (rCallN (rc X) .sorted) := by
  intro pins s σ H xs us Q I r ⟨ψ, φ, M, ds, z, hc, ht, hz, q⟩
  obtain ⟨d, items, out, rfl, h1, h2, rfl⟩ : ∃ d items out, ds = [d] ∧ itemsD d = some items ∧ sortD items = some out ∧ z = .lst out := by
    unfold evB at hz
    split at hz <;> (try (rename_i heq; cases heq; done)) <;> (try (cases hz; done))
    all_goals
      obtain ⟨o, e, rfl⟩ := Option.map_eq_some_iff.mp hz
      exact ⟨_, _, o, rfl, rfl, e, rfl⟩
  obtain ⟨v, rfl, h⟩ := ht.one
  obtain ⟨u, rfl, ru⟩ := vals1 r
  refine Calls.call_function_entry kind_sorted plain_sorted entry_sorted (args_sorted1 _) ?_
  unfold Builtin.«sorted»
  refine wpAny_bind (m := checkCount "sorted" 1 1 _) (wpAny_pure ?_)
  refine wpAny_bind (collect_items I (I.ok.hd hcm) h h1 ru fun ws vs h' tk hv hds hz' hk => ?_)
  have hzw : ws.length ≤ sizeLine := by rw [← hv.length]; exact hz'
  refine wpAny_bind (wpAny_newList ?_ hzw)
  have I1 : Inv X pins σ H { s with heap := h', toks := tk } := I.kept hk
  have hn : H h'.objs.size = none := I1.hok.fresh (Nat.le_refl _)
  have I2 : Inv X pins σ H { s with heap := h'.push (seqObj "list" ws.toArray 0), toks := tk } := I1.kept (t' := tk) fun b o e => Heap.get?_push_of_some _ e
  have ho : (h'.push (seqObj "list" ws.toArray 0)).get? h'.objs.size = some (seqObj "list" ws.toArray 0) := Heap.get?_push_size _ rfl
  refine wpAny_bind (wpAny_holding (wpAny_mono (sort_run (A := X.A.in1) (Q := fun r s' => EP X pins σ Q (.ref h'.objs.size) s') I2 (by show X.A.units + 1 + 64 < cLine; omega) hds hv hz' ho hn (fun d u p e ⟨w, r1, r2⟩ => ?_) h2 fun us' vs' hv' hr' hz2 => ?_) (fun _ s' x => ?_) fun _ _ e => e))
  · obtain ⟨as, hr⟩ := Dp.reads I1 p w u (Rep.dp d p w e r2) r1
    refine ⟨as, PyProof.Rows.Reads.keeps (fun b o e => Heap.get?_push_of_some _ e) hr, fun m => ?_⟩
    obtain ⟨o, e⟩ := reads_there p u as (toPy_plain _ _ e) hr _ m
    exact absurd (Heap.lt_size e) (Nat.lt_irrefl _)
  · have kb : ∀ b o, b ≠ h'.objs.size → (h'.push (seqObj "list" ws.toArray 0)).get? b = some o → (sortedHeap (h'.push (seqObj "list" ws.toArray 0)) h'.objs.size ws us'.toArray).get? b = some o := fun b o hb e =>
      (PyProof.Rows.sortedHeap_old hb (Heap.lt_size e)).trans e
    obtain ⟨eF, heF⟩ := PyProof.Rows.sortedHeap_at (vs := ws) (out := us'.toArray) ho
    have J := I1.laid (t' := tk) (h' := sortedHeap (h'.push (seqObj "list" ws.toArray 0)) h'.objs.size ws us'.toArray) (o := .lst vs') (fun b o e => kb b o (Nat.ne_of_lt (Heap.lt_size e)) (Heap.get?_push_of_some _ e)) (Nat.le_refl _) ⟨hz2, us', eF, hv', heF⟩
    exact ⟨.ref _, _, J, rfl, q _ _ _ hn rfl hr'⟩
  · exact wpAny_pure ⟨_, rfl, x⟩
end
end Pv

end T_PvU
section T_PvV
set_option maxRecDepth 100000
set_option maxHeartbeats 1000000
namespace Pv
open PySem PySem.Spec PyProof.Rows L2
section
variable {X : Cx} {pins : List (Addr × Obj)} {σ : L2.St} {H : Hp} {s : Shared} {ψ φ : List Addr} {M : List C}
theorem blsD_reps {R : Rc} : ∀ {ds : List D} {bs : List Bool} {vs : List V}, blsD ds = some bs → Reps R ψ φ H ds vs → vs = bs.map V.bl
  | [], bs, vs, e, h => by rw [blsD] at e; cases e; exact h.nil_inv
  | d :: ds, bs, vs, e, h => by
    unfold blsD at e
    split at e
    · rename_i heq; cases heq
    · rename_i b xs heq
      cases heq
      obtain ⟨cs, e1, rfl⟩ := Option.map_eq_some_iff.mp e
      obtain ⟨v, r, rfl, h1, h2⟩ := h.cons_inv
      rw [h1.bl, blsD_reps e1 h2]; rfl
    · cases e
theorem intsD_reps {R : Rc} : ∀ {ds : List D} {bs : List Int} {vs : List V}, intsD ds = some bs → Reps R ψ φ H ds vs → vs = bs.map V.int
  | [], bs, vs, e, h => by rw [intsD] at e; cases e; exact h.nil_inv
  | d :: ds, bs, vs, e, h => by
    unfold intsD at e
    split at e
    · rename_i heq; cases heq
    · rename_i b xs heq
      cases heq
      obtain ⟨cs, e1, rfl⟩ := Option.map_eq_some_iff.mp e
      obtain ⟨v, r, rfl, h1, h2⟩ := h.cons_inv
      rw [h1.int, intsD_reps e1 h2]; rfl
    · cases e
theorem cr_allD (hcm : X.calm = true) : CallR X (.builtin "all") (rCall (rc X) .all) := by
  intro pins s σ H xs us Q I r ⟨ψ, φ, M, ds, z, hc, ht, hz, q⟩
  unfold evB at hz
  split at hz <;> (try (rename_i heq; cases heq; done)) <;> (try (cases hz; done))
  obtain ⟨bs, e, rfl⟩ := Option.map_eq_some_iff.mp hz
  obtain ⟨v, rfl, h⟩ := ht.one
  obtain ⟨a, vs, rfl, h1, h2⟩ := h
  rw [blsD_reps e h2] at h1
  exact cr_all hcm pins s σ H _ us Q I r ⟨a, bs, rfl, h1, q _ H (Same.refl H) .mkBl⟩
theorem cr_anyD (hcm : X.calm = true) : CallR X (.builtin "any") (rCall (rc X) .any) := by
  intro pins s σ H xs us Q I r ⟨ψ, φ, M, ds, z, hc, ht, hz, q⟩
  unfold evB at hz
  split at hz <;> (try (rename_i heq; cases heq; done)) <;> (try (cases hz; done))
  obtain ⟨bs, e, rfl⟩ := Option.map_eq_some_iff.mp hz
  obtain ⟨v, rfl, h⟩ := ht.one
  obtain ⟨a, vs, rfl, h1, h2⟩ := h
  rw [blsD_reps e h2] at h1
  exact cr_any hcm pins s σ H _ us Q I r ⟨a, bs, rfl, h1, q _ H (Same.refl H) .mkBl⟩
theorem cr_sumD (hcm : X.calm = true) : CallR X (.builtin "sum") (rCall (rc X) .sum) := by
  intro pins s σ H xs us Q I r ⟨ψ, φ, M, ds, z, hc, ht, hz, q⟩
  unfold evB at hz
  split at hz <;> (try (rename_i heq; cases heq; done)) <;> (try (cases hz; done))
  obtain ⟨bs, e, rfl⟩ := Option.map_eq_some_iff.mp hz
  obtain ⟨v, rfl, h⟩ := ht.one
  obtain ⟨a, vs, rfl, h1, h2⟩ := h
  rw [intsD_reps e h2] at h1
  exact cr_sum hcm pins s σ H _ us Q I r ⟨a, bs, rfl, h1, q _ H (Same.refl H) .mkInt⟩
theorem cr_absD : CallR X (.builtin "abs") (rCall (rc X) .abs) := by
  intro pins s σ H xs us Q I r ⟨ψ, φ, M, ds, z, hc, ht, hz, q⟩
  unfold evB at hz
  split at hz <;> (try (rename_i heq; cases heq; done)) <;> (try (cases hz; done))
  cases hz
  obtain ⟨v, rfl, h⟩ := ht.one
  rw [h.int] at r
  refine call_abs pins s σ H _ us Q I r ⟨_, rfl, q _ H (Same.refl H) .mkInt⟩
theorem cr_intD : CallR X (.type "int") (rCall (rc X) .int) := by
  intro pins s σ H xs us Q I r ⟨ψ, φ, M, ds, z, hc, ht, hz, q⟩
  unfold evB at hz
  split at hz <;> (try (rename_i heq; cases heq; done)) <;> (try (cases hz; done))
  · cases hz
    obtain ⟨v, rfl, h⟩ := ht.one
    rw [h.int] at r
    exact call_int1 pins s σ H _ us Q I r (.inl ⟨_, rfl, q _ H (Same.refl H) .mkInt⟩)
  · cases hz
    obtain ⟨v, rfl, h⟩ := ht.one
    rw [h.bl] at r
    exact call_int1 pins s σ H _ us Q I r (.inr ⟨_, rfl, q _ H (Same.refl H) .mkInt⟩)
theorem cr_divmodD : CallR X (.builtin "divmod") (rCall (rc X) .divmod) := by
  intro pins s σ H xs us Q I r ⟨ψ, φ, M, ds, z, hc, ht, hz, q⟩
  unfold evB at hz
  split at hz <;> (try (rename_i heq; cases heq; done)) <;> (try (cases hz; done))
  split at hz
  · rename_i hb
    cases hz
    obtain ⟨v, w, rfl, h, k⟩ := ht.two
    rw [h.int, k.int] at r
    exact call_divmod pins s σ H _ us Q I r ⟨_, _, rfl, hb, fun p hp => q _ _ (same_upd hp) (.mkTup hc hp (.cons .mkInt (.cons .mkInt .nil)))⟩
  · cases hz
theorem cr_max2D (hcm : X.calm = true) : CallR X (.builtin "max") (rCall (rc X) .max2) := by
  intro pins s σ H xs us Q I r ⟨ψ, φ, M, ds, z, hc, ht, hz, q⟩
  unfold evB at hz
  split at hz <;> (try (rename_i heq; cases heq; done)) <;> (try (cases hz; done))
  cases hz
  obtain ⟨v, w, rfl, h, k⟩ := ht.two
  rw [h.int, k.int] at r
  exact call_max2 hcm pins s σ H _ us Q I r ⟨_, _, rfl, q _ H (Same.refl H) .mkInt⟩
theorem cr_min2D (hcm : X.calm = true) : CallR X (.builtin "min") (rCall (rc X) .min2) := by
  intro pins s σ H xs us Q I r ⟨ψ, φ, M, ds, z, hc, ht, hz, q⟩
  unfold evB at hz
  split at hz <;> (try (rename_i heq; cases heq; done)) <;> (try (cases hz; done))
  cases hz
  obtain ⟨v, w, rfl, h, k⟩ := ht.two
  rw [h.int, k.int] at r
  exact call_min2 hcm pins s σ H _ us Q I r ⟨_, _, rfl, q _ H (Same.refl H) .mkInt⟩
theorem fold_min (ds : List D) (x : D) : pyD (ds.foldl (fun a b => if W.dataLt (pyD b) (pyD a) then b else a) x) = PySem.W.minD (pyD x) (ds.map pyD) := by
  unfold PySem.W.minD
  induction ds generalizing x with
  | nil => rfl
  | cons y ys ih =>
    rw [List.foldl_cons, List.map_cons, List.foldl_cons, ih]
    congr 1
    split <;> rfl
theorem fold_max (ds : List D) (x : D) : pyD (ds.foldl (fun a b => if W.dataLt (pyD a) (pyD b) then b else a) x) = PySem.W.maxD (pyD x) (ds.map pyD) := by
  unfold PySem.W.maxD
  induction ds generalizing x with
  | nil => rfl
  | cons y ys ih =>
    rw [List.foldl_cons, List.map_cons, List.foldl_cons, ih]
    congr 1
    split <;> rfl
theorem fold_mem {p : D → D → Bool} (ds : List D) (x : D) : ds.foldl (fun a b => if p a b then b else a) x ∈ x :: ds := by
  induction ds generalizing x with
  | nil => simp
  | cons y ys ih =>
    rw [List.foldl_cons]
    have := ih (if p x y then y else x)
    split at this
    · rename_i h; rw [if_pos h]; exact List.mem_cons_of_mem _ this
    · rename_i h
      rw [if_neg h]
      rcases List.mem_cons.mp this with e | e
      · rw [e]; exact List.mem_cons_self
      · exact List.mem_cons_of_mem _ (List.mem_cons_of_mem _ e)
theorem mm_data {ps : List PyData} (h : (alikeD ps && ps.all fun p => notNone p && decide (p.depth ≤ DEEP)) = true) : PySem.W.AlikeAll ps ∧ PyData.depthAll ps ≤ DEEP := by
  rw [Bool.and_eq_true] at h
  have h2 := List.all_eq_true.mp h.2
  have h3 : ∀ p ∈ ps, notNone p = true ∧ p.depth ≤ DEEP := fun p hp => by
    have := h2 p hp
    rw [Bool.and_eq_true] at this
    exact ⟨this.1, of_decide_eq_true this.2⟩
  exact ⟨⟨fun x hx y hy => alikeD_all h.1 x hx y hy, fun x hx => notNone_ne (h3 x hx).1⟩, depthAll_le fun p hp => (h3 p hp).2⟩
theorem pick_rep {R : Rc} {ds : List D} {vs : List V} {us : List Value} {i : Nat} {u : Value} (hv : Vals vs us) (hr : Reps R ψ φ H ds vs) (hu : us[i]? = some u) : ∃ d w, ds[i]? = some d ∧ RelV w u ∧ Rep R ψ φ H d w := by
  have hi : i < ds.length := by rw [← hr.length, hv.length]; exact (List.getElem?_eq_some_iff.mp hu).1
  obtain ⟨w, e1, r1⟩ := hr.get (List.getElem?_eq_getElem hi)
  obtain ⟨u', e2, r2⟩ := hv.get e1
  rw [hu] at e2
  cases e2
  exact ⟨ds[i], w, List.getElem?_eq_getElem hi, r2, r1⟩
theorem cr_min1D (hcm : X.calm = true) (hu : X.A.units + 80 < cLine) : CallR X (.builtin "min") (rCall (rc X) .min1) := by
  intro pins s σ H xs us Q I r ⟨ψ, φ, M, ds, z, hc, ht, hz, q⟩
  unfold evB at hz
  split at hz <;> (try (rename_i heq; cases heq; done)) <;> (try (cases hz; done))
  rename_i ds _
  unfold minD at hz
  split at hz
  · cases hz
  · rename_i d ds
    split at hz
    · rename_i ps hps
      split at hz
      · rename_i hok
        cases hz
        obtain ⟨v, rfl, h⟩ := ht.one
        obtain ⟨u, rfl, ru⟩ := vals1 r
        obtain ⟨a, vs, rfl, h1, h2⟩ := h
        cases ru
        obtain ⟨its, rv, hl, hzz⟩ := I.list h1
        obtain ⟨e1, e2⟩ := toPys_each hps
        subst e1
        obtain ⟨as, hr⟩ := Dp.readsAll I _ vs its (Reps.dp _ _ vs hps h2) rv
        obtain ⟨k1, k2⟩ := mm_data hok
        unfold DEEP at k2
        refine PySem.W.min_list_data (x := pyD d) (xs := ds.map pyD) (as := as) (I.ok.hd hcm) hl.isList (by simpa using hr) k1 (by rw [List.map_cons] at k2; omega) fun i w h' tk bs hw hrd hk => ?_
        obtain ⟨e, wv, g1, g2, g3⟩ := pick_rep rv h2 (by simpa using hw)
        have I1 : Inv X pins σ H { s with heap := h', toks := tk } := I.kept hk
        have e3 : toPy e = some (pyD e) := e2 e (List.mem_of_getElem? g1)
        obtain ⟨as', hr'⟩ := Dp.reads I1 _ wv w (Rep.dp e _ wv e3 g3) g2
        have e4 := PySem.SeqAt.plain_unique _ _ _ _ _ (toPy_plain _ _ e3) hr' hrd
        have e5 : e = ds.foldl (fun a b => if W.dataLt (pyD b) (pyD a) then b else a) d := by
          have m := fold_mem (p := fun a b => W.dataLt (pyD b) (pyD a)) ds d
          refine toPy_inj _ _ (pyD e) e3 ?_
          rw [e2 _ m]
          congr 1
          rw [e4]
          exact fold_min ds d
        rw [e5] at g3
        exact ⟨wv, H, I1, g2, q _ H (Same.refl H) g3⟩
      · cases hz
    · cases hz
theorem cr_max1D (hcm : X.calm = true) (hu : X.A.units + 80 < cLine) : CallR X (.builtin "max") (rCall (rc X) .max1) := by
  intro pins s σ H xs us Q I r ⟨ψ, φ, M, ds, z, hc, ht, hz, q⟩
  unfold evB at hz
  split at hz <;> (try (rename_i heq; cases heq; done)) <;> (try (cases hz; done))
  rename_i ds _
  unfold maxD at hz
  split at hz
  · cases hz
  · rename_i d ds
    split at hz
    · rename_i ps hps
      split at hz
      · rename_i hok
        cases hz
        obtain ⟨v, rfl, h⟩ := ht.one
        obtain ⟨u, rfl, ru⟩ := vals1 r
        obtain ⟨a, vs, rfl, h1, h2⟩ := h
        cases ru
        obtain ⟨its, rv, hl, hzz⟩ := I.list h1
        obtain ⟨e1, e2⟩ := toPys_each hps
        subst e1
        obtain ⟨as, hr⟩ := Dp.readsAll I _ vs its (Reps.dp _ _ vs hps h2) rv
        obtain ⟨k1, k2⟩ := mm_data hok
        unfold DEEP at k2
        refine PySem.W.max_list_data (x := pyD d) (xs := ds.map pyD) (as := as) (I.ok.hd hcm) hl.isList (by simpa using hr) k1 (by rw [List.map_cons] at k2; omega) fun i w h' tk bs hw hrd hk => ?_
        obtain ⟨e, wv, g1, g2, g3⟩ := pick_rep rv h2 (by simpa using hw)
        have I1 : Inv X pins σ H { s with heap := h', toks := tk } := I.kept hk
        have e3 : toPy e = some (pyD e) := e2 e (List.mem_of_getElem? g1)
        obtain ⟨as', hr'⟩ := Dp.reads I1 _ wv w (Rep.dp e _ wv e3 g3) g2
        have e4 := PySem.SeqAt.plain_unique _ _ _ _ _ (toPy_plain _ _ e3) hr' hrd
        have e5 : e = ds.foldl (fun a b => if W.dataLt (pyD a) (pyD b) then b else a) d := by
          have m := fold_mem (p := fun a b => W.dataLt (pyD a) (pyD b)) ds d
          refine toPy_inj _ _ (pyD e) e3 ?_
          rw [e2 _ m]
          congr 1
          rw [e4]
          exact fold_max ds d
        rw [e5] at g3
        exact ⟨wv, H, I1, g2, q _ H (Same.refl H) g3⟩
      · cases hz
    · cases hz

/-! ### isinstance -/
def tyStr : Ty → String
  | .int => "int" | .bool => "bool" | .tuple => "tuple" | .list => "list" | .str => "str" | .dict => "dict"
theorem kit_top {d : D} {x : V} {u : Value} {t : Ty} {b : Bool} (I : Inv X pins σ H s) (h : Top (rc X) ψ φ H d x) (rx : RelV x u) (e : isTy d t = some b) :
    ∃ (c : Value) (P : Heap → Prop), PySem.W.KitX X.K u c P ∧ P s.heap ∧ u ≠ .builtin "__main__.__loader__#opaque" ∧ PySem.W.kitOne X.K c (.type (tyStr t)) = some b := by
  cases d with
  | non =>
    rw [h.non] at rx
    cases rx
    cases e
    exact ⟨_, _, PySem.W.kitx_none, True.intro, (fun z => nomatch z), by cases t <;> exact kit_ty (by decide +kernel)⟩
  | bl y =>
    rw [h.bl] at rx
    cases rx
    cases e
    exact ⟨_, _, PySem.W.kitx_bool, True.intro, (fun z => nomatch z), by cases t <;> exact kit_ty (by decide +kernel)⟩
  | int i =>
    rw [h.int] at rx
    obtain ⟨tk, rfl⟩ := rx
    cases e
    exact ⟨_, _, PySem.W.kitx_int, True.intro, (fun z => nomatch z), by cases t <;> exact kit_ty (by decide +kernel)⟩
  | str i =>
    rw [h.str] at rx
    obtain ⟨tk, rfl⟩ := rx
    cases e
    exact ⟨_, _, PySem.W.kitx_str, True.intro, (fun z => nomatch z), by cases t <;> exact kit_ty (by decide +kernel)⟩
  | tup ds =>
    obtain ⟨a, vs, rfl, h1, h2⟩ := h.tup
    cases rx
    cases e
    obtain ⟨its, rv, ⟨o, ho, hc, n, hd⟩, _⟩ := I.tuple h1.seq
    exact ⟨_, _, PySem.W.kitx_tuple, ⟨o, ho, hc⟩, (fun z => nomatch z), by cases t <;> exact kit_ty (by decide +kernel)⟩
  | lst ds =>
    obtain ⟨a, vs, rfl, h1, h2⟩ := h
    cases rx
    cases e
    obtain ⟨its, rv, ⟨o, n, ho, hc, _, hd⟩, _⟩ := I.list h1
    exact ⟨_, _, PySem.W.kitx_list, ⟨o, ho, hc⟩, (fun z => nomatch z), by cases t <;> exact kit_ty (by decide +kernel)⟩
  | dic ks ws =>
    obtain ⟨a, xs, od, kv, vv, rfl, h1, h2, h3, h4⟩ := h
    cases rx
    cases e
    obtain ⟨hs, o, es, ep, ho, hx, _⟩ := Inv.dictH I h1 h2 h4
    exact ⟨_, _, PySem.W.kitx_dict, ⟨o, ho, hx.1⟩, (fun z => nomatch z), by cases t <;> exact kit_ty (by decide +kernel)⟩
  | cell _ => cases e
  | fn _ => cases e
  | clo _ _ => cases e
  | exn _ _ _ => cases e
def rIsiD (R : Rc) (t : Ty) : List V → Hp → VK → Prop := fun xs H Q => ∃ x ψ φ M d b, xs = [x, .ty (tyStr t)] ∧ Cells R ψ φ H M ∧ Top R ψ φ H d x ∧ isTy d t = some b ∧ Q (.bl b) H
theorem cr_isiD {t : Ty} : CallR X (.builtin "isinstance") (rIsiD (rc X) t) := by
  intro pins s σ H xs us Q I r ⟨x, ψ, φ, M, d, b, e, hc, hd, hb, q⟩
  subst e
  obtain ⟨u1, u2, rfl, r1, r2⟩ := vals2 r
  cases (show u2 = Value.type (tyStr t) from r2)
  obtain ⟨c, P, Z, p, hx, e⟩ := kit_top I hd r1 hb
  exact PySem.W.kia_one Z I.kIn p e hx fun tk => ⟨.bl b, H, I.tok tk, rfl, q⟩

/-! ### slices, truth -/
def rSlD (R : Rc) : V → Option Int → Option Int → Hp → VK → Prop := fun x lo hi H Q => ∃ ψ φ M d z, Cells R ψ φ H M ∧ Top R ψ φ H d x ∧ sliceD d (lo.map .int) (hi.map .int) = some z ∧ ∀ v H', Same H H' → Rep R ψ φ H' z v → Q v H'
theorem part_map (o : Option Int) : partD (o.map .int) = some o := by cases o <;> rfl
theorem sl_D : SlR X (rSlD (rc X)) := by
  intro pins s σ H x v vl vu lo hi sl Q I rx hs pl pu ⟨ψ, φ, M, d, z, hc, hd, hz, q⟩
  unfold sliceD at hz
  rw [part_map, part_map] at hz
  cases d with
  | tup ds =>
    cases hz
    obtain ⟨a, vs, rfl, h1, h2⟩ := hd.tup
    refine sl_tupA pins s σ H _ v vl vu lo hi sl Q I rx hs pl pu ⟨a, vs, rfl, h1.seq, fun ⟨w1, w2⟩ => ?_, fun _ p hp => ?_⟩
    · have e : cutD ds lo hi = ds := by
        unfold cutD
        rw [h2.length] at w1 w2
        rw [w1, w2]
        simp
      exact q _ H (Same.refl H) (by rw [e]; exact hd)
    · refine q _ _ (same_upd hp) (.mkTup hc hp ?_)
      unfold cutV cutD
      rw [h2.length]
      exact (h2.drop _).take _
  | lst ds =>
    cases hz
    obtain ⟨a, vs, rfl, h1, h2⟩ := hd
    refine sl_list pins s σ H _ v vl vu lo hi sl Q I rx hs pl pu ⟨a, vs, rfl, h1, fun p hp => ?_⟩
    refine q _ _ (same_upd hp) (.mkLst hc hp ?_)
    unfold cutV cutD
    rw [h2.length]
    exact (h2.drop _).take _
  | _ => cases hz
def rTru (R : Rc) : V → Hp → (Bool → Hp → Prop) → Prop := fun x H Q => ∃ ψ φ M d b, Cells R ψ φ H M ∧ Top R ψ φ H d x ∧ truD d = some b ∧ Q b H
end
end Pv

end T_PvV
section T_PvW
set_option maxRecDepth 100000
set_option maxHeartbeats 1000000
namespace Pv
open PySem PySem.Spec PyProof.Rows L2
/-! ### what lies at places that are not hidden -/
section
variable {R : Rc} {ψ ψ' φ φ' φ1 : List Addr} {H H' H1 : Hp} {a p : Addr} {vs : List V} {M : List C} {d : D} {v : V} {u : HO} {ds : List D}
def Keep (ψ φ : List Addr) (H : Hp) (ψ' φ' : List Addr) (H' : Hp) : Prop := (∀ (a : Addr) (o : HO), a ∉ ψ → a ∉ φ → H a = some o → a ∉ ψ' ∧ a ∉ φ' ∧ H' a = some o) ∧ ∀ (n : Nat) (a : Addr), φ[n]? = some a → φ'[n]? = some a
theorem AtT.gen (k : Keep ψ φ H ψ' φ' H') (h : AtT R ψ φ H a vs) : AtT R ψ' φ' H' a vs := by
  rcases h with ⟨h1, h2, h3 | ⟨o, h3⟩⟩ | h
  · obtain ⟨q1, q2, q3⟩ := k.1 a _ h1 h2 h3
    exact .inl ⟨q1, q2, .inl q3⟩
  · obtain ⟨q1, q2, q3⟩ := k.1 a _ h1 h2 h3
    exact .inl ⟨q1, q2, .inr ⟨o, q3⟩⟩
  · exact .inr h
theorem AtL.gen (k : Keep ψ φ H ψ' φ' H') (h : AtL R ψ φ H a vs) : AtL R ψ' φ' H' a vs := by
  rcases h with ⟨h1, h2, h3 | ⟨o, h3⟩⟩ | h
  · obtain ⟨q1, q2, q3⟩ := k.1 a _ h1 h2 h3
    exact .inl ⟨q1, q2, .inl q3⟩
  · obtain ⟨q1, q2, q3⟩ := k.1 a _ h1 h2 h3
    exact .inl ⟨q1, q2, .inr ⟨o, q3⟩⟩
  · exact .inr h
mutual
theorem Rep.gen (k : Keep ψ φ H ψ' φ' H') : ∀ (d : D) (v : V), Rep R ψ φ H d v → Rep R ψ' φ' H' d v
  | .non, v, h => by rw [Rep] at *; exact h
  | .bl _, v, h => by rw [Rep] at *; exact h
  | .int _, v, h => by rw [Rep] at *; exact h
  | .str _, v, h => by rw [Rep] at *; exact h
  | .tup ds, v, h => by
    rw [Rep] at *
    obtain ⟨a, vs, e, h1, h2⟩ := h
    exact ⟨a, vs, e, h1.gen k, Reps.gen k ds vs h2⟩
  | .lst ds, v, h => by
    rw [Rep] at *
    obtain ⟨a, vs, e, h1, h2⟩ := h
    exact ⟨a, vs, e, h1.gen k, Reps.gen k ds vs h2⟩
  | .dic ks ws, v, h => by
    rw [Rep] at *
    obtain ⟨a, xs, od, kv, vv, e, ⟨h1, h2, h3⟩, h4, h5, h6⟩ := h
    exact ⟨a, xs, od, kv, vv, e, k.1 _ _ h1 h2 h3, Reps.gen k ks kv h4, Reps.gen k ws vv h5, h6⟩
  | .cell n, v, h => by
    rw [Rep] at *
    obtain ⟨a, e, h⟩ := h
    exact ⟨a, e, k.2 _ _ h⟩
  | .fn _, v, h => by rw [Rep] at *; exact h
  | .clo _ _, v, h => by rw [Rep] at *; exact h
  | .exn _ _ _, v, h => by rw [Rep] at *; exact h
theorem Reps.gen (k : Keep ψ φ H ψ' φ' H') : ∀ (ds : List D) (vs : List V), Reps R ψ φ H ds vs → Reps R ψ' φ' H' ds vs
  | [], vs, h => by rw [Reps] at *; exact h
  | d :: ds, vs, h => by
    rw [Reps] at *
    obtain ⟨v, r, e, h1, h2⟩ := h
    exact ⟨v, r, e, Rep.gen k d v h1, Reps.gen k ds r h2⟩
end
theorem CellOk.gen {c : C} (k : Keep ψ φ H ψ' φ' H') (e : ∀ o : HO, H a = Option.some o → H' a = Option.some o) (h : CellOk R ψ φ H a c) : CellOk R ψ' φ' H' a c := by
  cases c with
  | lst xs =>
    obtain ⟨vs, h1, h2⟩ := h
    exact ⟨vs, e _ h1, h2.gen k⟩
  | dic ks ws =>
    obtain ⟨xs, od, kv, vv, h1, h2, h3, h4⟩ := h
    exact ⟨xs, od, kv, vv, e _ h1, h2.gen k, h3.gen k, h4⟩
theorem Keep.of (hψ : ∀ a ∈ ψ', a ∈ ψ ∨ H a = none) (f : Fr φ H φ' H') : Keep ψ φ H ψ' φ' H' := by
  refine ⟨fun a o h1 h2 h3 => ⟨fun m => ?_, f.not h2 h3, f.keep a o h2 h3⟩, fun _ _ e => f.get e⟩
  rcases hψ a m with m | m
  · exact h1 m
  · rw [h3] at m; cases m
theorem Keep.trans {ψ2 φ2 : List Addr} {H2 : Hp} (k : Keep ψ φ H ψ' φ' H') (l : Keep ψ' φ' H' ψ2 φ2 H2) : Keep ψ φ H ψ2 φ2 H2 :=
  ⟨fun a o h1 h2 h3 => let ⟨q1, q2, q3⟩ := k.1 a o h1 h2 h3; l.1 a o q1 q2 q3, fun n a e => l.2 n a (k.2 n a e)⟩
theorem Keep.fr (f : Fr φ H φ' H') : Keep ψ φ H ψ φ' H' := .of (fun _ m => .inl m) f
end

/-! ### a new list, a new dict -/
def NewOk (R : Rc) (ψ φ : List Addr) (H : Hp) (p : Addr) (u : HO) : D → Prop
  | .lst ds => ∃ vs, u = .lst vs ∧ Reps R ψ φ H ds vs
  | .dic ks ws => ∃ xs od kv vv, u = dO R p xs od ∧ Reps R ψ φ H ks kv ∧ Reps R ψ φ H ws vv ∧ EntOk ks kv vv xs
  | _ => False
def PostN (R : Rc) (W : WX) (ψ φ : List Addr) (H : Hp) (σ : L2.St) (Q : VK) (o : Except D D) (M' : List C) : Prop := match o with
  | .ok d => ∀ p u φ' H1, Fr φ H φ' H1 → Cells R ψ φ' H1 M' → H1 p = none → NewOk R ψ φ' H1 p u d → Q (.ref p) (upd H1 p u)
  | .error x => ∀ cls dx φ' H', Fr φ H φ' H' → Cells R ψ φ' H' M' → ExnOk R ψ φ' H' x cls dx → W cls dx σ H'
def tN (R : Rc) (W : WX) (f : Env → List C → Res D) : TE := fun σ H Q => ∃ ψ φ ρ M o M', EnvOk R ψ φ H ρ σ ∧ Cells R ψ φ H M ∧ f ρ M = some (o, M') ∧ PostN R W ψ φ H σ Q o M'
section
variable {R : Rc} {W : WX} {ψ φ φ1 : List Addr} {ρ : Env} {σ : L2.St} {H H1 H' : Hp} {M M' M1 : List C} {Q Q' : VK} {o : Except D D} {f fa fb : Env → List C → Res D} {k : D → List C → Res D}
theorem PostN.mono (h : PostN R W ψ φ H σ Q o M') (g : Fr φ H φ1 H1) : PostN R W ψ φ1 H1 σ Q o M' := by
  cases o with
  | ok d => exact fun p u φ' H' g' c e r => h p u φ' H' (g.trans g') c e r
  | error x => exact fun cls dx φ' H' g' c r => h cls dx φ' H' (g.trans g') c r
theorem NewOk.rep {u : HO} {p : Addr} {d : D} (hc : Cells R ψ φ H M) (hp : H p = none) (h : NewOk R ψ φ H p u d) : Rep R ψ φ (upd H p u) d (.ref p) := by
  cases d with
  | lst ds =>
    obtain ⟨vs, rfl, h⟩ := h
    exact .mkLst hc hp h
  | dic ks ws =>
    obtain ⟨xs, od, kv, vv, rfl, h1, h2, h3⟩ := h
    rw [Rep]
    exact ⟨p, xs, od, kv, vv, rfl, ⟨(hc.free hp).2, (hc.free hp).1, upd_same⟩, Reps.mono (.of_same (same_upd hp)) _ _ h1, Reps.mono (.of_same (same_upd hp)) _ _ h2, h3⟩
  | _ => exact h.elim
theorem Post.new (h : Post R W ψ φ H σ Q o M') : PostN R W ψ φ H σ Q o M' := by
  cases o with
  | ok d => exact fun p u φ' H1 g c e r => h _ φ' _ (g.trans (.of_same (same_upd e))) (c.same (same_upd e)) (r.rep c e)
  | error x => exact h
theorem tN_step (hρ : EnvOk R ψ φ H ρ σ) (hc : Cells R ψ φ H M) (he : bnd (fa ρ M) k = some (o, M')) (hp : PostN R W ψ φ H σ Q o M')
    (hq : ∀ d x φ1 H1 M1, Fr φ H φ1 H1 → EnvOk R ψ φ1 H1 ρ σ → Cells R ψ φ1 H1 M1 → Rep R ψ φ1 H1 d x → k d M1 = some (o, M') → PostN R W ψ φ1 H1 σ Q o M' → Q' x H1) : tD R W fa σ H Q' := by
  rcases bnd_some he with ⟨d, M1, e1, e2⟩ | ⟨x, M1, e1, e2⟩
  · exact ⟨ψ, φ, ρ, M, _, _, hρ, hc, e1, fun v φ' H' g c r => hq d v φ' H' M1 g (hρ.mono g) c r e2 (hp.mono g)⟩
  · cases e2
    exact ⟨ψ, φ, ρ, M, _, _, hρ, hc, e1, hp⟩
/-- a new cell -/
theorem Cells.new {p : Addr} {u : HO} {c : C} {d : D} (hc : Cells R ψ φ H M) (hp : H p = none) (h : NewOk R ψ φ H p u d) (e : d = match c with | .lst xs => .lst xs | .dic ks vs => .dic ks vs) :
    Fr φ H (φ ++ [p]) (upd H p u) ∧ Cells R ψ (φ ++ [p]) (upd H p u) (M ++ [c]) ∧ Rep R ψ (φ ++ [p]) (upd H p u) (.cell M.length) (.ref p) := by
  have hf : Fr φ H (φ ++ [p]) (upd H p u) := ⟨fun b o n e => same_upd hp b o e, List.prefix_append _ _, fun b m => by
    rcases List.mem_append.mp m with m | m
    · exact .inl m
    · rw [List.mem_singleton.mp m]; exact .inr hp⟩
  refine ⟨hf, ⟨by simp [hc.len], ?_, fun b m => ?_, fun b m => ?_, fun n b x h1 h2 => ?_⟩, ?_⟩
  · rw [List.nodup_append]
    exact ⟨hc.nd, by simp, fun x hx y hy => by rw [List.mem_singleton.mp hy]; exact fun z => (hc.free hp).1 (z ▸ hx)⟩
  · rcases List.mem_append.mp m with m | m
    · exact hc.apart b m
    · rw [List.mem_singleton.mp m]; exact (hc.free hp).2
  · obtain ⟨o, e⟩ := hc.hid b m
    exact ⟨o, same_upd hp _ _ e⟩
  · by_cases hn : n < φ.length
    · rw [List.getElem?_append_left hn] at h1
      rw [List.getElem?_append_left (by rw [← hc.len]; exact hn)] at h2
      exact (hc.ok n b x h1 h2).mono hf fun o e => same_upd hp _ _ e
    · have hn' : n = φ.length := by
        have := (List.getElem?_eq_some_iff.mp h1).1
        simp at this
        omega
      subst hn'
      rw [List.getElem?_append_right (Nat.le_refl _)] at h1
      rw [hc.len, List.getElem?_append_right (Nat.le_refl _)] at h2
      simp at h1 h2
      subst h1 h2
      cases c with
      | lst xs =>
        subst e
        obtain ⟨vs, rfl, h⟩ := h
        exact ⟨vs, upd_same, h.mono hf⟩
      | dic ks ws =>
        subst e
        obtain ⟨xs, od, kv, vv, rfl, h1, h2, h3⟩ := h
        exact ⟨xs, od, kv, vv, upd_same, h1.mono hf, h2.mono hf, h3⟩
  · rw [Rep]
    exact ⟨p, rfl, by rw [← hc.len, List.getElem?_append_right (Nat.le_refl _)]; simp⟩
def mkF (f : Env → List C → Res D) : Env → List C → Res D := fun ρ M => bnd (f ρ M) fun d M1 => (match d with
  | .lst xs => some (.ok (.cell M1.length), M1 ++ [.lst xs])
  | .dic ks vs => some (.ok (.cell M1.length), M1 ++ [.dic ks vs])
  | _ => none)
theorem pv_new {X : Cx} {e : Expr} (h : PE X e (tN R W f)) : PE X e (tD R W f) := pe_mono h fun σ H Q ⟨ψ, φ, ρ, M, o, M', h1, h2, h3, h4⟩ => ⟨ψ, φ, ρ, M, o, M', h1, h2, h3, h4.new⟩
theorem pv_mk {X : Cx} {e : Expr} (h : PE X e (tN R W f)) : PE X e (tD R W (mkF f)) := pe_mono h fun σ H Q ⟨ψ, φ, ρ, M, o, M', h1, h2, h3, h4⟩ => by
  unfold mkF at h3
  rcases bnd_some h3 with ⟨d, M1, e1, e2⟩ | ⟨x, M1, e1, e2⟩
  · refine ⟨ψ, φ, ρ, M, _, _, h1, h2, e1, fun p u φ' H1 g c e r => ?_⟩
    split at e2
    · cases e2
      obtain ⟨g2, c2, r2⟩ := Cells.new (c := .lst _) c e r rfl
      exact h4 _ _ _ (g.trans g2) c2 r2
    · cases e2
      obtain ⟨g2, c2, r2⟩ := Cells.new (c := .dic _ _) c e r rfl
      exact h4 _ _ _ (g.trans g2) c2 r2
    · cases e2
  · cases e2
    exact ⟨ψ, φ, ρ, M, _, _, h1, h2, e1, h4⟩
end

/-! ### expressions -/
section
variable {X : Cx} {W : WX} {ea eb ec : Expr} {fa fb fc : Env → List C → Res D} {pos p2 : Pos} {Γ : Ctx}
theorem pv_var {i : Nat} {x : Str} (hN : X.N[i]? = some x) (hv : Vis X.env.scope x) (hd : (x == ("__debug__" : Str)) = false) (hcd : (x == ("__classdict__" : Str)) = false) :
    PE X (.Name x pos) (tD (rc X) W (evE Γ (.var i))) := pe_mono (pe_var hN hv hd hcd) fun σ H Q ⟨ψ, φ, ρ, M, o, M', hρ, hc, he, hp⟩ => by
  rw [evE] at he
  split at he
  · rename_i d hd
    cases he
    obtain ⟨v, e1, e2⟩ := hρ.2 i d hd
    exact ⟨v, e1, hp.ok (Same.refl H) hc e2⟩
  · cases he
theorem pv_c {e : Expr} {v : V} {d : D} (h : PE X e (tC v)) (hr : ∀ ψ φ H M, Cells (rc X) ψ φ H M → Rep (rc X) ψ φ H d v) : PE X e (tD (rc X) W fun ρ M => some (.ok d, M)) := pe_mono h fun σ H Q ⟨ψ, φ, ρ, M, o, M', hρ, hc, he, hp⟩ => by
  cases he
  exact hp.ok (Same.refl H) hc (hr _ _ _ _ hc)
theorem pv_glob {x : Str} {v : V} {u : Value} {d : D} (hg : Gl X x) (hm : X.mg x = some u) (r : RelV v u) (hd : (x == ("__debug__" : Str)) = false) (hr : ∀ ψ φ H M, Cells (rc X) ψ φ H M → Rep (rc X) ψ φ H d v) (hG : ∀ e, Γ.glob x = some e → e = d) :
    PE X (.Name x pos) (tD (rc X) W (evE Γ (.glob x))) := pe_mono (pe_glob hg hm r hd) fun σ H Q ⟨ψ, φ, ρ, M, o, M', hρ, hc, he, hp⟩ => by
  rw [evE] at he
  obtain ⟨e, e1, e2⟩ := ofO_inv he
  cases e2
  rw [hG e e1] at hp
  exact hp.ok (Same.refl H) hc (hr _ _ _ _ hc)
theorem pv_bin {op : Operator} {b : BOp} (h : bopOf op = some b) (ha : PE X ea (tD (rc X) W fa)) (hb : PE X eb (tD (rc X) W fb)) :
    PE X (.BinOp ea op eb pos) (tD (rc X) W fun ρ M => bnd (fa ρ M) fun x M1 => bnd (fb ρ M1) fun y M2 => ofO (binD b (drf M2 x) (drf M2 y)) M2) :=
  pe_mono (pe_op (op_binD h) ha hb) fun σ H Q ⟨ψ, φ, ρ, M, o, M', hρ, hc, he, hp⟩ => tD_step hρ hc he hp fun d x φ1 H1 M1 g hρ1 hc1 r he1 hp1 => tD_step hρ1 hc1 he1 hp1 fun e y φ2 H2 M2 g2 hρ2 hc2 r2 he2 hp2 => by
    obtain ⟨z, hz, hzz⟩ := ofO_inv he2
    cases hzz
    exact ⟨ψ, φ2, _, _, _, z, hc2, Rep.drf (Rep.mono g2 _ _ r) hc2, r2.drf hc2, hz, fun v H' hs rz => hp2.ok hs hc2 rz⟩
/-- two lists, a new one -/
def catF (fa fb : Env → List C → Res D) : Env → List C → Res D := fun ρ M => bnd (fa ρ M) fun x M1 => bnd (fb ρ M1) fun y M2 => (match drf M2 x, drf M2 y with
  | .lst xs, .lst ys => if xs.length + ys.length ≤ SZ then some (.ok (.lst (xs ++ ys)), M2) else none
  | _, _ => none)
theorem pv_cat (ha : PE X ea (tD (rc X) W fa)) (hb : PE X eb (tD (rc X) W fb)) : PE X (.BinOp ea .Add eb pos) (tN (rc X) W (catF fa fb)) :=
  pe_mono (pe_op op_catD ha hb) fun σ H Q ⟨ψ, φ, ρ, M, o, M', hρ, hc, he, hp⟩ => tN_step hρ hc he hp fun d x φ1 H1 M1 g hρ1 hc1 r he1 hp1 => tN_step hρ1 hc1 he1 hp1 fun e y φ2 H2 M2 g2 hρ2 hc2 r2 he2 hp2 => by
    split at he2
    · rename_i xs ys e1 e2
      split at he2
      · rename_i hl
        cases he2
        have t1 := Rep.drf (Rep.mono g2 _ _ r) hc2
        have t2 := r2.drf hc2
        rw [e1] at t1
        rw [e2] at t2
        exact ⟨ψ, φ2, _, _, _, hc2, t1, t2, hl, fun p vs hn hv => hp2 p _ φ2 H2 (Fr.refl) hc2 hn ⟨vs, rfl, hv⟩⟩
      · cases he2
    · cases he2
theorem pv_neg (ha : PE X ea (tD (rc X) W fa)) : PE X (.UnaryOp .USub ea pos) (tD (rc X) W fun ρ M => bnd (fa ρ M) fun x M1 => (match x with
    | .int i => some (.ok (.int (-i)), M1)
    | _ => none)) :=
  pe_mono (pe_un un_neg ha) fun σ H Q ⟨ψ, φ, ρ, M, o, M', hρ, hc, he, hp⟩ => tD_step hρ hc he hp fun d x φ1 H1 M1 g hρ1 hc1 r he1 hp1 => by
    split at he1
    · cases he1
      exact ⟨_, r.int, hp1.ok (Same.refl _) hc1 .mkInt⟩
    · cases he1
theorem top_tru {ψ φ : List Addr} {H : Hp} {d : D} {v : V} {b : Bool} (h : Top (rc X) ψ φ H d v) (e : truD d = some b) : TruV X.K v H b := by
  cases d with
  | non => rw [h.non]; cases e; rfl
  | bl y => rw [h.bl]; cases e; rfl
  | int i =>
    rw [h.int]
    cases e
    show decide (i ≠ 0) = (i != 0)
    rw [bne, Bool.beq_eq_decide_eq]
    simp
  | str x =>
    rw [h.str]
    unfold truD at e
    simp only at e
    split at e
    · rename_i hl
      cases e
      refine ⟨SZ_le hl, ?_⟩
      rw [bne, Bool.beq_eq_decide_eq]
      simp [Int.natCast_eq_zero]
    · cases e
  | tup ds =>
    obtain ⟨a, vs, rfl, h1, h2⟩ := h.tup
    cases e
    refine .inr (.inl ⟨vs, h1.seq, ?_⟩)
    have := h2.length
    cases ds <;> cases vs <;> simp_all
  | lst ds =>
    obtain ⟨a, vs, rfl, h1, h2⟩ := h
    cases e
    refine .inl ⟨vs, h1, ?_⟩
    have := h2.length
    cases ds <;> cases vs <;> simp_all
  | _ => cases e
theorem pv_not (ha : PE X ea (tD (rc X) W fa)) : PE X (.UnaryOp .Not ea pos) (tD (rc X) W fun ρ M => bnd (fa ρ M) fun x M1 => ofO ((truD (drf M1 x)).map fun b => .bl (!b)) M1) :=
  pe_mono (pe_notT ha) fun σ H Q ⟨ψ, φ, ρ, M, o, M', hρ, hc, he, hp⟩ => tD_step hρ hc he hp fun d x φ1 H1 M1 g hρ1 hc1 r he1 hp1 => by
    obtain ⟨z, hz, hzz⟩ := ofO_inv he1
    cases hzz
    obtain ⟨b, e, rfl⟩ := Option.map_eq_some_iff.mp hz
    exact ⟨b, top_tru (r.drf hc1) e, hp1.ok (Same.refl _) hc1 .mkBl⟩
theorem pv_and {rest : List Expr} (ha : PE X ea (tD (rc X) W fa)) (hb : PE X (.BoolOp .And (eb :: rest) pos) (tD (rc X) W fb)) : PE X (.BoolOp .And (ea :: eb :: rest) pos) (tD (rc X) W fun ρ M => bnd (fa ρ M) fun x M1 => (match truD (drf M1 x) with
    | some true => fb ρ M1
    | some false => some (.ok x, M1)
    | none => none)) :=
  pe_mono (pe_andT ha hb) fun σ H Q ⟨ψ, φ, ρ, M, o, M', hρ, hc, he, hp⟩ => tD_step hρ hc he hp fun d x φ1 H1 M1 g hρ1 hc1 r he1 hp1 => by
    split at he1
    · rename_i e
      exact ⟨true, top_tru (r.drf hc1) e, by rw [if_pos rfl]; exact tD_last hρ1 hc1 he1 hp1⟩
    · rename_i e
      cases he1
      exact ⟨false, top_tru (r.drf hc1) e, by rw [if_neg (by decide)]; exact hp1.ok (Same.refl _) hc1 r⟩
    · cases he1
theorem pv_or {rest : List Expr} (ha : PE X ea (tD (rc X) W fa)) (hb : PE X (.BoolOp .Or (eb :: rest) pos) (tD (rc X) W fb)) : PE X (.BoolOp .Or (ea :: eb :: rest) pos) (tD (rc X) W fun ρ M => bnd (fa ρ M) fun x M1 => (match truD (drf M1 x) with
    | some true => some (.ok x, M1)
    | some false => fb ρ M1
    | none => none)) :=
  pe_mono (pe_orT ha hb) fun σ H Q ⟨ψ, φ, ρ, M, o, M', hρ, hc, he, hp⟩ => tD_step hρ hc he hp fun d x φ1 H1 M1 g hρ1 hc1 r he1 hp1 => by
    split at he1
    · rename_i e
      cases he1
      exact ⟨true, top_tru (r.drf hc1) e, by rw [if_pos rfl]; exact hp1.ok (Same.refl _) hc1 r⟩
    · rename_i e
      exact ⟨false, top_tru (r.drf hc1) e, by rw [if_neg (by decide)]; exact tD_last hρ1 hc1 he1 hp1⟩
    · cases he1
def cmpF (op : COp) (fa fb : Env → List C → Res D) : Env → List C → Res D := fun ρ M => bnd (fa ρ M) fun x M1 => bnd (fb ρ M1) fun y M2 => ofO ((cmpD op (drf M2 x) (drf M2 y)).map .bl) M2
theorem notcell_drf {M : List C} {d : D} (h : drf M d = .non) : d = .non := by
  unfold drf at h
  split at h
  · split at h <;> cases h
  · exact h
theorem tCmpD {t : TE} {op : COp} {r : R2} (hR : ∀ ψ φ M d e x y H k Q, Cells (rc X) ψ φ H M → Rep (rc X) ψ φ H d x → Rep (rc X) ψ φ H e y → cmpD op (drf M d) (drf M e) = some k → Q (.bl k) H → r x y H Q) :
    ∀ σ H Q, tD (rc X) W (cmpF op fa fb) σ H Q → tOp r (tD (rc X) W fa) (tD (rc X) W fb) σ H Q := fun σ H Q ⟨ψ, φ, ρ, M, o, M', hρ, hc, he, hp⟩ => tD_step hρ hc he hp fun d x φ1 H1 M1 g hρ1 hc1 r he1 hp1 => tD_step hρ1 hc1 he1 hp1 fun e y φ2 H2 M2 g2 hρ2 hc2 r2 he2 hp2 => by
    obtain ⟨z, hz, hzz⟩ := ofO_inv he2
    cases hzz
    obtain ⟨k, hk, rfl⟩ := Option.map_eq_some_iff.mp hz
    exact hR ψ φ2 _ _ _ _ _ _ k _ hc2 (Rep.mono g2 _ _ r) r2 hk (hp2.ok (Same.refl _) hc2 .mkBl)
end
end Pv

end T_PvW
section T_PvX
set_option maxRecDepth 100000
set_option maxHeartbeats 1000000
namespace Pv
open PySem PySem.Spec PyProof.Rows L2
/-! ### what follows, of any kind -/
def PostX {α : Type} (R : Rc) (W : WX) (ψ φ : List Addr) (H : Hp) (σ : L2.St) (K : α → List Addr → Hp → Prop) (o : Except D α) (M' : List C) : Prop := match o with
  | .ok a => ∀ φ' H', Fr φ H φ' H' → Cells R ψ φ' H' M' → K a φ' H'
  | .error x => ∀ cls dx φ' H', Fr φ H φ' H' → Cells R ψ φ' H' M' → ExnOk R ψ φ' H' x cls dx → W cls dx σ H'
section
variable {α : Type} {R : Rc} {W : WX} {ψ φ φ1 : List Addr} {ρ : Env} {σ : L2.St} {H H1 H' : Hp} {M M' M1 : List C} {Q Q' : VK} {o : Except D α} {f fa fb : Env → List C → Res D} {k : D → List C → Res α} {K : α → List Addr → Hp → Prop}
theorem PostX.mono (h : PostX R W ψ φ H σ K o M') (g : Fr φ H φ1 H1) : PostX R W ψ φ1 H1 σ K o M' := by
  cases o with
  | ok d => exact fun φ' H' g' c => h φ' H' (g.trans g') c
  | error x => exact fun cls dx φ' H' g' c r => h cls dx φ' H' (g.trans g') c r
theorem PostX.of {o : Except D D} (h : Post R W ψ φ H σ Q o M') : PostX R W ψ φ H σ (fun d φ' H' => ∀ v, Rep R ψ φ' H' d v → Q v H') o M' := by
  cases o with
  | ok d => exact fun φ' H' g c v r => h v φ' H' g c r
  | error x => exact h
theorem PostX.to {o : Except D D} (h : PostX R W ψ φ H σ (fun d φ' H' => ∀ v, Rep R ψ φ' H' d v → Q v H') o M') : Post R W ψ φ H σ Q o M' := by
  cases o with
  | ok d => exact fun v φ' H' g c r => h φ' H' g c v r
  | error x => exact h
theorem tX_step (hρ : EnvOk R ψ φ H ρ σ) (hc : Cells R ψ φ H M) (he : bnd (fa ρ M) k = some (o, M')) (hp : PostX R W ψ φ H σ K o M')
    (hq : ∀ d x φ1 H1 M1, Fr φ H φ1 H1 → EnvOk R ψ φ1 H1 ρ σ → Cells R ψ φ1 H1 M1 → Rep R ψ φ1 H1 d x → k d M1 = some (o, M') → PostX R W ψ φ1 H1 σ K o M' → Q' x H1) : tD R W fa σ H Q' := by
  rcases bnd_some he with ⟨d, M1, e1, e2⟩ | ⟨x, M1, e1, e2⟩
  · exact ⟨ψ, φ, ρ, M, _, _, hρ, hc, e1, fun v φ' H' g c r => hq d v φ' H' M1 g (hρ.mono g) c r e2 (hp.mono g)⟩
  · cases e2
    exact ⟨ψ, φ, ρ, M, _, _, hρ, hc, e1, hp⟩
end
/-- a test, an argument list -/
def tT (R : Rc) (W : WX) (f : Env → List C → Res Bool) : TT := fun σ H Q => ∃ ψ φ ρ M o M', EnvOk R ψ φ H ρ σ ∧ Cells R ψ φ H M ∧ f ρ M = some (o, M') ∧ PostX R W ψ φ H σ (fun b _ H' => Q b H') o M'
def tA (R : Rc) (W : WX) (f : Env → List C → Res (List D)) : TA := fun σ H Q => ∃ ψ φ ρ M o M', EnvOk R ψ φ H ρ σ ∧ Cells R ψ φ H M ∧ f ρ M = some (o, M') ∧ PostX R W ψ φ H σ (fun ds φ' H' => ∀ vs, Reps R ψ φ' H' ds vs → Q vs H') o M'
theorem tT_step {α : Type} {R : Rc} {W : WX} {ψ φ : List Addr} {ρ : Env} {σ : L2.St} {H : Hp} {M M' : List C} {o : Except D α} {f : Env → List C → Res Bool} {k : Bool → List C → Res α} {K : α → List Addr → Hp → Prop} {Q' : Bool → Hp → Prop}
    (hρ : EnvOk R ψ φ H ρ σ) (hc : Cells R ψ φ H M) (he : bnd (f ρ M) k = some (o, M')) (hp : PostX R W ψ φ H σ K o M')
    (hq : ∀ b φ1 H1 M1, Fr φ H φ1 H1 → EnvOk R ψ φ1 H1 ρ σ → Cells R ψ φ1 H1 M1 → k b M1 = some (o, M') → PostX R W ψ φ1 H1 σ K o M' → Q' b H1) : tT R W f σ H Q' := by
  rcases bnd_some he with ⟨d, M1, e1, e2⟩ | ⟨x, M1, e1, e2⟩
  · exact ⟨ψ, φ, ρ, M, _, _, hρ, hc, e1, fun φ' H' g c => hq d φ' H' M1 g (hρ.mono g) c e2 (hp.mono g)⟩
  · cases e2
    exact ⟨ψ, φ, ρ, M, _, _, hρ, hc, e1, hp⟩
theorem tA_step {α : Type} {R : Rc} {W : WX} {ψ φ : List Addr} {ρ : Env} {σ : L2.St} {H : Hp} {M M' : List C} {o : Except D α} {f : Env → List C → Res (List D)} {k : List D → List C → Res α} {K : α → List Addr → Hp → Prop} {Q' : List V → Hp → Prop}
    (hρ : EnvOk R ψ φ H ρ σ) (hc : Cells R ψ φ H M) (he : bnd (f ρ M) k = some (o, M')) (hp : PostX R W ψ φ H σ K o M')
    (hq : ∀ ds vs φ1 H1 M1, Fr φ H φ1 H1 → EnvOk R ψ φ1 H1 ρ σ → Cells R ψ φ1 H1 M1 → Reps R ψ φ1 H1 ds vs → k ds M1 = some (o, M') → PostX R W ψ φ1 H1 σ K o M' → Q' vs H1) : tA R W f σ H Q' := by
  rcases bnd_some he with ⟨d, M1, e1, e2⟩ | ⟨x, M1, e1, e2⟩
  · exact ⟨ψ, φ, ρ, M, _, _, hρ, hc, e1, fun φ' H' g c vs r => hq d vs φ' H' M1 g (hρ.mono g) c r e2 (hp.mono g)⟩
  · cases e2
    exact ⟨ψ, φ, ρ, M, _, _, hρ, hc, e1, hp⟩
theorem pa_mono {X : Cx} {e : List Expr} {t t' : TA} (h : PA X e t) (i : ∀ σ H Q, t' σ H Q → t σ H Q) : PA X e t' := ⟨fun pos pins s σ H Q I q => h.run pos pins s σ H Q I (i σ H Q q)⟩
def notStar : Expr → Bool
  | .Starred _ _ => false
  | _ => true
theorem star_cons {e : Expr} {es : List Expr} {env : PySem.Env} (h : notStar e = true) : starEach (e :: es) env = (false, eval e env) :: starEach es env := by
  cases e <;> first | rfl | cases h
theorem star_any : ∀ {es : List Expr} {env : PySem.Env} {pos : Pos}, es.all notStar = true → (backTo pos (starEach es env)).any (·.1) = false
  | [], _, _, _ => rfl
  | e :: es, env, pos, h => by
    rw [List.all_cons, Bool.and_eq_true] at h
    rw [star_cons h.1]
    have ih := @star_any es env pos h.2
    unfold backTo at *
    simp_all
section
variable {X : Cx} {W : WX} {ea eb ec : Expr} {fa fb fc : Env → List C → Res D} {pos p2 : Pos} {Γ : Ctx}
theorem pv_nil : PA X [] (tA (rc X) W fun _ M => some (.ok [], M)) := pa_mono pa_nil fun σ H Q ⟨ψ, φ, ρ, M, o, M', hρ, hc, he, hp⟩ => by
  cases he
  exact hp φ H .refl hc [] .nil
theorem cons_imp {fs : Env → List C → Res (List D)} : ∀ σ H Q, tA (rc X) W (fun ρ M => bnd (fa ρ M) fun d M1 => bnd (fs ρ M1) fun ds M2 => some (.ok (d :: ds), M2)) σ H Q → tCons (tD (rc X) W fa) (tA (rc X) W fs) σ H Q := fun σ H Q ⟨ψ, φ, ρ, M, o, M', hρ, hc, he, hp⟩ => tX_step hρ hc he hp fun d x φ1 H1 M1 g hρ1 hc1 r he1 hp1 => tA_step hρ1 hc1 he1 hp1 fun ds vs φ2 H2 M2 g2 hρ2 hc2 r2 he2 hp2 => by
    cases he2
    exact hp2 φ2 H2 .refl hc2 _ (.cons (r.mono g2) r2)
theorem pv_cons {es : List Expr} {fs : Env → List C → Res (List D)} (hs : notStar ea = true) (ha : PE X ea (tD (rc X) W fa)) (hb : PA X es (tA (rc X) W fs)) : PA X (ea :: es) (tA (rc X) W fun ρ M => bnd (fa ρ M) fun d M1 => bnd (fs ρ M1) fun ds M2 => some (.ok (d :: ds), M2)) :=
  pa_mono (pa_cons ha hb (star_cons hs)) cons_imp
theorem pk_mono {X : Cx} {e : List Keyword} {t t' : TA} (h : PK X e t) (i : ∀ σ H Q, t' σ H Q → t σ H Q) : PK X e t' := ⟨fun pos pins s σ H Q I q => h.run pos pins s σ H Q I (i σ H Q q)⟩
theorem pvk_nil : PK X [] (tA (rc X) W fun _ M => some (.ok [], M)) := pk_mono pk_nil fun σ H Q ⟨ψ, φ, ρ, M, o, M', hρ, hc, he, hp⟩ => by
  cases he
  exact hp φ H .refl hc [] .nil
theorem pvk_cons {kws : List Keyword} {nm : Option Str} {kpos : Pos} {fs : Env → List C → Res (List D)} (ha : PE X ea (tD (rc X) W fa)) (hb : PK X kws (tA (rc X) W fs)) : PK X (⟨nm, ea, kpos⟩ :: kws) (tA (rc X) W fun ρ M => bnd (fa ρ M) fun d M1 => bnd (fs ρ M1) fun ds M2 => some (.ok (d :: ds), M2)) :=
  pk_mono (pk_cons ha hb) cons_imp

/-! ### comparisons -/
def rK (R : Rc) (op : COp) : R2 := fun x y H Q => ∃ ψ φ M d e b, Cells R ψ φ H M ∧ Rep R ψ φ H d x ∧ Rep R ψ φ H e y ∧ cmpD op (drf M d) (drf M e) = some b ∧ ∀ H', Same H H' → Q (.bl b) H'
def copX : CmpOp → Option COp
  | .Is => some .isNone | .IsNot => some .notNone
  | o => copOf o
theorem rep_non {R : Rc} {ψ φ : List Addr} {H : Hp} {M : List C} {d : D} {x : V} (hc : Cells R ψ φ H M) (h : Rep R ψ φ H d x) : decide (x = .non) = decide (drf M d = .non) := by
  have t := h.drf hc
  cases e : drf M d with
  | non => rw [e] at t; rw [t.non]; simp
  | bl b => rw [e] at t; rw [t.bl]; simp
  | int b => rw [e] at t; rw [t.int]; simp
  | str b => rw [e] at t; rw [t.str]; simp
  | tup b => rw [e] at t; obtain ⟨a, vs, rfl, _⟩ := t.tup; simp
  | lst b => rw [e] at t; obtain ⟨a, vs, rfl, _⟩ := t; simp
  | dic b c => rw [e] at t; obtain ⟨a, xs, od, kv, vv, rfl, _⟩ := t; simp
  | cell n => rw [e] at t; exact t.elim
  | fn z => rw [e] at t; have t : Rep R ψ φ H (.fn z) x := t; rw [Rep] at t; obtain ⟨f, rfl, _⟩ := t; simp
  | clo z z' => rw [e] at t; have t : Rep R ψ φ H (.clo z z') x := t; rw [Rep] at t; exact t.elim
  | exn z z' z'' => rw [e] at t; have t : Rep R ψ φ H (.exn z z' z'') x := t; rw [Rep] at t; exact t.elim
theorem op_isK : OpR X (compareOp .Is) (rK (rc X) .isNone) := by
  intro pins s σ H x y v u Q I rx ry ⟨ψ, φ, M, d, e, b, hc, hd, he, hb, q⟩
  unfold cmpD at hb
  simp only at hb
  split at hb
  · rename_i e'
    have ee := notcell_drf e'
    subst ee
    cases hb
    rw [Rep] at he
    exact op_isN pins s σ H x y v u Q I rx ry ⟨he, by rw [rep_non hc hd]; exact q H (Same.refl H)⟩
  · cases hb
theorem op_notK : OpR X (compareOp .IsNot) (rK (rc X) .notNone) := by
  intro pins s σ H x y v u Q I rx ry ⟨ψ, φ, M, d, e, b, hc, hd, he, hb, q⟩
  unfold cmpD at hb
  simp only at hb
  split at hb
  · rename_i e'
    have ee := notcell_drf e'
    subst ee
    cases hb
    rw [Rep] at he
    refine op_notN pins s σ H x y v u Q I rx ry ⟨he, ?_⟩
    rw [rep_non hc hd]
    simpa using q H (Same.refl H)
  · cases hb
theorem op_cmpK (hu : X.A.units + 64 < cLine) {op : CmpOp} {b : COp} (h : copX op = some b) : OpR X (compareOp op) (rK (rc X) b) := by
  by_cases h1 : op = .Is
  · subst h1; cases h; exact op_isK
  by_cases h2 : op = .IsNot
  · subst h2; cases h; exact op_notK
  have h' : copOf op = some b := by cases op <;> first | exact h | exact absurd rfl h1 | exact absurd rfl h2
  intro pins s σ H x y v u Q I rx ry ⟨ψ, φ, M, d, e, k, hc, hd, he, hb, q⟩
  refine op_cmpD hu h' pins s σ H x y v u Q I rx ry ⟨ψ, φ, M, _, _, .bl k, hc, hd.drf hc, he.drf hc, by show Option.map D.bl _ = _; rw [hb]; rfl, fun v' H' hs r => ?_⟩
  rw [r.bl]
  exact q H' hs
theorem nomarkE {b : Expr} (op : CmpOp) (h : (match b with | .Set _ _ _ => false | _ => true) = true) : behindInMarks op b = false := by
  cases b <;> first | rfl | cases h
def noSet : Expr → Bool
  | .Set _ _ _ => false
  | _ => true
theorem nomarkS {b : Expr} (op : CmpOp) (h : noSet b = true) : behindInMarks op b = false := by
  cases b <;> first | rfl | cases h
theorem tCmpK {op : COp} : ∀ σ H Q, tD (rc X) W (cmpF op fa fb) σ H Q → tOp (rK (rc X) op) (tD (rc X) W fa) (tD (rc X) W fb) σ H Q := fun σ H Q ⟨ψ, φ, ρ, M, o, M', hρ, hc, he, hp⟩ => tD_step hρ hc he hp fun d x φ1 H1 M1 g hρ1 hc1 r he1 hp1 => tD_step hρ1 hc1 he1 hp1 fun e y φ2 H2 M2 g2 hρ2 hc2 r2 he2 hp2 => by
    obtain ⟨z, hz, hzz⟩ := ofO_inv he2
    cases hzz
    obtain ⟨k, hk, rfl⟩ := Option.map_eq_some_iff.mp hz
    exact ⟨ψ, φ2, _, _, _, k, hc2, Rep.mono g2 _ _ r, r2, hk, fun H' hs => hp2.ok hs hc2 .mkBl⟩
theorem pv_cmp (hu : X.A.units + 64 < cLine) {op : CmpOp} {b : COp} (h : copX op = some b) (hm : noSet eb = true) (ha : PE X ea (tD (rc X) W fa)) (hb : PE X eb (tD (rc X) W fb)) : PE X (.Compare ea [op] [eb] pos) (tD (rc X) W (cmpF b fa fb)) :=
  pe_mono (pe_cmpR (op_cmpK hu h) ha hb (nomarkS op hm)) tCmpK
def chainF (o1 o2 : COp) (fa fb fc : Env → List C → Res D) : Env → List C → Res D := fun ρ M => bnd (fa ρ M) fun x M1 => bnd (fb ρ M1) fun y M2 => (match cmpD o1 (drf M2 x) (drf M2 y) with
    | some true => bnd (fc ρ M2) fun z M3 => ofO ((cmpD o2 (drf M3 y) (drf M3 z)).map .bl) M3
    | some false => some (.ok (.bl false), M2)
    | none => none)
theorem chain_imp {b b' : COp} : ∀ σ H Q, tD (rc X) W (chainF b b' fa fb fc) σ H Q → tChain (rK (rc X) b) (rK (rc X) b') (tD (rc X) W fa) (tD (rc X) W fb) (tD (rc X) W fc) σ H Q := fun σ H Q ⟨ψ, φ, ρ, M, o, M', hρ, hc, he, hp⟩ => tD_step hρ hc he hp fun d x φ1 H1 M1 g hρ1 hc1 r he1 hp1 => tD_step hρ1 hc1 he1 hp1 fun e y φ2 H2 M2 g2 hρ2 hc2 r2 he2 hp2 => by
    split at he2
    · rename_i e1
      refine ⟨ψ, φ2, M2, _, _, true, hc2, Rep.mono g2 _ _ r, r2, e1, fun H3 hs => ⟨true, rfl, ?_⟩⟩
      rw [if_pos rfl]
      have g3 : Fr φ2 H2 φ2 H3 := .of_same hs
      refine tD_step (hρ2.mono g3) (hc2.same hs) he2 (hp2.mono g3) fun e y φ4 H4 M4 g4 hρ4 hc4 r4 he4 hp4 => ?_
      obtain ⟨z, hz, hzz⟩ := ofO_inv he4
      cases hzz
      obtain ⟨k, hk, rfl⟩ := Option.map_eq_some_iff.mp hz
      exact ⟨ψ, φ4, _, _, _, k, hc4, Rep.mono (g3.trans g4) _ _ r2, r4, hk, fun H' hs => hp4.ok hs hc4 .mkBl⟩
    · rename_i e1
      cases he2
      refine ⟨ψ, φ2, _, _, _, false, hc2, Rep.mono g2 _ _ r, r2, e1, fun H3 hs => ⟨false, rfl, ?_⟩⟩
      rw [if_neg (by decide)]
      exact hp2.ok hs hc2 .mkBl
    · cases he2
theorem pv_chain (hu : X.A.units + 64 < cLine) {op op' : CmpOp} {b b' : COp} (h : copX op = some b) (h' : copX op' = some b') (hm : noSet ec = true) (ha : PE X ea (tD (rc X) W fa)) (hb : PE X eb (tD (rc X) W fb)) (hcc : PE X ec (tD (rc X) W fc)) :
    PE X (.Compare ea [op, op'] [eb, ec] pos) (tD (rc X) W (chainF b b' fa fb fc)) :=
  pe_mono (pe_chain (op_cmpK hu h) (op_cmpK hu h') ha hb hcc (nomarkS op' hm)) chain_imp

/-! ### tests -/
def truF (f : Env → List C → Res D) : Env → List C → Res Bool := fun ρ M => bnd (f ρ M) fun d M1 => ofO (truD (drf M1 d)) M1
def plainT : Expr → Bool
  | .UnaryOp .Not _ _ => false
  | .BoolOp _ _ _ => false
  | .IfExp _ _ _ _ => false
  | .Compare _ _ _ _ => false
  | _ => true
theorem plainT_ok {e : Expr} {env : PySem.Env} (h : plainT e = true) (whole : Sem Value) : isTrue e env whole = (do let v ← whole; standAt e.pos; holding [v] (truthy v)) := by
  cases e <;> first | rfl | (cases h; done) | skip
  rename_i op x p
  cases op <;> first | rfl | (cases h; done)
theorem pt_plain (hp : plainT ea = true) (ha : PE X ea (tD (rc X) W fa)) : PT X ea (tT (rc X) W (truF fa)) :=
  pt_mono (pt_truth ha (plainT_ok hp)) fun σ H Q ⟨ψ, φ, ρ, M, o, M', hρ, hc, he, hp⟩ => tX_step hρ hc he hp fun d x φ1 H1 M1 g hρ1 hc1 r he1 hp1 => by
    obtain ⟨z, hz, hzz⟩ := ofO_inv he1
    cases hzz
    exact ⟨z, top_tru (r.drf hc1) hz, hp1 φ1 H1 .refl hc1⟩
theorem truF_bl {f : Env → List C → Res D} {ρ : Env} {M M' : List C} {o : Except D Bool} (h : truF f ρ M = some (o, M')) : (∃ d b, f ρ M = some (.ok d, M') ∧ truD (drf M' d) = some b ∧ o = .ok b) ∨ ∃ x, f ρ M = some (.error x, M') ∧ o = .error x := by
  unfold truF at h
  rcases bnd_some h with ⟨d, M1, e1, e2⟩ | ⟨x, M1, e1, e2⟩
  · obtain ⟨z, hz, hzz⟩ := ofO_inv e2
    cases hzz
    exact .inl ⟨d, z, e1, hz, rfl⟩
  · cases e2
    exact .inr ⟨x, e1, rfl⟩
/-- what a bool's reading asks as a test -/
theorem truF_D {R : Rc} {ψ φ : List Addr} {H : Hp} {σ : L2.St} {ρ : Env} {M M' : List C} {o : Except D Bool} {f : Env → List C → Res D} {Q : Bool → Hp → Prop} (hρ : EnvOk R ψ φ H ρ σ) (hc : Cells R ψ φ H M) (he : truF f ρ M = some (o, M')) (hp : PostX R W ψ φ H σ (fun b _ H' => Q b H') o M')
    (hb : ∀ d M', f ρ M = some (.ok d, M') → ∃ k, d = .bl k) : tD R W f σ H fun x H' => ∃ k, x = .bl k ∧ Q k H' := by
  rcases truF_bl he with ⟨d, b, e1, e2, rfl⟩ | ⟨x, e1, rfl⟩
  · obtain ⟨k, rfl⟩ := hb d _ e1
    have hb' : b = k := (Option.some.inj e2).symm
    subst hb'
    exact ⟨ψ, φ, ρ, M, _, _, hρ, hc, e1, fun v φ' H' g c r => ⟨b, r.bl, hp φ' H' g c⟩⟩
  · exact ⟨ψ, φ, ρ, M, _, _, hρ, hc, e1, hp⟩
theorem pt_cmpF (hu : X.A.units + 64 < cLine) {op : CmpOp} {b : COp} (h : copX op = some b) (hm : noSet eb = true) (ha : PE X ea (tD (rc X) W fa)) (hb : PE X eb (tD (rc X) W fb)) : PT X (.Compare ea [op] [eb] pos) (tT (rc X) W (truF (cmpF b fa fb))) :=
  pt_mono (pt_cmpR (op_cmpK hu h) ha hb (nomarkS op hm)) fun σ H Q ⟨ψ, φ, ρ, M, o, M', hρ, hc, he, hp⟩ => tCmpK _ _ _ (truF_D hρ hc he hp fun d M' h => by
    unfold cmpF at h
    rcases bnd_some h with ⟨d, M1, e1, e2⟩ | ⟨x, M1, e1, e2⟩
    · rcases bnd_some e2 with ⟨d, M1, e1, e2⟩ | ⟨x, M1, e1, e2⟩
      · obtain ⟨z, hz, hzz⟩ := ofO_inv e2
        cases hzz
        obtain ⟨k, hk, rfl⟩ := Option.map_eq_some_iff.mp hz
        exact ⟨k, rfl⟩
      · cases e2
    · cases e2)
theorem pt_notF (ha : PT X ea (tT (rc X) W (truF fa))) : PT X (.UnaryOp .Not ea pos) (tT (rc X) W (truF fun ρ M => bnd (fa ρ M) fun x M1 => ofO ((truD (drf M1 x)).map fun b => .bl (!b)) M1)) :=
  pt_mono (pt_not ha) fun σ H Q ⟨ψ, φ, ρ, M, o, M', hρ, hc, he, hp⟩ => by
    rcases truF_bl he with ⟨d, b, e1, e2, rfl⟩ | ⟨x, e1, rfl⟩
    · rcases bnd_some e1 with ⟨d', M1, q1, q2⟩ | ⟨x, M1, q1, q2⟩
      · obtain ⟨z, hz, hzz⟩ := ofO_inv q2
        cases hzz
        obtain ⟨k, hk, rfl⟩ := Option.map_eq_some_iff.mp hz
        have hb : b = !k := (Option.some.inj e2).symm
        subst hb
        exact ⟨ψ, φ, ρ, M, .ok k, _, hρ, hc, by unfold truF; rw [q1]; show ofO _ _ = _; rw [hk]; rfl, fun φ' H' g c => hp φ' H' g c⟩
      · cases q2
    · rcases bnd_some e1 with ⟨d', M1, q1, q2⟩ | ⟨y, M1, q1, q2⟩
      · obtain ⟨z, hz, hzz⟩ := ofO_inv q2
        cases hzz
      · cases q2
        exact ⟨ψ, φ, ρ, M, .error x, _, hρ, hc, by unfold truF; rw [q1]; rfl, hp⟩
/-- and, or as tests -/
def andF (fa fb : Env → List C → Res D) : Env → List C → Res D := fun ρ M => bnd (fa ρ M) fun x M1 => (match truD (drf M1 x) with
    | some true => fb ρ M1
    | some false => some (.ok x, M1)
    | none => none)
def orF (fa fb : Env → List C → Res D) : Env → List C → Res D := fun ρ M => bnd (fa ρ M) fun x M1 => (match truD (drf M1 x) with
    | some true => some (.ok x, M1)
    | some false => fb ρ M1
    | none => none)
theorem truF_and {ρ : Env} {M : List C} : ∀ z, truF (andF fa fb) ρ M = some z → bnd (truF fa ρ M) (fun b M1 => if b then truF fb ρ M1 else some (.ok false, M1)) = some z := by
  intro z h
  unfold truF andF at h
  rcases bnd_some h with ⟨d, M1, e1, e2⟩ | ⟨x, M1, e1, e2⟩
  · rcases bnd_some e1 with ⟨d', M2, q1, q2⟩ | ⟨x, M2, q1, q2⟩
    · have : truF fa ρ M = ofO (truD (drf M2 d')) M2 := by unfold truF; rw [q1]; rfl
      rw [this]
      split at q2
      · rename_i e3
        rw [e3]
        show truF fb ρ M2 = _
        unfold truF
        rw [q2]
        exact e2
      · rename_i e3
        cases q2
        rw [e3] at e2 ⊢
        exact e2
      · cases q2
    · cases q2
  · subst e2
    rcases bnd_some e1 with ⟨d', M2, q1, q2⟩ | ⟨y, M2, q1, q2⟩
    · have : truF fa ρ M = ofO (truD (drf M2 d')) M2 := by unfold truF; rw [q1]; rfl
      rw [this]
      split at q2
      · rename_i e3
        rw [e3]
        show truF fb ρ M2 = _
        unfold truF
        rw [q2]
        rfl
      · cases q2
      · cases q2
    · cases q2
      have : truF fa ρ M = some (.error x, M1) := by unfold truF; rw [q1]; rfl
      rw [this]
      rfl
theorem truF_or {ρ : Env} {M : List C} : ∀ z, truF (orF fa fb) ρ M = some z → bnd (truF fa ρ M) (fun b M1 => if b then some (.ok true, M1) else truF fb ρ M1) = some z := by
  intro z h
  unfold truF orF at h
  rcases bnd_some h with ⟨d, M1, e1, e2⟩ | ⟨x, M1, e1, e2⟩
  · rcases bnd_some e1 with ⟨d', M2, q1, q2⟩ | ⟨x, M2, q1, q2⟩
    · have : truF fa ρ M = ofO (truD (drf M2 d')) M2 := by unfold truF; rw [q1]; rfl
      rw [this]
      split at q2
      · rename_i e3
        cases q2
        rw [e3] at e2 ⊢
        exact e2
      · rename_i e3
        rw [e3]
        show truF fb ρ M2 = _
        unfold truF
        rw [q2]
        exact e2
      · cases q2
    · cases q2
  · subst e2
    rcases bnd_some e1 with ⟨d', M2, q1, q2⟩ | ⟨y, M2, q1, q2⟩
    · have : truF fa ρ M = ofO (truD (drf M2 d')) M2 := by unfold truF; rw [q1]; rfl
      rw [this]
      split at q2
      · cases q2
      · rename_i e3
        rw [e3]
        show truF fb ρ M2 = _
        unfold truF
        rw [q2]
        rfl
      · cases q2
    · cases q2
      have : truF fa ρ M = some (.error x, M1) := by unfold truF; rw [q1]; rfl
      rw [this]
      rfl
theorem pw_mono {e : Expr} {t t' : TT} (h : PW X e t) (i : ∀ σ H Q, t' σ H Q → t σ H Q) : PW X e t' := ⟨fun wh pins s σ H Q I q => h.run wh pins s σ H Q I (i σ H Q q)⟩
theorem pw_andF {rest : List Expr} (ha : PT X ea (tT (rc X) W (truF fa))) (hb : PW X (.BoolOp .And (eb :: rest) pos) (tT (rc X) W (truF fb))) : PW X (.BoolOp .And (ea :: eb :: rest) pos) (tT (rc X) W (truF (andF fa fb))) :=
  pw_mono (pw_and ha hb) fun σ H Q ⟨ψ, φ, ρ, M, o, M', hρ, hc, he, hp⟩ => tT_step hρ hc (truF_and _ he) hp fun b φ1 H1 M1 g hρ1 hc1 he1 hp1 => by
    cases b with
    | true => rw [if_pos rfl]; exact ⟨ψ, φ1, ρ, M1, o, M', hρ1, hc1, he1, hp1⟩
    | false =>
      rw [if_neg (by decide)]
      cases he1
      exact hp1 φ1 H1 .refl hc1
theorem pw_orF {rest : List Expr} (ha : PT X ea (tT (rc X) W (truF fa))) (hb : PW X (.BoolOp .Or (eb :: rest) pos) (tT (rc X) W (truF fb))) : PW X (.BoolOp .Or (ea :: eb :: rest) pos) (tT (rc X) W (truF (orF fa fb))) :=
  pw_mono (pw_or ha hb) fun σ H Q ⟨ψ, φ, ρ, M, o, M', hρ, hc, he, hp⟩ => tT_step hρ hc (truF_or _ he) hp fun b φ1 H1 M1 g hρ1 hc1 he1 hp1 => by
    cases b with
    | false => rw [if_neg (by decide)]; exact ⟨ψ, φ1, ρ, M1, o, M', hρ1, hc1, he1, hp1⟩
    | true =>
      rw [if_pos rfl]
      cases he1
      exact hp1 φ1 H1 .refl hc1
def iteF (fc fa fb : Env → List C → Res D) : Env → List C → Res D := fun ρ M => bnd (fc ρ M) fun x M1 => (match truD (drf M1 x) with
    | some true => fa ρ M1
    | some false => fb ρ M1
    | none => none)
theorem pv_ite (hcc : PT X ec (tT (rc X) W (truF fc))) (ha : PE X ea (tD (rc X) W fa)) (hb : PE X eb (tD (rc X) W fb)) : PE X (.IfExp ec ea eb pos) (tD (rc X) W (iteF fc fa fb)) :=
  pe_mono (pe_ifExp hcc ha hb) fun σ H Q ⟨ψ, φ, ρ, M, o, M', hρ, hc, he, hp⟩ => by
    have he' : bnd (truF fc ρ M) (fun b M1 => if b then fa ρ M1 else fb ρ M1) = some (o, M') := by
      unfold iteF at he
      rcases bnd_some he with ⟨d, M1, e1, e2⟩ | ⟨x, M1, e1, e2⟩
      · have : truF fc ρ M = ofO (truD (drf M1 d)) M1 := by unfold truF; rw [e1]; rfl
        rw [this]
        split at e2
        · rename_i e3; rw [e3]; exact e2
        · rename_i e3; rw [e3]; exact e2
        · cases e2
      · have : truF fc ρ M = some (.error x, M1) := by unfold truF; rw [e1]; rfl
        rw [this]
        cases e2
        rfl
    exact tT_step hρ hc he' (PostX.of hp) fun b φ1 H1 M1 g hρ1 hc1 he1 hp1 => by
      cases b with
      | true => rw [if_pos rfl]; exact ⟨ψ, φ1, ρ, M1, o, M', hρ1, hc1, he1, PostX.to hp1⟩
      | false => rw [if_neg (by decide)]; exact ⟨ψ, φ1, ρ, M1, o, M', hρ1, hc1, he1, PostX.to hp1⟩

/-! ### displays, subscripts, slices -/
theorem PostX.ofN {R : Rc} {ψ φ : List Addr} {H : Hp} {σ : L2.St} {Q : VK} {M' : List C} {o : Except D D} (h : PostN R W ψ φ H σ Q o M') : PostX R W ψ φ H σ (fun d φ' H1 => ∀ p u, H1 p = none → NewOk R ψ φ' H1 p u d → Q (.ref p) (upd H1 p u)) o M' := by
  cases o with
  | ok d => exact fun φ' H' g c p u e r => h p u φ' H' g c e r
  | error x => exact h
variable {es : List Expr} {fs : Env → List C → Res (List D)}
def tupF (fs : Env → List C → Res (List D)) : Env → List C → Res D := fun ρ M => bnd (fs ρ M) fun ds M1 => some (.ok (.tup ds), M1)
def lstF (fs : Env → List C → Res (List D)) : Env → List C → Res D := fun ρ M => bnd (fs ρ M) fun ds M1 => some (.ok (.lst ds), M1)
theorem fs_len : ∀ (es : List E) (Γ : Ctx) (ρ : Env) (M M' : List C) (ds : List D), evEs Γ es ρ M = some (.ok ds, M') → ds.length = es.length
  | [], _, _, _, _, _, h => by rw [evEs] at h; cases h; rfl
  | e :: es, Γ, ρ, M, M', ds, h => by
    rw [evEs] at h
    rcases bnd_some h with ⟨d, M1, e1, e2⟩ | ⟨x, M1, e1, e2⟩
    · rcases bnd_some e2 with ⟨d', M1, e1, e2⟩ | ⟨x, M1, e1, e2⟩
      · cases e2
        rw [List.length_cons, List.length_cons, fs_len es Γ _ _ _ _ e1]
      · cases e2
    · cases e2
theorem pv_tup {x1 : Nat} (hl : ∀ ρ M ds M', fs ρ M = some (.ok ds, M') → ds.length ≤ SZ) (h : PA X es (tA (rc X) W fs)) : PE X (.Tuple es x1 pos) (tD (rc X) W (tupF fs)) :=
  pe_mono (pe_tup h) fun σ H Q ⟨ψ, φ, ρ, M, o, M', hρ, hc, he, hp⟩ => by
    have hl' : ∀ ds M1, fs ρ M = some (.ok ds, M1) → ds.length ≤ SZ := fun ds M1 e => hl ρ M ds M1 e
    unfold tupF at he
    rcases bnd_some he with ⟨d, M1, e1, e2⟩ | ⟨x, M1, e1, e2⟩
    · cases e2
      refine ⟨ψ, φ, ρ, M, _, _, hρ, hc, e1, fun φ' H' g c vs r => ⟨by rw [r.length]; exact SZ_le (hl' _ _ e1), fun p e => ?_⟩⟩
      exact hp _ φ' _ (g.trans (.of_same (same_upd e))) (c.same (same_upd e)) (.mkTup c e r)
    · cases e2
      exact ⟨ψ, φ, ρ, M, _, _, hρ, hc, e1, hp⟩
theorem pv_lst (hl : ∀ ρ M ds M', fs ρ M = some (.ok ds, M') → ds.length ≤ SZ) (h : PA X es (tA (rc X) W fs)) : PE X (.List es pos) (tN (rc X) W (lstF fs)) :=
  pe_mono (pe_lst h) fun σ H Q ⟨ψ, φ, ρ, M, o, M', hρ, hc, he, hp⟩ => by
    have hl' : ∀ ds M1, fs ρ M = some (.ok ds, M1) → ds.length ≤ SZ := fun ds M1 e => hl ρ M ds M1 e
    unfold lstF at he
    rcases bnd_some he with ⟨d, M1, e1, e2⟩ | ⟨x, M1, e1, e2⟩
    · cases e2
      refine ⟨ψ, φ, ρ, M, _, _, hρ, hc, e1, fun φ' H' g c vs r => ⟨by rw [r.length]; exact SZ_le (hl' _ _ e1), fun p e => ?_⟩⟩
      exact hp p _ φ' _ g c e ⟨vs, rfl, r⟩
    · cases e2
      exact ⟨ψ, φ, ρ, M, _, _, hρ, hc, e1, hp⟩
def ixF (fa fb : Env → List C → Res D) : Env → List C → Res D := fun ρ M => bnd (fa ρ M) fun x M1 => bnd (fb ρ M1) fun y M2 => ofO (ixD (drf M2 x) y) M2
def plainIx : Expr → Bool
  | .Slice _ _ _ _ => false
  | _ => true
theorem plainIx_ok {b : Expr} (h : plainIx b = true) : PlainIx b := by
  intro o i
  cases b <;> first | rfl | cases h
theorem pv_ix (hu : X.A.units + 64 < cLine) (hx : plainIx eb = true) (ha : PE X ea (tD (rc X) W fa)) (hb : PE X eb (tD (rc X) W fb)) : PE X (.Subscript ea eb pos) (tD (rc X) W (ixF fa fb)) :=
  pe_mono (pe_ix (ix_dD hu) ha hb (plainIx_ok hx)) fun σ H Q ⟨ψ, φ, ρ, M, o, M', hρ, hc, he, hp⟩ => tD_step hρ hc he hp fun d x φ1 H1 M1 g hρ1 hc1 r he1 hp1 => tD_step hρ1 hc1 he1 hp1 fun e y φ2 H2 M2 g2 hρ2 hc2 r2 he2 hp2 => by
    obtain ⟨z, hz, hzz⟩ := ofO_inv he2
    cases hzz
    have ne : ∀ n, e ≠ .cell n := fun n q => by
      subst q
      unfold ixD at hz
      split at hz
      · rename_i heq; cases heq
      · rename_i heq; cases heq
      · rename_i heq
        split at hz
        · rename_i hk
          rename_i ks vs
          unfold keyOk at hk
          split at hk <;> simp [keyKind] at hk
        · cases hz
      · cases hz
    exact ⟨ψ, φ2, _, _, _, z, hc2, Rep.drf (Rep.mono g2 _ _ r) hc2, r2.top ne, hz, fun v H' hs rz => hp2.ok hs hc2 rz⟩
theorem bndN_bnd {α β : Type} {r : Res α} {k : α → List C → Res β} {z : Except D β × List C} (h : bndN r k = some z) : bnd r k = some z := by
  obtain ⟨a, M, rfl, q⟩ := bndN_some h
  exact q
/-- a part of a slice -/
def partF (h : Bool) (f : Env → List C → Res D) : Env → List C → Res D := fun ρ M => if h then f ρ M else some (.ok .non, M)
def slF (fa : Env → List C → Res D) (hl : Bool) (fl : Env → List C → Res D) (hh : Bool) (fh : Env → List C → Res D) : Env → List C → Res D := fun ρ M => bnd (fa ρ M) fun x M1 => bnd (if hl then fl ρ M1 else some (.ok .non, M1)) fun l M2 => bndN (if hh then fh ρ M2 else some (.ok .non, M2)) fun h M3 =>
      ofO (sliceD (drf M3 x) (if hl then some l else none) (if hh then some h else none)) M3
def PartOk (X : Cx) (W : WX) (e : Option Expr) (h : Bool) (f : Env → List C → Res D) : Prop := match e with
  | none => h = false
  | some e => h = true ∧ PE X e (tD (rc X) W f)
def tPt (R : Rc) (W : WX) (h : Bool) (f : Env → List C → Res D) : L2.St → Hp → (Option Int → Hp → Prop) → Prop := fun σ H Q => if h then (tD R W f σ H fun x H1 => ∃ i, x = .int i ∧ Q (some i) H1) else Q none H
theorem pv_po {e : Option Expr} {h : Bool} {f : Env → List C → Res D} (p : PartOk X W e h f) : PO X e (tPt (rc X) W h f) := by
  cases e with
  | none =>
    have p : h = false := p
    subst p
    exact po_none
  | some e =>
    obtain ⟨rfl, p⟩ := p
    exact po_some p
theorem part_int {R : Rc} {ψ φ : List Addr} {H : Hp} {d : D} {x : V} {o : Option Int} (h : partD (some d) = some o) (r : Rep R ψ φ H d x) : ∃ i, d = .int i ∧ x = .int i ∧ o = some i := by
  cases d <;> first | (cases h; done) | skip
  cases h
  exact ⟨_, rfl, r.int, rfl⟩
theorem slice_parts {a z : D} {lo hi : Option D} (h : sliceD a lo hi = some z) : ∃ l u, partD lo = some l ∧ partD hi = some u ∧ sliceD a (l.map .int) (u.map .int) = some z := by
  unfold sliceD at h
  split at h
  · rename_i l u e1 e2
    refine ⟨l, u, e1, e2, ?_⟩
    unfold sliceD
    rw [part_map, part_map]
    exact h
  · cases h
theorem pv_slice {lo hi : Option Expr} {hl hh : Bool} {fl fh : Env → List C → Res D} (ha : PE X ea (tD (rc X) W fa)) (p1 : PartOk X W lo hl fl) (p2' : PartOk X W hi hh fh) : PE X (.Subscript ea (.Slice lo hi none p2) pos) (tD (rc X) W (slF fa hl fl hh fh)) :=
  pe_mono (pe_slice sl_D ha (pv_po p1) (pv_po p2')) fun σ H Q ⟨ψ, φ, ρ, M, o, M', hρ, hc, he, hp⟩ => tD_step hρ hc he hp fun d x φ1 H1 M1 g hρ1 hc1 r he1 hp1 => by
    have last : ∀ (l : D) (li : Option Int) (φ2 : List Addr) (H2 : Hp) (M2 : List C), Fr φ1 H1 φ2 H2 → EnvOk (rc X) ψ φ2 H2 ρ σ → Cells (rc X) ψ φ2 H2 M2 → (∀ u, partD (if hl then some l else none) = some u → u = li) → Post (rc X) W ψ φ2 H2 σ Q o M' →
        bndN (if hh then fh ρ M2 else some (.ok .non, M2)) (fun h M3 => ofO (sliceD (drf M3 d) (if hl then some l else none) (if hh then some h else none)) M3) = some (o, M') → tPt (rc X) W hh fh σ H2 fun u H3 => rSlD (rc X) x li u H3 Q := by
      intro l li φ2 H2 M2 g2 hρ2 hc2 hli hp2 he2
      unfold tPt
      cases hh with
      | false =>
        rw [if_neg (by decide)] at he2 ⊢
        obtain ⟨z, hz, hzz⟩ := ofO_inv he2
        cases hzz
        obtain ⟨l', u', e1, e2, e3⟩ := slice_parts hz
        have := hli _ e1
        subst this
        cases e2
        exact ⟨ψ, φ2, _, _, z, hc2, Rep.drf (Rep.mono g2 _ _ r) hc2, e3, fun v H' hs rz => hp2.ok hs hc2 rz⟩
      | true =>
        rw [if_pos rfl] at he2 ⊢
        refine tD_step hρ2 hc2 (bndN_bnd he2) hp2 fun e y φ3 H3 M3 g3 hρ3 hc3 r3 he3 hp3 => ?_
        obtain ⟨z, hz, hzz⟩ := ofO_inv he3
        cases hzz
        obtain ⟨l', u', e1, e2, e3⟩ := slice_parts hz
        have := hli _ e1
        subst this
        obtain ⟨i, rfl, rfl, rfl⟩ := part_int e2 r3
        exact ⟨i, rfl, ψ, φ3, _, _, z, hc3, Rep.drf (Rep.mono (g2.trans g3) _ _ r) hc3, e3, fun v H' hs rz => hp3.ok hs hc3 rz⟩
    show tPt (rc X) W hl fl σ H1 _
    unfold tPt
    cases hl with
    | false =>
      rw [if_neg (by decide)] at he1 ⊢
      exact last .non none φ1 H1 M1 .refl hρ1 hc1 (fun u e => by cases e; rfl) hp1 he1
    | true =>
      rw [if_pos rfl] at he1 ⊢
      refine tD_step hρ1 hc1 he1 hp1 fun e y φ2 H2 M2 g2 hρ2 hc2 r2 he2 hp2 => ?_
      have hi : ∃ i, e = .int i ∧ y = .int i := by
        obtain ⟨u, M3, q1, q2⟩ := bndN_some he2
        obtain ⟨z, hz, hzz⟩ := ofO_inv q2
        obtain ⟨l', u', e1, e2, e3⟩ := slice_parts hz
        obtain ⟨i, rfl, rfl, rfl⟩ := part_int e1 r2
        exact ⟨i, rfl, rfl⟩
      obtain ⟨i, rfl, rfl⟩ := hi
      exact ⟨i, rfl, last (.int i) (some i) φ2 H2 M2 g2 hρ2 hc2 (fun u e => by cases e; rfl) hp2 he2⟩
end
end Pv

end T_PvX
section T_PvY
set_option maxRecDepth 100000
set_option maxHeartbeats 1000000
namespace Pv
open PySem PySem.Spec PyProof.Rows L2
/-- a built-in by its name and how many arguments it has -/
def bltTab : List ((Str × Nat) × B) := [((("len" : Str), 1), B.len), ((("tuple" : Str), 1), B.tuple), ((("list" : Str), 1), B.list), ((("sorted" : Str), 1), B.sorted), ((("min" : Str), 1), B.min1), ((("max" : Str), 1), B.max1), ((("min" : Str), 2), B.min2), ((("max" : Str), 2), B.max2), ((("all" : Str), 1), B.all), ((("any" : Str), 1), B.any), ((("sum" : Str), 1), B.sum), ((("abs" : Str), 1), B.abs), ((("int" : Str), 1), B.int), ((("divmod" : Str), 2), B.divmod)]
def bltOf (x : Str) (n : Nat) : Option B := bltTab.lookup (x, n)
def newB : B → Bool
  | .list => true | .sorted => true | _ => false
def CallsAs (X : Cx) (x : Str) (r : List V → Hp → VK → Prop) : Prop := x ≠ "__name__" ∧ (x == ("__debug__" : Str)) = false ∧
  ((∃ id, bootBuiltins x = some (.builtin id) ∧ CallR X (.builtin id) r) ∨ ∃ T, bootBuiltins x = some (.type T) ∧ CallR X (.type T) r)
section
variable {X : Cx} {W : WX} {ea eb ec : Expr} {fa fb fc : Env → List C → Res D} {pos p p2 : Pos} {Γ : Ctx} {es : List Expr} {fs : Env → List C → Res (List D)}
theorem lookup_mem {α β : Type} [BEq α] [LawfulBEq α] : ∀ {l : List (α × β)} {a : α} {b : β}, l.lookup a = some b → (a, b) ∈ l
  | [], _, _, h => by simp at h
  | (k, v) :: r, a, b, h => by
    rw [List.lookup_cons] at h
    split at h
    · rename_i e
      cases h
      rw [eq_of_beq e]
      exact List.mem_cons_self
    · exact List.mem_cons_of_mem _ (lookup_mem h)
theorem bltOk (hcm : X.calm = true) (hu : X.A.units + 80 < cLine) {x : Str} {n : Nat} {b : B} (h : bltOf x n = some b) : (newB b = false → CallsAs X x (rCall (rc X) b)) ∧ (newB b = true → CallsAs X x (rCallN (rc X) b)) := by
  have hu' : X.A.units + 64 < cLine := by omega
  have all : ∀ e ∈ bltTab, (newB e.2 = false → CallsAs X e.1.1 (rCall (rc X) e.2)) ∧ (newB e.2 = true → CallsAs X e.1.1 (rCallN (rc X) e.2)) := by
    unfold bltTab
    refine List.forall_mem_cons.mpr ⟨⟨fun _ => ⟨by decide, by decide, .inl ⟨_, rfl, cr_len hu'⟩⟩, (fun z => nomatch z)⟩, ?_⟩
    refine List.forall_mem_cons.mpr ⟨⟨fun _ => ⟨by decide, by decide, .inr ⟨_, rfl, cr_tuple⟩⟩, (fun z => nomatch z)⟩, ?_⟩
    refine List.forall_mem_cons.mpr ⟨⟨(fun z => nomatch z), fun _ => ⟨by decide, by decide, .inr ⟨_, rfl, cr_list hcm⟩⟩⟩, ?_⟩
    refine List.forall_mem_cons.mpr ⟨⟨(fun z => nomatch z), fun _ => ⟨by decide, by decide, .inl ⟨_, rfl, cr_sortedD hcm hu⟩⟩⟩, ?_⟩
    refine List.forall_mem_cons.mpr ⟨⟨fun _ => ⟨by decide, by decide, .inl ⟨_, rfl, cr_min1D hcm hu⟩⟩, (fun z => nomatch z)⟩, ?_⟩
    refine List.forall_mem_cons.mpr ⟨⟨fun _ => ⟨by decide, by decide, .inl ⟨_, rfl, cr_max1D hcm hu⟩⟩, (fun z => nomatch z)⟩, ?_⟩
    refine List.forall_mem_cons.mpr ⟨⟨fun _ => ⟨by decide, by decide, .inl ⟨_, rfl, cr_min2D hcm⟩⟩, (fun z => nomatch z)⟩, ?_⟩
    refine List.forall_mem_cons.mpr ⟨⟨fun _ => ⟨by decide, by decide, .inl ⟨_, rfl, cr_max2D hcm⟩⟩, (fun z => nomatch z)⟩, ?_⟩
    refine List.forall_mem_cons.mpr ⟨⟨fun _ => ⟨by decide, by decide, .inl ⟨_, rfl, cr_allD hcm⟩⟩, (fun z => nomatch z)⟩, ?_⟩
    refine List.forall_mem_cons.mpr ⟨⟨fun _ => ⟨by decide, by decide, .inl ⟨_, rfl, cr_anyD hcm⟩⟩, (fun z => nomatch z)⟩, ?_⟩
    refine List.forall_mem_cons.mpr ⟨⟨fun _ => ⟨by decide, by decide, .inl ⟨_, rfl, cr_sumD hcm⟩⟩, (fun z => nomatch z)⟩, ?_⟩
    refine List.forall_mem_cons.mpr ⟨⟨fun _ => ⟨by decide, by decide, .inl ⟨_, rfl, cr_absD⟩⟩, (fun z => nomatch z)⟩, ?_⟩
    refine List.forall_mem_cons.mpr ⟨⟨fun _ => ⟨by decide, by decide, .inr ⟨_, rfl, cr_intD⟩⟩, (fun z => nomatch z)⟩, ?_⟩
    refine List.forall_mem_cons.mpr ⟨⟨fun _ => ⟨by decide, by decide, .inl ⟨_, rfl, cr_divmodD⟩⟩, (fun z => nomatch z)⟩, ?_⟩
    exact fun _ h => absurd h (by simp)
  exact all _ (lookup_mem h)
theorem callsAs {x : Str} {r : List V → Hp → VK → Prop} {t : TA} (h : CallsAs X x r) (hg : Gl X x) (hm : X.mg x = none) (hs : (ea :: es).all notStar = true) (ha : PA X (ea :: es) t) : PE X (.Call (.Name x p) (ea :: es) [] pos) (tCB r t) := by
  obtain ⟨h1, h2, h3⟩ := h
  have hs' := hs
  rw [List.all_cons, Bool.and_eq_true] at hs'
  rcases h3 with ⟨id, q1, q2⟩ | ⟨T, q1, q2⟩
  · exact pe_callB q2 hg hm q1 ha h1 h2 (star_cons hs'.1) (star_any hs'.2)
  · exact pe_callTy q2 hg hm q1 ha h1 h2 (star_cons hs'.1) (star_any hs'.2)
def bltF (b : B) (fs : Env → List C → Res (List D)) : Env → List C → Res D := fun ρ M => bnd (fs ρ M) fun ds M1 => ofO (evB b (ds.map (drf M1))) M1
theorem pv_blt (hcm : X.calm = true) (hu : X.A.units + 80 < cLine) {x : Str} {b : B} (h : bltOf x (es.length + 1) = some b) (hb : newB b = false) (hg : Gl X x) (hm : X.mg x = none) (hs : (ea :: es).all notStar = true) (ha : PA X (ea :: es) (tA (rc X) W fs)) :
    PE X (.Call (.Name x p) (ea :: es) [] pos) (tD (rc X) W (bltF b fs)) :=
  pe_mono (callsAs ((bltOk hcm hu h).1 hb) hg hm hs ha) fun σ H Q ⟨ψ, φ, ρ, M, o, M', hρ, hc, he, hp⟩ => tA_step hρ hc he (PostX.of hp) fun ds vs φ1 H1 M1 g hρ1 hc1 r he1 hp1 => by
    obtain ⟨z, hz, hzz⟩ := ofO_inv he1
    cases hzz
    exact ⟨ψ, φ1, _, _, z, hc1, Reps.tops hc1 r, hz, fun v H' hs' rz => (PostX.to hp1).ok hs' hc1 rz⟩
theorem evB_new {b : B} {ds : List D} {z : D} (hb : newB b = true) (h : evB b ds = some z) : ∃ zs, z = .lst zs := by
  cases b <;> first | (cases hb; done) | skip
  all_goals
    unfold evB at h
    split at h <;> first | (cases h; exact ⟨_, rfl⟩) | (rename_i heq _; cases heq; done) | (rename_i heq; cases heq; done) | skip
    all_goals first
      | (obtain ⟨o, e, rfl⟩ := Option.map_eq_some_iff.mp h; exact ⟨_, rfl⟩)
      | cases h
theorem pv_bltN (hcm : X.calm = true) (hu : X.A.units + 80 < cLine) {x : Str} {b : B} (h : bltOf x (es.length + 1) = some b) (hb : newB b = true) (hg : Gl X x) (hm : X.mg x = none) (hs : (ea :: es).all notStar = true) (ha : PA X (ea :: es) (tA (rc X) W fs)) :
    PE X (.Call (.Name x p) (ea :: es) [] pos) (tN (rc X) W (bltF b fs)) :=
  pe_mono (callsAs ((bltOk hcm hu h).2 hb) hg hm hs ha) fun σ H Q ⟨ψ, φ, ρ, M, o, M', hρ, hc, he, hp⟩ => tA_step hρ hc he (PostX.ofN hp) fun ds vs φ1 H1 M1 g hρ1 hc1 r he1 hp1 => by
    obtain ⟨z, hz, hzz⟩ := ofO_inv he1
    cases hzz
    refine ⟨ψ, φ1, _, _, z, hc1, Reps.tops hc1 r, hz, fun p' vs' zs hn e hr => ?_⟩
    subst e
    exact hp1 φ1 H1 .refl hc1 p' _ hn ⟨vs', rfl, hr⟩
def tyTab : List (Str × Ty) := [("int", .int), ("bool", .bool), ("tuple", .tuple), ("list", .list), ("str", .str), ("dict", .dict)]
def tyOf (x : Str) : Option Ty := tyTab.lookup x
theorem tyOf_boot {x : Str} {t : Ty} (h : tyOf x = some t) : bootBuiltins x = some (.type (tyStr t)) ∧ x ≠ "__name__" ∧ (x == ("__debug__" : Str)) = false := by
  have all : ∀ e ∈ tyTab, bootBuiltins e.1 = some (.type (tyStr e.2)) ∧ e.1 ≠ "__name__" ∧ (e.1 == ("__debug__" : Str)) = false := by
    unfold tyTab
    repeat refine List.forall_mem_cons.mpr ⟨⟨rfl, by decide, by decide⟩, ?_⟩
    exact fun _ h => absurd h (by simp)
  exact all _ (lookup_mem h)
def isiF (t : Ty) (fa : Env → List C → Res D) : Env → List C → Res D := fun ρ M => bnd (fa ρ M) fun x M1 => ofO ((isTy (drf M1 x) t).map .bl) M1
theorem pv_isi {x : Str} {t : Ty} {p3 : Pos} (h : tyOf x = some t) (hg : Gl X "isinstance") (hm : X.mg "isinstance" = none) (hg2 : Gl X x) (hm2 : X.mg x = none) (hs : notStar ea = true) (ha : PE X ea (tD (rc X) W fa)) :
    PE X (.Call (.Name "isinstance" p) [ea, .Name x p3] [] pos) (tD (rc X) W (isiF t fa)) :=
  pe_mono (pe_callB (cr_isiD (t := t)) hg hm rfl (pa_cons ha (pa_cons (pe_bltn (v := .ty (tyStr t)) hg2 hm2 (tyOf_boot h).1 rfl (tyOf_boot h).2.1 (tyOf_boot h).2.2) pa_nil rfl) (star_cons hs)) (by decide) (by decide) (star_cons hs) rfl) fun σ H Q ⟨ψ, φ, ρ, M, o, M', hρ, hc, he, hp⟩ => tD_step hρ hc he hp fun d x φ1 H1 M1 g hρ1 hc1 r he1 hp1 => by
    obtain ⟨z, hz, hzz⟩ := ofO_inv he1
    cases hzz
    obtain ⟨k, hk, rfl⟩ := Option.map_eq_some_iff.mp hz
    exact ⟨x, ψ, φ1, _, _, k, rfl, hc1, r.drf hc1, hk, hp1.ok (Same.refl _) hc1 .mkBl⟩
end
end Pv

end T_PvY
section T_PvI
set_option maxRecDepth 100000
set_option maxHeartbeats 1000000
namespace Pv
open PySem PySem.Spec PyProof.Rows L2
/-- a walk over the data ds, begun at H0 with the cells M0; while the walked cell g is as it was -/
structure Wk (R : Rc) (J : It) (ψ φ : List Addr) (H0 : Hp) (g : Option Nat) (M0 : List C) (ds : List D) : Prop where
  go : ∀ {ψ' φ' : List Addr} {H : Hp} {M : List C} (i : Nat), Keep ψ φ H0 ψ' φ' H → Cells R ψ' φ' H M → same g M0 M = true → i < ds.length → J.go i H
  stop : ∀ {ψ' φ' : List Addr} {H : Hp} {M : List C}, Keep ψ φ H0 ψ' φ' H → Cells R ψ' φ' H M → same g M0 M = true → J.stop ds.length H
  yld : ∀ {ψ' φ' : List Addr} {H H' : Hp} {M : List C} {x : V} (i : Nat), Keep ψ φ H0 ψ' φ' H → Cells R ψ' φ' H M → same g M0 M = true → J.yld i H x H' → i < ds.length → ∃ d, ds[i]? = some d ∧ Same H H' ∧ Rep R ψ' φ' H' d x
def tW (R : Rc) (W : WX) (f : Env → List C → Res (List D × Option Nat)) : TI := fun σ H Rk => ∃ ψ φ ρ M o M', EnvOk R ψ φ H ρ σ ∧ Cells R ψ φ H M ∧ f ρ M = some (o, M') ∧ PostX R W ψ φ H σ (fun dg φ' H' => ∀ J, Wk R J ψ φ' H' dg.2 M' dg.1 → Rk J H') o M'
theorem pi_mono {X : Cx} {tg e : Expr} {t t' : TI} (h : PI X tg e t) (i : ∀ σ H Q, t' σ H Q → t σ H Q) : PI X tg e t' := ⟨fun pins s σ H Q I q => h.run pins s σ H Q I (i σ H Q q)⟩
section
variable {R : Rc} {ψ φ : List Addr} {H0 : Hp} {M0 : List C} {ds : List D} {vs : List V} {a : Addr}
theorem atT_uniq {X : Cx} {H : Hp} {xs ys : List V} (h : SqT X.K H a xs) (k : SqT X.K H a ys) (pins : List (Addr × Obj)) (σ : L2.St) (s : Shared) (I : Inv X pins σ H s) : xs = ys := I.tuple_inj h k
theorem wk_tup (h : AtT R ψ φ H0 a vs) (r : Reps R ψ φ H0 ds vs) : Wk R (Itt R.K a) ψ φ H0 none M0 ds where
  go := fun i k c _ hi => ⟨vs, vs[i]'(by rw [r.length]; exact hi), ((h.gen k).seq), List.getElem?_eq_getElem _⟩
  stop := fun k c _ => ⟨vs, (h.gen k).seq, by rw [r.length]; exact Nat.le_refl _⟩
  yld := fun i k c _ y hi => by
    obtain ⟨rfl, y⟩ := y
    have e := y vs (h.gen k).seq
    obtain ⟨v, e1, e2⟩ := (r.gen k).get (List.getElem?_eq_getElem hi)
    rw [e] at e1
    cases e1
    exact ⟨_, List.getElem?_eq_getElem hi, Same.refl _, e2⟩
theorem wk_lst (h : AtL R ψ φ H0 a vs) (r : Reps R ψ φ H0 ds vs) : Wk R (Itl R.K a) ψ φ H0 none M0 ds where
  go := fun i k c _ hi => ⟨vs, vs[i]'(by rw [r.length]; exact hi), ((h.gen k).seq), List.getElem?_eq_getElem _⟩
  stop := fun k c _ => ⟨vs, (h.gen k).seq, by rw [r.length]; exact Nat.le_refl _⟩
  yld := fun i k c _ y hi => by
    obtain ⟨rfl, y⟩ := y
    have e := y vs (h.gen k).seq
    obtain ⟨v, e1, e2⟩ := (r.gen k).get (List.getElem?_eq_getElem hi)
    rw [e] at e1
    cases e1
    exact ⟨_, List.getElem?_eq_getElem hi, Same.refl _, e2⟩
theorem wk_cell {n : Nat} (h : φ[n]? = some a) (e : M0[n]? = some (.lst ds)) : Wk R (Itl R.K a) ψ φ H0 (some n) M0 ds := by
  have key : ∀ {ψ' φ' : List Addr} {H : Hp} {M : List C}, Keep ψ φ H0 ψ' φ' H → Cells R ψ' φ' H M → same (some n) M0 M = true → ∃ vs, H a = some (.lst vs) ∧ Reps R ψ' φ' H ds vs := fun {ψ' φ' H M} k c s => by
    have s : M[n]? = M0[n]? := by unfold same at s; exact eq_of_beq s
    rw [e] at s
    exact c.ok n a _ (k.2 _ _ h) s
  refine ⟨fun i k c s hi => ?_, fun k c s => ?_, fun i k c s y hi => ?_⟩
  · obtain ⟨vs, h1, h2⟩ := key k c s
    exact ⟨vs, vs[i]'(by rw [h2.length]; exact hi), .of h1, List.getElem?_eq_getElem _⟩
  · obtain ⟨vs, h1, h2⟩ := key k c s
    exact ⟨vs, .of h1, by rw [h2.length]; exact Nat.le_refl _⟩
  · obtain ⟨vs, h1, h2⟩ := key k c s
    obtain ⟨rfl, y⟩ := y
    have e' := y vs (.of h1)
    obtain ⟨v, e1, e2⟩ := h2.get (List.getElem?_eq_getElem hi)
    rw [e'] at e1
    cases e1
    exact ⟨_, List.getElem?_eq_getElem hi, Same.refl _, e2⟩
theorem wk_range {lo : Int} {n : Nat} : Wk R (Itr lo n) ψ φ H0 none M0 ((List.range n).map fun (i : Nat) => D.int (lo + (i : Int))) where
  go := fun i k c _ hi => by show i < n; simpa using hi
  stop := fun k c _ => by show n ≤ _; simp
  yld := fun i k c _ y hi => by
    obtain ⟨rfl, rfl⟩ := y
    have hi' : i < n := by simpa using hi
    exact ⟨_, List.getElem?_eq_getElem hi, Same.refl _, by simpa using Rep.mkInt⟩
end

/-! ### the keys, values, items of a dict -/
/-- the dict at d is the object o -/
def DAt (R : Rc) (H : Hp) (d : Addr) (o : Obj) (xs : List Ent) : Prop := H d = some (dO R d xs o)
def Itkx (R : Rc) (d : Addr) (o : Obj) (xs : List Ent) : It :=
  ⟨fun i H => DAt R H d o xs ∧ i < xs.length, fun i H x H' => H' = H ∧ ∃ e, xs[i]? = some e ∧ x = .ref e.2.1, fun i H => DAt R H d o xs ∧ xs.length ≤ i⟩
def Itix (R : Rc) (d : Addr) (o : Obj) (xs : List Ent) : It :=
  ⟨fun i H => DAt R H d o xs ∧ i < xs.length, fun i H x H' => ∃ T e v, xs[i]? = some e ∧ RelV v e.2.2 ∧ x = .ref T ∧ H T = none ∧ H' = upd H T (.tup [.ref e.2.1, v]), fun i H => DAt R H d o xs ∧ xs.length ≤ i⟩
def Itvx (R : Rc) (d : Addr) (o : Obj) (xs : List Ent) : It :=
  ⟨fun i H => DAt R H d o xs ∧ i < xs.length, fun i H x H' => H' = H ∧ ∃ e, xs[i]? = some e ∧ RelV x e.2.2, fun i H => DAt R H d o xs ∧ xs.length ≤ i⟩
section
variable {X : Cx} {pins : List (Addr × Obj)} {σ : L2.St} {H : Hp} {s : Shared} {d : Addr} {o : Obj} {xs : List Ent}
theorem dat_raw (I : Inv X pins σ H s) (h : DAt (rc X) H d o xs) : (d == sysModules) = false ∧ s.heap.get? d = some o ∧ o.ExactDict ∧ ∃ es ep, o.data = .dict es ep ∧ s.heap.DictRaw d es ep ∧ es.size = xs.length ∧ ∀ i e, xs[i]? = some e → ∃ hi : i < es.size, es[i].key = .ref e.2.1 ∧ es[i].val = e.2.2 := by
  obtain ⟨⟨hs, ho, hx, es, ep, hd, he, hn⟩, _⟩ := I.hok d _ h
  refine ⟨hs, ho, hx, es, ep, hd, ⟨o, ho, hx, hd⟩, ?_, fun i e q => ?_⟩
  · rw [← Array.length_toList, he, List.length_map]
  · have q' : es.toList[i]? = some (entryOfKey (nestedKind X.prog X.w) e) := by rw [he, List.getElem?_map, q]; rfl
    rw [Array.getElem?_toList] at q'
    obtain ⟨hi, q2⟩ := Array.getElem?_eq_some_iff.mp q'
    refine ⟨hi, ?_, ?_⟩ <;> rw [q2] <;> rfl
end
section
variable {P : Program} {w : World} {K : PySem.W.Frag} {mg : Str → Option Value} {tg : Expr} {d : Addr} {o : Obj} {es : Array DictEntry} {ep : Nat} {xs : List Ent}
theorem turn_keysX (it : Addr) (hod : o.data = .dict es ep) : Turn P w K tg (Itkx ⟨P, w, K, mg⟩ d o xs) [it] it (fun i h => h.IsKeyIter it d i es.size ep) where
  mem := by simp
  obj := fun i h st b hb => by
    have e : b = it := by simpa using hb
    subst e
    obtain ⟨oi, e, c, dd⟩ := st
    exact ⟨oi, e, fun v z => by rw [dd] at z; cases z⟩
  keep := fun i h h' st k => st.at fun oi e => k it (by simp) oi e
  item := by
    intro X hP hw hK hc i pins s σ H E I hf st hg
    subst hP hw hK
    obtain ⟨hd, hi⟩ := hg
    obtain ⟨f0, f1, f2, f3, f4, f5⟩ := hf it (by simp)
    obtain ⟨hs, hgd, hx, es', ep', hdt, hraw, hsz, ent⟩ := dat_raw (X := X) I hd
    obtain ⟨rfl, rfl⟩ := dict_ep hod hdt
    obtain ⟨hi', e1, e2⟩ := ent i _ (List.getElem?_eq_getElem hi)
    refine wpAny_pyNext_keys_item_raw st hraw hi' fun h' st' sb => ?_
    have I1 : Inv X pins σ H { s with heap := h' } := I.turned (t' := s.toks) (fun b ob hb e => (sb.2 b hb).trans e) f0 f1 f3 f4 f5
    obtain ⟨oi, e, c, dd⟩ := id st'
    exact ⟨_, rfl, go_of (s := { s with heap := h' }) e c dd (by decide) ⟨.ref _, H, I1, e1, ⟨rfl, _, List.getElem?_eq_getElem hi, rfl⟩, st', fun b hb => (hf b hb).1⟩⟩
  done := by
    intro X hP hw hK hc i pins s σ H E I hf st hg
    subst hP hw hK
    obtain ⟨hd, hi⟩ := hg
    obtain ⟨f0, f1, f2, f3, f4, f5⟩ := hf it (by simp)
    obtain ⟨hs, hgd, hx, es', ep', hdt, hraw, hsz, ent⟩ := dat_raw (X := X) I hd
    obtain ⟨rfl, rfl⟩ := dict_ep hod hdt
    exact wpAny_pyNext_keys_end_raw (I.ok.hd hc) st hraw (by omega) fun h' eb => ⟨rfl, I.turned (t' := s.toks) (fun b ob hb e => eb b ob hb e) f0 f1 f3 f4 f5⟩
  self := fun A i s Q E st h => wpAny_pyIter_keyiter st h
theorem turn_valsX (it : Addr) (hod : o.data = .dict es ep) (hv : ∀ e ∈ xs, ∃ v, RelV v e.2.2) : Turn P w K tg (Itvx ⟨P, w, K, mg⟩ d o xs) [it] it (fun i h => h.IsValIter it d i es.size ep) where
  mem := by simp
  obj := fun i h st b hb => by
    have e : b = it := by simpa using hb
    subst e
    obtain ⟨oi, e, c, dd⟩ := st
    exact ⟨oi, e, fun v z => by rw [dd] at z; cases z⟩
  keep := fun i h h' st k => st.at fun oi e => k it (by simp) oi e
  item := by
    intro X hP hw hK hc i pins s σ H E I hf st hg
    subst hP hw hK
    obtain ⟨hd, hi⟩ := hg
    obtain ⟨f0, f1, f2, f3, f4, f5⟩ := hf it (by simp)
    obtain ⟨hs, hgd, hx, es', ep', hdt, hraw, hsz, ent⟩ := dat_raw (X := X) I hd
    obtain ⟨rfl, rfl⟩ := dict_ep hod hdt
    obtain ⟨hi', e1, e2⟩ := ent i _ (List.getElem?_eq_getElem hi)
    obtain ⟨v, rv⟩ := hv _ (List.getElem_mem hi)
    refine wpAny_pyNext_values_item_raw st hraw hi' fun h' st' sb => ?_
    have I1 : Inv X pins σ H { s with heap := h' } := I.turned (t' := s.toks) (fun b ob hb e => (sb.2 b hb).trans e) f0 f1 f3 f4 f5
    obtain ⟨oi, e, c, dd⟩ := id st'
    exact ⟨_, rfl, go_of (s := { s with heap := h' }) e c dd (by decide) ⟨v, H, I1, by rw [e2]; exact rv, ⟨rfl, _, List.getElem?_eq_getElem hi, rv⟩, st', fun b hb => (hf b hb).1⟩⟩
  done := by
    intro X hP hw hK hc i pins s σ H E I hf st hg
    subst hP hw hK
    obtain ⟨hd, hi⟩ := hg
    obtain ⟨f0, f1, f2, f3, f4, f5⟩ := hf it (by simp)
    obtain ⟨hs, hgd, hx, es', ep', hdt, hraw, hsz, ent⟩ := dat_raw (X := X) I hd
    obtain ⟨rfl, rfl⟩ := dict_ep hod hdt
    exact wpAny_pyNext_values_end_raw (I.ok.hd hc) st hraw (by omega) fun h' eb => ⟨rfl, I.turned (t' := s.toks) (fun b ob hb e => eb b ob hb e) f0 f1 f3 f4 f5⟩
  self := fun A i s Q E st h => wpAny_pyIter_valiter st h
theorem turn_itemsX {elts : List Expr} {kk : Nat} {tpos : Pos} (it : Addr) (hod : o.data = .dict es ep) (hv : ∀ e ∈ xs, ∃ v, RelV v e.2.2) :
    Turn P w K (.Tuple elts kk tpos) (Itix ⟨P, w, K, mg⟩ d o xs) [it] it (fun i h => ∃ ok ov, IsItemIter h it d i es.size ep ok ov) where
  mem := by simp
  obj := fun i h st b hb => by
    have e : b = it := by simpa using hb
    subst e
    obtain ⟨ok, ov, e⟩ := st
    exact ⟨_, e, fun v z => nomatch z⟩
  keep := fun i h h' st k => let ⟨ok, ov, e⟩ := st; ⟨ok, ov, k it (by simp) _ e⟩
  item := by
    intro X hP hw hK hc i pins s σ H E I hf st hg
    subst hP hw hK
    obtain ⟨hd, hi⟩ := hg
    obtain ⟨hs, hgd, hx, es', ep', hdt, hraw, hsz, ent⟩ := dat_raw (X := X) I hd
    obtain ⟨rfl, rfl⟩ := dict_ep hod hdt
    obtain ⟨hi', e1, e2⟩ := ent i _ (List.getElem?_eq_getElem hi)
    obtain ⟨v, rv⟩ := hv _ (List.getElem_mem hi)
    obtain ⟨ok, ov, he⟩ := st
    have hlt : it < s.heap.objs.size := Heap.lt_size he
    refine wpAny_pyNext_items_item_raw he hraw hi' fun h' ho hT hz hk => ?_
    refine ⟨_, rfl, wpAny_letOwnedTupleGo_items (s := { s with heap := h' }) ho fun h'' he' sb => ?_⟩
    rw [e1, e2] at hT
    have hT2 : h''.get? s.heap.objs.size = some { cls := .type "tuple", data := .seq #[.ref xs[i].2.1, xs[i].2.2] } := (sb.2 _ (Nat.ne_of_gt hlt)).trans hT
    have new : ObjOk X.prog X.w (upd H s.heap.objs.size (.tup [.ref xs[i].2.1, v])) h'' s.heap.objs.size (.tup [.ref xs[i].2.1, v]) :=
      ⟨by show 2 ≤ sizeLine; decide, [.ref xs[i].2.1, xs[i].2.2], .cons rfl (.cons rv .nil), ⟨_, hT2, rfl, _, rfl⟩⟩
    have I1 : Inv X pins σ (upd H s.heap.objs.size (.tup [.ref xs[i].2.1, v])) { s with heap := h'' } :=
      I.turnedNew (t' := s.toks) (ch := [it]) (fun b ob hb e => (sb.2 b (by simpa using hb)).trans (hk b ob (by simpa using hb) e)) hf (Nat.le_refl _) new
    refine ⟨.ref s.heap.objs.size, _, I1, rfl, ⟨_, xs[i], v, List.getElem?_eq_getElem hi, rv, rfl, I.hok.fresh (Nat.le_refl _), rfl⟩, ⟨_, _, he'⟩, fun b hb => ?_⟩
    · have e : b = it := by simpa using hb
      rw [e, upd_ne (Nat.ne_of_lt hlt)]
      exact (hf it (by simp)).1
  done := by
    intro X hP hw hK hc i pins s σ H E I hf st hg
    subst hP hw hK
    obtain ⟨hd, hi⟩ := hg
    obtain ⟨hs, hgd, hx, es', ep', hdt, hraw, hsz, ent⟩ := dat_raw (X := X) I hd
    obtain ⟨rfl, rfl⟩ := dict_ep hod hdt
    obtain ⟨ok, ov, he⟩ := st
    obtain ⟨f0, f1, f2, f3, f4, f5⟩ := hf it (by simp)
    exact wpAny_pyNext_items_end_raw (I.ok.hd hc) he hraw (by omega) fun h' eb => ⟨rfl, I.turned (t' := s.toks) (fun b ob hb e => eb b ob hb e) f0 f1 f3 f4 f5⟩
  self := fun A i s Q E st h => let ⟨_, _, e⟩ := st; PySem.W.kcp_self e h
end

/-! ### walks over a dict that is data -/
theorem ent_vals {ks : List D} {kv vv : List V} {xs : List Ent} (h : EntOk ks kv vv xs) : ∀ e ∈ xs, ∃ v, RelV v e.2.2 := fun e he => by
  obtain ⟨i, hi, rfl⟩ := List.getElem_of_mem he
  have hl := h.vv.length
  rw [List.length_map] at hl
  obtain ⟨u, e1, e2⟩ := h.vv.get (List.getElem?_eq_getElem (by omega : i < vv.length))
  rw [List.getElem?_map, List.getElem?_eq_getElem hi] at e1
  cases e1
  exact ⟨_, e2⟩
section
variable {R : Rc} {ψ φ : List Addr} {H0 : Hp} {M0 : List C} {ks ws : List D} {kv vv : List V} {xs : List Ent} {d : Addr} {o : Obj}
theorem nkeys_len : ∀ {ks : List D} {ns : List NestedKey}, nkeys ks = some ns → ns.length = ks.length := fun h => nkeys_length h
theorem ent_len (h : EntOk ks kv vv xs) : xs.length = ks.length := by rw [← nkeys_len h.nk, List.length_map]
theorem dic_not (hd : d ∉ ψ ∧ d ∉ φ ∧ H0 d = some (dO R d xs o)) {ψ' φ' : List Addr} {H : Hp} (k : Keep ψ φ H0 ψ' φ' H) : H d = some (dO R d xs o) := (k.1 _ _ hd.1 hd.2.1 hd.2.2).2.2
theorem wk_keys (hd : d ∉ ψ ∧ d ∉ φ ∧ H0 d = some (dO R d xs o)) (rk : Reps R ψ φ H0 ks kv) (h : EntOk ks kv vv xs) : Wk R (Itkx R d o xs) ψ φ H0 none M0 ks where
  go := fun i k c _ hi => ⟨dic_not hd k, by rw [ent_len h]; exact hi⟩
  stop := fun k c _ => ⟨dic_not hd k, by rw [ent_len h]; exact Nat.le_refl _⟩
  yld := fun i k c _ y hi => by
    obtain ⟨rfl, e, e1, rfl⟩ := y
    obtain ⟨v, q1, q2⟩ := (rk.gen k).get (List.getElem?_eq_getElem hi)
    rw [h.kv, List.getElem?_map, e1] at q1
    cases q1
    exact ⟨_, List.getElem?_eq_getElem hi, Same.refl _, q2⟩
theorem wk_vals (hd : d ∉ ψ ∧ d ∉ φ ∧ H0 d = some (dO R d xs o)) (rw' : Reps R ψ φ H0 ws vv) (h : EntOk ks kv vv xs) (hl : ws.length = ks.length) : Wk R (Itvx R d o xs) ψ φ H0 none M0 ws where
  go := fun i k c _ hi => ⟨dic_not hd k, by rw [ent_len h]; omega⟩
  stop := fun k c _ => ⟨dic_not hd k, by rw [ent_len h]; omega⟩
  yld := fun i k c _ y hi => by
    obtain ⟨rfl, e, e1, e2⟩ := y
    obtain ⟨v, q1, q2⟩ := (rw'.gen k).get (List.getElem?_eq_getElem hi)
    obtain ⟨u, q3, q4⟩ := h.vv.get q1
    rw [List.getElem?_map, e1] at q3
    cases q3
    rw [RelV.inj e2 q4]
    exact ⟨_, List.getElem?_eq_getElem hi, Same.refl _, q2⟩
theorem pairsD_length : ∀ {xs ys : List D}, ys.length = xs.length → (pairsD xs ys).length = xs.length
  | [], [], _ => rfl
  | a :: as, b :: bs, h => by simp only [pairsD, List.length_cons]; rw [pairsD_length (by simpa using h)]
theorem pairsD_get : ∀ {xs ys : List D} {i : Nat} {a b : D}, xs[i]? = some a → ys[i]? = some b → (pairsD xs ys)[i]? = some (.tup [a, b])
  | a :: as, b :: bs, 0, x, y, h1, h2 => by simp at h1 h2; subst h1 h2; simp [pairsD]
  | a :: as, b :: bs, i + 1, x, y, h1, h2 => by
    simp only [pairsD, List.getElem?_cons_succ]
    exact pairsD_get (by simpa using h1) (by simpa using h2)
theorem wk_items (hd : d ∉ ψ ∧ d ∉ φ ∧ H0 d = some (dO R d xs o)) (rk : Reps R ψ φ H0 ks kv) (rw' : Reps R ψ φ H0 ws vv) (h : EntOk ks kv vv xs) (hl : ws.length = ks.length) : Wk R (Itix R d o xs) ψ φ H0 none M0 (pairsD ks ws) where
  go := fun i k c _ hi => ⟨dic_not hd k, by rw [ent_len h, ← pairsD_length hl]; exact hi⟩
  stop := fun k c _ => ⟨dic_not hd k, by rw [ent_len h, ← pairsD_length hl]; exact Nat.le_refl _⟩
  yld := fun {ψ' φ' H H' M x} i k c _ y hi => by
    obtain ⟨T, e, v, e1, e2, rfl, hT, rfl⟩ := y
    rw [pairsD_length hl] at hi
    obtain ⟨w1, q1, q2⟩ := (rk.gen k).get (List.getElem?_eq_getElem hi)
    rw [h.kv, List.getElem?_map, e1] at q1
    cases q1
    obtain ⟨w2, p1, p2⟩ := (rw'.gen k).get (List.getElem?_eq_getElem (by omega : i < ws.length))
    obtain ⟨u, q3, q4⟩ := h.vv.get p1
    rw [List.getElem?_map, e1] at q3
    cases q3
    rw [RelV.inj e2 q4]
    exact ⟨_, pairsD_get (List.getElem?_eq_getElem hi) (List.getElem?_eq_getElem (by omega)), same_upd hT, Rep.mkTup c hT (.cons q2 (.cons p2 .nil))⟩
end
/-! ### iterables -/
section
variable {X : Cx} {W : WX} {tg ea eb : Expr} {fa fb : Env → List C → Res D} {pos p : Pos} {Γ : Ctx} {es : List Expr} {fs : Env → List C → Res (List D)}
def exI (f : Env → List C → Res D) : Env → List C → Res (List D × Option Nat) := fun ρ M => bnd (f ρ M) fun d M1 => (match d with
    | .cell n => (match M1[n]? with
      | some (.lst xs) => some (.ok (xs, some n), M1)
      | _ => none)
    | d => ofO ((itemsD d).map fun xs => (xs, none)) M1)
/-- what an expression's value gives as an iterable -/
def VI (X : Cx) (H1 : Hp) (x : V) (R : It → Hp → Prop) : Prop := (∃ a xs, x = .ref a ∧ SqL X.K H1 a xs ∧ R (Itl X.K a) H1) ∨ (∃ a xs, x = .ref a ∧ SqT X.K H1 a xs ∧ R (Itt X.K a) H1) ∨ ∃ a xs o, x = .ref a ∧ DAt (rc X) H1 a o xs ∧ R (Itkx (rc X) a o xs) H1
theorem pi_val {tl : TE} (hl : PE X ea tl) : PI X tg ea fun σ H R => tl σ H fun x H1 => VI X H1 x R := by
  refine ⟨fun pins s σ H R I h => ?_⟩
  refine thn (hl.run pins s σ H _ I h) fun v s1 ⟨x, H1, I1, r1, q1⟩ => ?_
  rcases q1 with ⟨a, xs, rfl, hq, q⟩ | ⟨a, xs, rfl, hq, q⟩ | ⟨a, xs, o, rfl, hq, q⟩
  · cases r1
    obtain ⟨its, rv, p, hz⟩ := I1.list hq
    refine wpAny_pyIter_list p.isList ?_
    exact pi_one (tk := s1.toks) I1 _ (turn_list a _) ⟨_, Heap.get?_push_size _ rfl, rfl, rfl⟩ q
  · cases r1
    obtain ⟨its, rv, p, hz⟩ := I1.tuple hq
    refine wpAny_pyIter_tuple (show s1.heap.IsTuple a its.toArray from p) ?_
    exact pi_one (tk := s1.toks) I1 _ (turn_tuple a _) ⟨_, Heap.get?_push_size _ rfl, rfl, rfl⟩ q
  · cases r1
    obtain ⟨hs, hgd, hx, es', ep', hdt, hraw, hsz, ent⟩ := dat_raw (X := X) I1 hq
    exact wpAny_pyIter_dict_raw hs hraw (pi_one (tk := s1.toks) I1 _ (turn_keysX (mg := X.mg) _ hdt) ⟨_, Heap.get?_push_size _ rfl, rfl, rfl⟩ q)
theorem pv_ex (ha : PE X ea (tD (rc X) W fa)) : PI X tg ea (tW (rc X) W (exI fa)) :=
  pi_mono (pi_val ha) fun σ H Q ⟨ψ, φ, ρ, M, o, M', hρ, hc, he, hp⟩ => tX_step hρ hc he hp fun d x φ1 H1 M1 g hρ1 hc1 r he1 hp1 => by
    split at he1
    · rename_i n
      rw [Rep] at r
      obtain ⟨a, rfl, e⟩ := r
      split at he1
      · rename_i xs e1
        cases he1
        obtain ⟨vs, k1, k2⟩ := hc1.ok n a _ e e1
        exact .inl ⟨a, vs, rfl, .of k1, hp1 φ1 H1 .refl hc1 _ (wk_cell (R := rc X) e e1)⟩
      · cases he1
    · obtain ⟨z, hz, hzz⟩ := ofO_inv he1
      cases hzz
      obtain ⟨xs, hx, rfl⟩ := Option.map_eq_some_iff.mp hz
      have k := hp1 φ1 H1 .refl hc1
      cases d with
      | tup ds =>
        cases hx
        rw [Rep] at r
        obtain ⟨a, vs, rfl, h1, h2⟩ := r
        exact .inr (.inl ⟨a, vs, rfl, h1.seq, k _ (wk_tup h1 h2)⟩)
      | lst ds =>
        cases hx
        rw [Rep] at r
        obtain ⟨a, vs, rfl, h1, h2⟩ := r
        exact .inl ⟨a, vs, rfl, h1.seq, k _ (wk_lst h1 h2)⟩
      | dic ks ws =>
        cases hx
        rw [Rep] at r
        obtain ⟨a, xs, od, kv, vv, rfl, h1, h2, h3, h4⟩ := r
        exact .inr (.inr ⟨a, xs, od, rfl, h1.2.2, k _ (wk_keys h1 h2 h4)⟩)
      | _ => cases hx
def rngI (fs : Env → List C → Res (List D)) : Env → List C → Res (List D × Option Nat) := fun ρ M => bnd (fs ρ M) fun ds M1 => (match ds with
    | [.int n] => if -R62 ≤ n ∧ n < R62 then some (.ok (rangeD 0 n, none), M1) else none
    | [.int a, .int b] => if -R62 ≤ a ∧ a < R62 ∧ -R62 ≤ b ∧ b < R62 then some (.ok (rangeD a b, none), M1) else none
    | _ => none)
theorem pv_range1 (hg : Gl X "range") (hm : X.mg "range" = none) (hs : notStar ea = true) (hl : ∀ ρ M ds M', fs ρ M = some (.ok ds, M') → ds.length = 1) (ha : PA X [ea] (tA (rc X) W fs)) : PI X tg (.Call (.Name "range" p) [ea] [] pos) (tW (rc X) W (rngI fs)) :=
  pi_mono (pi_range1 hg hm ha (star_cons hs)) fun σ H Q ⟨ψ, φ, ρ, M, o, M', hρ, hc, he, hp⟩ => by
    have hl' := hl ρ M
    rcases bnd_some he with ⟨ds, M1, e1, e2⟩ | ⟨x, M1, e1, e2⟩
    · have l1 := hl' _ _ e1
      refine ⟨ψ, φ, ρ, M, _, _, hρ, hc, e1, fun φ1 H1 g hc1 vs r => ?_⟩
      split at e2
      · rename_i n
        split at e2
        · rename_i hb
          cases e2
          obtain ⟨v, rs, rfl, r1, r2⟩ := r.cons_inv
          rw [r2.nil_inv, r1.int]
          unfold R62 at hb
          refine ⟨n, rfl, by omega, by omega, hp _ _ g hc1 _ ?_⟩
          have := wk_range (R := rc X) (ψ := ψ) (φ := φ1) (H0 := H1) (M0 := M') (lo := 0) (n := n.toNat)
          unfold rangeD
          simpa using this
        · cases e2
      · simp at l1
      · cases e2
    · cases e2
      exact ⟨ψ, φ, ρ, M, _, _, hρ, hc, e1, hp⟩
theorem pv_range2 (hg : Gl X "range") (hm : X.mg "range" = none) (hs : notStar ea = true) (hs2 : notStar eb = true) (hl : ∀ ρ M ds M', fs ρ M = some (.ok ds, M') → ds.length = 2) (ha : PA X [ea, eb] (tA (rc X) W fs)) : PI X tg (.Call (.Name "range" p) [ea, eb] [] pos) (tW (rc X) W (rngI fs)) :=
  pi_mono (pi_range2 hg hm ha (by rw [star_cons hs, star_cons hs2]; rfl) (star_cons hs2)) fun σ H Q ⟨ψ, φ, ρ, M, o, M', hρ, hc, he, hp⟩ => by
    have hl' := hl ρ M
    rcases bnd_some he with ⟨ds, M1, e1, e2⟩ | ⟨x, M1, e1, e2⟩
    · have l1 := hl' _ _ e1
      refine ⟨ψ, φ, ρ, M, _, _, hρ, hc, e1, fun φ1 H1 g hc1 vs r => ?_⟩
      split at e2
      · simp at l1
      · rename_i i j
        split at e2
        · rename_i hb
          cases e2
          obtain ⟨v, rs, rfl, r1, r2⟩ := r.cons_inv
          obtain ⟨v', rs', rfl, r3, r4⟩ := r2.cons_inv
          rw [r4.nil_inv, r1.int, r3.int]
          unfold R62 at hb
          exact ⟨i, j, rfl, ⟨by omega, by omega, by omega, by omega⟩, hp _ _ g hc1 _ wk_range⟩
        · cases e2
      · cases e2
    · cases e2
      exact ⟨ψ, φ, ρ, M, _, _, hρ, hc, e1, hp⟩
end
end Pv

end T_PvI
section T_PvJ
set_option maxRecDepth 100000
set_option maxHeartbeats 1000000
namespace Pv
open PySem PySem.Spec PyProof.Rows L2
def noBase : Expr → Bool
  | .Call (.Name _ _) [] [] _ => false
  | _ => true
theorem noBase_ok {o : Expr} {attr : Str} {env : PySem.Env} {whole : Sem Value} (h : noBase o = true) : attributeBase o attr env whole = whole := by
  unfold attributeBase
  split
  · cases h
  · rfl
section
variable {X : Cx} {W : WX} {tg ea eb : Expr} {fa fb : Env → List C → Res D} {pos p apos cpos tpos : Pos} {Γ : Ctx} {es elts : List Expr} {kk : Nat} {fs : Env → List C → Res (List D)}
def itmI (f : Env → List C → Res D) : Env → List C → Res (List D × Option Nat) := fun ρ M => bnd (f ρ M) fun x M1 => (match x with
    | .dic ks vs => if vs.length = ks.length then some (.ok (pairsD ks vs, none), M1) else none
    | _ => none)
def valI (f : Env → List C → Res D) : Env → List C → Res (List D × Option Nat) := fun ρ M => bnd (f ρ M) fun x M1 => (match x with
    | .dic ks vs => if vs.length = ks.length then some (.ok (vs, none), M1) else none
    | _ => none)
theorem pi_itemsX {td : TE} (he : PE X ea td) (hb : noBase ea = true) (hline : (apos.endLine == cpos.line) = true) :
    PI X (.Tuple elts kk tpos) (.Call (.Attribute ea "items" apos) [] [] cpos) fun σ H R => td σ H fun x H1 => ∃ d o xs, x = .ref d ∧ DAt (rc X) H1 d o xs ∧ (∀ e ∈ xs, ∃ v, RelV v e.2.2) ∧ R (Itix (rc X) d o xs) H1 := by
  refine ⟨fun pins s σ H R I h => ?_⟩
  refine wpAny_Call_method (T := "dict") (id := "dict.items") (noBase_ok hb) rfl hline F.plainAttrs_dict F.slot_dict_items F.type_dict_items (thn (he.run pins s σ H _ I h) fun u s1 ⟨x, H1, I1, rx, d, o, xs, ex, hd, hv, q⟩ => ?_)
  subst ex
  obtain rfl : u = Value.ref d := rx
  obtain ⟨hs, hgd, hx, es', ep', hdt, hraw, hsz, ent⟩ := dat_raw (X := X) I1 hd
  refine ⟨hraw.typeIs, fun b hb => by cases hb; exact ⟨o, hgd, hx.2.1⟩, ?_⟩
  have I2 : Inv X pins σ H1 { s1 with heap := s1.heap.push { cls := .type "dict_items", data := .fields #[.ref d] } } := I1.kept (t' := s1.toks) fun b ob q => Heap.get?_push_of_some _ q
  have fin : wpAny (model X.prog X.w) X.A (pyIter (.ref s1.heap.objs.size)) (PIE X pins σ (.Tuple elts kk tpos) R) X.xe { s1 with heap := s1.heap.push { cls := .type "dict_items", data := .fields #[.ref d] } } := by
    refine wpAny_pyIter_items_raw (d := d) ⟨_, Heap.get?_push_size _ rfl, rfl, rfl⟩ (hraw.at fun ob e => Heap.get?_push_of_some _ e) (pi_one (tk := s1.toks) I2 _ (turn_itemsX (mg := X.mg) _ hdt hv) ⟨.none, .none, ?_⟩ q)
    exact Heap.get?_push_size _ rfl
  show wpAny _ _ (callWith cpos (.builtin "dict.items") [.ref d] [] []) _ X.xe s1
  exact method_meetsIn F.slot_dict_items F.entry_dict_items rfl (PySem.evalArgs_none ⟨rfl, hraw.typeIs, F.args_dict_items_1 _, _, meets_dict_items_raw d hs, ⟨_, _, hraw⟩, fin⟩)
theorem pi_valuesX {td : TE} (he : PE X ea td) (hb : noBase ea = true) (hline : (apos.endLine == cpos.line) = true) :
    PI X tg (.Call (.Attribute ea "values" apos) [] [] cpos) fun σ H R => td σ H fun x H1 => ∃ d o xs, x = .ref d ∧ DAt (rc X) H1 d o xs ∧ (∀ e ∈ xs, ∃ v, RelV v e.2.2) ∧ R (Itvx (rc X) d o xs) H1 := by
  refine ⟨fun pins s σ H R I h => ?_⟩
  refine wpAny_Call_method (T := "dict") (id := "dict.values") (noBase_ok hb) rfl hline F.plainAttrs_dict F.slot_dict_values F.type_dict_values (thn (he.run pins s σ H _ I h) fun u s1 ⟨x, H1, I1, rx, d, o, xs, ex, hd, hv, q⟩ => ?_)
  subst ex
  obtain rfl : u = Value.ref d := rx
  obtain ⟨hs, hgd, hx, es', ep', hdt, hraw, hsz, ent⟩ := dat_raw (X := X) I1 hd
  refine ⟨hraw.typeIs, fun b hb => by cases hb; exact ⟨o, hgd, hx.2.1⟩, ?_⟩
  have I2 : Inv X pins σ H1 { s1 with heap := s1.heap.push { cls := .type "dict_values", data := .fields #[.ref d] } } := I1.kept (t' := s1.toks) fun b ob q => Heap.get?_push_of_some _ q
  have fin : wpAny (model X.prog X.w) X.A (pyIter (.ref s1.heap.objs.size)) (PIE X pins σ tg R) X.xe { s1 with heap := s1.heap.push { cls := .type "dict_values", data := .fields #[.ref d] } } := by
    refine wpAny_pyIter_values_raw (d := d) ⟨_, Heap.get?_push_size _ rfl, rfl, rfl⟩ (hraw.at fun ob e => Heap.get?_push_of_some _ e) (pi_one (tk := s1.toks) I2 _ (turn_valsX (mg := X.mg) _ hdt hv) ⟨_, Heap.get?_push_size _ rfl, rfl, rfl⟩ q)
  show wpAny _ _ (callWith cpos (.builtin "dict.values") [.ref d] [] []) _ X.xe s1
  exact method_meetsIn F.slot_dict_values F.entry_dict_values rfl (PySem.evalArgs_none ⟨rfl, hraw.typeIs, F.args_dict_values_1 _, _, meets_dict_values_raw d hs, ⟨_, _, hraw⟩, fin⟩)
theorem pv_items (ha : PE X ea (tD (rc X) W fa)) (hb : noBase ea = true) (hline : (apos.endLine == cpos.line) = true) : PI X (.Tuple elts kk tpos) (.Call (.Attribute ea "items" apos) [] [] cpos) (tW (rc X) W (itmI fa)) :=
  pi_mono (pi_itemsX ha hb hline) fun σ H Q ⟨ψ, φ, ρ, M, o, M', hρ, hc, he, hp⟩ => tX_step hρ hc he hp fun d x φ1 H1 M1 g hρ1 hc1 r he1 hp1 => by
    split at he1
    · split at he1
      · rename_i hl
        cases he1
        rw [Rep] at r
        obtain ⟨a, xs, od, kv, vv, rfl, h1, h2, h3, h4⟩ := r
        exact ⟨a, od, xs, rfl, h1.2.2, ent_vals h4, hp1 φ1 H1 .refl hc1 _ (wk_items h1 h2 h3 h4 hl)⟩
      · cases he1
    · cases he1
theorem pv_values (ha : PE X ea (tD (rc X) W fa)) (hb : noBase ea = true) (hline : (apos.endLine == cpos.line) = true) : PI X tg (.Call (.Attribute ea "values" apos) [] [] cpos) (tW (rc X) W (valI fa)) :=
  pi_mono (pi_valuesX ha hb hline) fun σ H Q ⟨ψ, φ, ρ, M, o, M', hρ, hc, he, hp⟩ => tX_step hρ hc he hp fun d x φ1 H1 M1 g hρ1 hc1 r he1 hp1 => by
    split at he1
    · split at he1
      · rename_i hl
        cases he1
        rw [Rep] at r
        obtain ⟨a, xs, od, kv, vv, rfl, h1, h2, h3, h4⟩ := r
        exact ⟨a, od, xs, rfl, h1.2.2, ent_vals h4, hp1 φ1 H1 .refl hc1 _ (wk_vals h1 h3 h4 hl)⟩
      · cases he1
    · cases he1
/-! ### zip, enumerate -/
section
variable {R : Rc} {ψ φ : List Addr} {H0 : Hp} {M0 : List C} {ds es' : List D} {vs ws : List V} {a b : Addr}
theorem pairsD_min : ∀ {xs ys : List D}, (pairsD xs ys).length = min xs.length ys.length
  | [], _ => by simp [pairsD]
  | _ :: _, [] => by simp [pairsD]
  | a :: as, b :: bs => by simp only [pairsD, List.length_cons]; rw [pairsD_min]; omega
theorem wk_zipL (h : AtL R ψ φ H0 a vs) (r : Reps R ψ φ H0 ds vs) (h' : AtL R ψ φ H0 b ws) (r' : Reps R ψ φ H0 es' ws) : Wk R (Itz R.K a b) ψ φ H0 none M0 (pairsD ds es') where
  go := fun i k c _ hi => by
    rw [pairsD_min] at hi
    exact ⟨vs, ws, vs[i]'(by rw [r.length]; omega), ws[i]'(by rw [r'.length]; omega), (h.gen k).seq, (h'.gen k).seq, List.getElem?_eq_getElem _, List.getElem?_eq_getElem _⟩
  stop := fun k c _ => ⟨vs, ws, (h.gen k).seq, (h'.gen k).seq, by rw [pairsD_min, r.length, r'.length]; omega⟩
  yld := fun i k c _ y hi => by
    obtain ⟨T, x, y', rfl, hT, rfl, e1, e2⟩ := y
    rw [pairsD_min] at hi
    have q1 := e1 vs (h.gen k).seq
    have q2 := e2 ws (h'.gen k).seq
    obtain ⟨v, p1, p2⟩ := (r.gen k).get (List.getElem?_eq_getElem (by omega : i < ds.length))
    obtain ⟨w, p3, p4⟩ := (r'.gen k).get (List.getElem?_eq_getElem (by omega : i < es'.length))
    rw [q1] at p1
    rw [q2] at p3
    cases p1
    cases p3
    exact ⟨_, pairsD_get (List.getElem?_eq_getElem (by omega)) (List.getElem?_eq_getElem (by omega)), same_upd hT, Rep.mkTup c hT (.cons p2 (.cons p4 .nil))⟩
theorem wk_zipT (h : AtT R ψ φ H0 a vs) (r : Reps R ψ φ H0 ds vs) (h' : AtT R ψ φ H0 b ws) (r' : Reps R ψ φ H0 es' ws) : Wk R (RZ.ItzT R.K a b) ψ φ H0 none M0 (pairsD ds es') where
  go := fun i k c _ hi => by
    rw [pairsD_min] at hi
    exact ⟨vs, ws, vs[i]'(by rw [r.length]; omega), ws[i]'(by rw [r'.length]; omega), (h.gen k).seq, (h'.gen k).seq, List.getElem?_eq_getElem _, List.getElem?_eq_getElem _⟩
  stop := fun k c _ => ⟨vs, ws, (h.gen k).seq, (h'.gen k).seq, by rw [pairsD_min, r.length, r'.length]; omega⟩
  yld := fun i k c _ y hi => by
    obtain ⟨T, x, y', rfl, hT, rfl, e1, e2⟩ := y
    rw [pairsD_min] at hi
    have q1 := e1 vs (h.gen k).seq
    have q2 := e2 ws (h'.gen k).seq
    obtain ⟨v, p1, p2⟩ := (r.gen k).get (List.getElem?_eq_getElem (by omega : i < ds.length))
    obtain ⟨w, p3, p4⟩ := (r'.gen k).get (List.getElem?_eq_getElem (by omega : i < es'.length))
    rw [q1] at p1
    rw [q2] at p3
    cases p1
    cases p3
    exact ⟨_, pairsD_get (List.getElem?_eq_getElem (by omega)) (List.getElem?_eq_getElem (by omega)), same_upd hT, Rep.mkTup c hT (.cons p2 (.cons p4 .nil))⟩
theorem enumD_length : ∀ {n : Nat} {xs : List D}, (enumD n xs).length = xs.length
  | _, [] => rfl
  | n, x :: xs => by simp only [enumD, List.length_cons]; rw [enumD_length]
theorem enumD_get : ∀ {xs : List D} {n i : Nat} {x : D}, xs[i]? = some x → (enumD n xs)[i]? = some (.tup [.int ((n + i : Nat) : Int), x])
  | y :: ys, n, 0, x, h => by simp at h; subst h; simp [enumD]
  | y :: ys, n, i + 1, x, h => by
    simp only [enumD, List.getElem?_cons_succ]
    rw [enumD_get (by simpa using h)]
    congr 5
    omega
theorem wk_enum (h : AtL R ψ φ H0 a vs) (r : Reps R ψ φ H0 ds vs) : Wk R (Ite R.K a) ψ φ H0 none M0 (enumD 0 ds) where
  go := fun i k c _ hi => by
    rw [enumD_length] at hi
    exact ⟨vs, vs[i]'(by rw [r.length]; exact hi), (h.gen k).seq, List.getElem?_eq_getElem _⟩
  stop := fun k c _ => ⟨vs, (h.gen k).seq, by rw [enumD_length, r.length]; exact Nat.le_refl _⟩
  yld := fun i k c _ y hi => by
    obtain ⟨T, x, rfl, hT, rfl, e1⟩ := y
    rw [enumD_length] at hi
    have q1 := e1 vs (h.gen k).seq
    obtain ⟨v, p1, p2⟩ := (r.gen k).get (List.getElem?_eq_getElem hi)
    rw [q1] at p1
    cases p1
    exact ⟨_, enumD_get (List.getElem?_eq_getElem hi), same_upd hT, Rep.mkTup c hT (.cons (by rw [Nat.zero_add]; exact .mkInt) (.cons p2 .nil))⟩
end
/-- zip of two lists or two tuples; enumerate of a list -/
def zipI (fs : Env → List C → Res (List D)) : Env → List C → Res (List D × Option Nat) := fun ρ M => bnd (fs ρ M) fun ds M1 => (match ds with
    | [.tup xs, .tup ys] => some (.ok (pairsD xs ys, none), M1)
    | [.lst xs, .lst ys] => some (.ok (pairsD xs ys, none), M1)
    | _ => none)
def enuI (fs : Env → List C → Res (List D)) : Env → List C → Res (List D × Option Nat) := fun ρ M => bnd (fs ρ M) fun ds M1 => (match ds with
    | [.lst xs] => some (.ok (enumD 0 xs, none), M1)
    | _ => none)
theorem tA_stepI {R : Rc} {ψ φ : List Addr} {ρ : Env} {σ : L2.St} {H : Hp} {M M' : List C} {o : Except D (List D × Option Nat)} {f : Env → List C → Res (List D)} {k : List D → List C → Res (List D × Option Nat)} {K : (List D × Option Nat) → List Addr → Hp → Prop} {Q' : List V → Hp → Prop}
    (hρ : EnvOk R ψ φ H ρ σ) (hc : Cells R ψ φ H M) (he : bnd (f ρ M) k = some (o, M')) (hp : PostX R W ψ φ H σ K o M')
    (hq : ∀ ds vs φ1 H1 M1, Fr φ H φ1 H1 → Cells R ψ φ1 H1 M1 → Reps R ψ φ1 H1 ds vs → k ds M1 = some (o, M') → PostX R W ψ φ1 H1 σ K o M' → Q' vs H1) : tA R W f σ H Q' := tA_step hρ hc he hp fun ds vs φ1 H1 M1 g _ c r e p => hq ds vs φ1 H1 M1 g c r e p
theorem pv_zip (hg : Gl X "zip") (hm : X.mg "zip" = none) (hs : notStar ea = true) (hs2 : notStar eb = true) (ha : PA X [ea, eb] (tA (rc X) W fs)) : PI X (.Tuple elts kk tpos) (.Call (.Name "zip" p) [ea, eb] [] pos) (tW (rc X) W (zipI fs)) :=
  pi_mono (RZ.pi_zipA hg hm ha (star_cons hs) (star_any (by simp [hs2]))) fun σ H Q ⟨ψ, φ, ρ, M, o, M', hρ, hc, he, hp⟩ => tA_stepI hρ hc he hp fun ds vs φ1 H1 M1 g hc1 r he1 hp1 => by
    split at he1
    · cases he1
      obtain ⟨v, rs, rfl, r1, r2⟩ := r.cons_inv
      obtain ⟨v', rs', rfl, r3, r4⟩ := r2.cons_inv
      rw [r4.nil_inv]
      rw [Rep] at r1 r3
      obtain ⟨a, vs, rfl, h1, h2⟩ := r1
      obtain ⟨b, ws, rfl, h3, h4⟩ := r3
      exact ⟨a, b, vs, ws, rfl, .inr ⟨h1.seq, h3.seq, hp1 φ1 H1 .refl hc1 _ (wk_zipT h1 h2 h3 h4)⟩⟩
    · cases he1
      obtain ⟨v, rs, rfl, r1, r2⟩ := r.cons_inv
      obtain ⟨v', rs', rfl, r3, r4⟩ := r2.cons_inv
      rw [r4.nil_inv]
      rw [Rep] at r1 r3
      obtain ⟨a, vs, rfl, h1, h2⟩ := r1
      obtain ⟨b, ws, rfl, h3, h4⟩ := r3
      exact ⟨a, b, vs, ws, rfl, .inl ⟨h1.seq, h3.seq, hp1 φ1 H1 .refl hc1 _ (wk_zipL h1 h2 h3 h4)⟩⟩
    · cases he1
theorem pv_enum (hg : Gl X "enumerate") (hm : X.mg "enumerate" = none) (hs : notStar ea = true) (ha : PA X [ea] (tA (rc X) W fs)) : PI X (.Tuple elts kk tpos) (.Call (.Name "enumerate" p) [ea] [] pos) (tW (rc X) W (enuI fs)) :=
  pi_mono (pi_enum hg hm ha (star_cons hs)) fun σ H Q ⟨ψ, φ, ρ, M, o, M', hρ, hc, he, hp⟩ => tA_stepI hρ hc he hp fun ds vs φ1 H1 M1 g hc1 r he1 hp1 => by
    split at he1
    · cases he1
      obtain ⟨v, rs, rfl, r1, r2⟩ := r.cons_inv
      rw [r2.nil_inv]
      rw [Rep] at r1
      obtain ⟨a, vs, rfl, h1, h2⟩ := r1
      exact ⟨a, vs, rfl, h1.seq, hp1 φ1 H1 .refl hc1 _ (wk_enum h1 h2)⟩
    · cases he1
end
end Pv

end T_PvJ
section T_PvK
set_option maxRecDepth 100000
set_option maxHeartbeats 1000000
namespace Pv
open PySem PySem.Spec PyProof.Rows L2
section
variable {R : Rc} {ψ ψ' φ φ' φ1 : List Addr} {H H' H1 : Hp} {a p : Addr} {vs : List V} {M : List C} {d : D} {v : V} {u : HO} {ds : List D}
/-- a new place that is hidden -/
theorem keep_hide (hD : H p = none) : Keep ψ φ H (p :: ψ) φ (upd H p u) := ⟨fun a o h1 h2 h3 => ⟨fun m => by
  rcases List.mem_cons.mp m with rfl | m
  · rw [hD] at h3; cases h3
  · exact h1 m, h2, same_upd hD _ _ h3⟩, fun _ _ h => h⟩
theorem Cells.hide (hc : Cells R ψ φ H M) (hD : H p = none) : Cells R (p :: ψ) φ (upd H p u) M := by
  refine ⟨hc.len, hc.nd, fun a m z => ?_, fun a m => ?_, fun n a c h1 h2 => ?_⟩
  · rcases List.mem_cons.mp z with rfl | z
    · exact (hc.free hD).1 m
    · exact hc.apart a m z
  · rcases List.mem_cons.mp m with rfl | m
    · exact ⟨u, upd_same⟩
    · obtain ⟨o, e⟩ := hc.hid a m
      exact ⟨o, same_upd hD _ _ e⟩
  · exact CellOk.gen (keep_hide hD) (fun o e => same_upd hD _ _ e) (hc.ok n a c h1 h2)
/-- a hidden place is written -/
theorem keep_poke (m : p ∈ ψ) : Keep ψ φ H ψ φ (upd H p u) := ⟨fun a o h1 h2 h3 => ⟨h1, h2, by rw [upd_ne (fun e => h1 (by rw [e]; exact m))]; exact h3⟩, fun _ _ h => h⟩
theorem Cells.poke (hc : Cells R ψ φ H M) (m : p ∈ ψ) : Cells R ψ φ (upd H p u) M := by
  refine ⟨hc.len, hc.nd, hc.apart, fun a m' => ?_, fun n a c h1 h2 => ?_⟩
  · by_cases e : a = p
    · subst e; exact ⟨u, upd_same⟩
    · obtain ⟨o, q⟩ := hc.hid a m'
      exact ⟨o, by rw [upd_ne e]; exact q⟩
  · refine CellOk.gen (keep_poke m) (fun o e => ?_) (hc.ok n a c h1 h2)
    rw [upd_ne]
    · exact e
    · rintro rfl
      exact hc.apart a (List.mem_of_getElem? h1) m
/-- a hidden place is none's -/
def gone (H : Hp) (p : Addr) : Hp := fun b => if b = p then none else H b
theorem upd_gone (h : H p = some u) : upd (gone H p) p u = H := by
  funext b
  unfold upd gone
  by_cases e : b = p
  · subst e; simp [h]
  · simp [e]
theorem gone_ne {b : Addr} (e : b ≠ p) : gone H p b = H b := by unfold gone; rw [if_neg e]
theorem gone_self : gone H p p = none := by unfold gone; rw [if_pos rfl]
theorem keep_gone : Keep (p :: ψ) φ H ψ φ (gone H p) := ⟨fun a o h1 h2 h3 => ⟨fun m => h1 (List.mem_cons_of_mem _ m), h2, by rw [gone_ne (fun e => h1 (by rw [e]; exact List.mem_cons_self))]; exact h3⟩, fun _ _ h => h⟩
theorem Cells.gone (hc : Cells R (p :: ψ) φ H M) (n : p ∉ ψ) : Cells R ψ φ (gone H p) M := by
  refine ⟨hc.len, hc.nd, fun a m z => hc.apart a m (List.mem_cons_of_mem _ z), fun a m => ?_, fun k a c h1 h2 => ?_⟩
  · obtain ⟨o, e⟩ := hc.hid a (List.mem_cons_of_mem _ m)
    exact ⟨o, by rw [gone_ne (fun z => n (by rw [← z]; exact m))]; exact e⟩
  · refine CellOk.gen keep_gone (fun o e => ?_) (hc.ok k a c h1 h2)
    rw [gone_ne]
    · exact e
    · rintro rfl
      exact hc.apart a (List.mem_of_getElem? h1) List.mem_cons_self
theorem Fr.poke (f : Fr φ H φ1 H1) (hp : H p = none) : Fr φ H φ1 (upd H1 p u) := ⟨fun a o n e => by rw [upd_ne (ne_of_none e hp)]; exact f.keep a o n e, f.pre, f.new⟩
theorem Fr.gone (f : Fr φ H φ1 H1) (hp : H p = none) : Fr φ H φ1 (gone H1 p) := ⟨fun a o n e => by rw [gone_ne (ne_of_none e hp)]; exact f.keep a o n e, f.pre, f.new⟩
variable {ρ : Env} {σ : L2.St}
theorem EnvOk.gen (k : Keep ψ φ H ψ' φ' H') (h : EnvOk R ψ φ H ρ σ) : EnvOk R ψ' φ' H' ρ σ := ⟨h.1, fun i d e => let ⟨v, q, r⟩ := h.2 i d e; ⟨v, q, r.gen k⟩⟩
theorem EnvOk.wipe (h : EnvOk R ψ φ H ρ σ) : ∀ vs : List Nat, EnvOk R ψ φ H (wipeE ρ vs) (wipe σ vs)
  | [] => h
  | w :: ws => by
    have ih := h.wipe ws
    unfold wipeE L2.wipe
    refine ⟨by rw [List.length_set, List.length_set, ih.1], fun i d e => ?_⟩
    by_cases hi : w = i
    · subst hi
      by_cases hl : w < (wipeE ρ ws).length
      · rw [List.getElem?_set_self hl] at e; cases e
      · rw [List.getElem?_eq_none (by rw [List.length_set]; omega)] at e; cases e
    · rw [List.getElem?_set_ne hi] at e ⊢
      exact ih.2 i d e
end

/-! ### targets that are names -/
mutual
def gP (K : PySem.W.Frag) : P → TG
  | .var i => gName i
  | .tup ps => gTup K ps.length (gPs K ps)
def gPs (K : PySem.W.Frag) : List P → TGs
  | [] => gNil
  | p :: ps => gCons (gP K p) (gPs K ps)
end
section
variable {R : Rc} {ψ φ : List Addr} {H : Hp}
mutual
theorem gP_ok : ∀ (p : P) (d : D) (v : V) (ρ ρ' : Env) (σ : L2.St) (Q : L2.St → Hp → Prop), EnvOk R ψ φ H ρ σ → Rep R ψ φ H d v → bindP p d ρ = some ρ' →
    (∀ σ', EnvOk R ψ φ H ρ' σ' → σ'.length = σ.length → (∀ j, j ∉ varsP p → σ'[j]? = σ[j]?) → Q σ' H) → gP R.K p v σ H Q
  | .var i, d, v, ρ, ρ', σ, Q, hρ, r, e, q => by
    rw [bindP] at e
    split at e
    · cases e
      rw [gP]
      refine q _ (hρ.set r i) (by simp) fun j hj => ?_
      rw [varsP] at hj
      rw [List.getElem?_set_ne (fun z => hj (by rw [z]; simp))]
    · cases e
  | .tup ps, d, v, ρ, ρ', σ, Q, hρ, r, e, q => by
    cases d with
    | tup ds =>
      rw [bindP] at e
      rw [Rep] at r
      obtain ⟨a, vs, rfl, h1, h2⟩ := r
      rw [gP]
      refine ⟨a, vs, rfl, h1.seq, ?_, gPs_ok ps ds vs ρ ρ' σ Q hρ h2 e fun σ' h1 h2 h3 => q σ' h1 h2 fun j hj => h3 j (by rw [varsP] at hj; exact hj)⟩
      rw [h2.length]
      exact bindPs_len ps ds ρ ρ' e
    | _ => simp [bindP] at e
theorem bindPs_len : ∀ (ps : List P) (ds : List D) (ρ ρ' : Env), bindPs ps ds ρ = some ρ' → ds.length = ps.length
  | [], [], _, _, _ => rfl
  | [], _ :: _, _, _, e => by simp [bindPs] at e
  | _ :: _, [], _, _, e => by simp [bindPs] at e
  | p :: ps, d :: ds, ρ, ρ', e => by
    rw [bindPs] at e
    obtain ⟨ρ1, _, e2⟩ := Option.bind_eq_some_iff.mp e
    rw [List.length_cons, List.length_cons, bindPs_len ps ds ρ1 ρ' e2]
theorem gPs_ok : ∀ (ps : List P) (ds : List D) (vs : List V) (ρ ρ' : Env) (σ : L2.St) (Q : L2.St → Hp → Prop), EnvOk R ψ φ H ρ σ → Reps R ψ φ H ds vs → bindPs ps ds ρ = some ρ' →
    (∀ σ', EnvOk R ψ φ H ρ' σ' → σ'.length = σ.length → (∀ j, j ∉ varsPs ps → σ'[j]? = σ[j]?) → Q σ' H) → gPs R.K ps vs σ H Q
  | [], [], vs, ρ, ρ', σ, Q, hρ, r, e, q => by
    rw [bindPs] at e
    cases e
    rw [gPs]
    exact ⟨r.nil_inv, q σ hρ rfl fun _ _ => rfl⟩
  | [], _ :: _, _, _, _, _, _, _, _, e, _ => by simp [bindPs] at e
  | _ :: _, [], _, _, _, _, _, _, _, e, _ => by simp [bindPs] at e
  | p :: ps, d :: ds, vs, ρ, ρ', σ, Q, hρ, r, e, q => by
    rw [bindPs] at e
    obtain ⟨ρ1, e1, e2⟩ := Option.bind_eq_some_iff.mp e
    obtain ⟨v, rs, rfl, r1, r2⟩ := r.cons_inv
    rw [gPs]
    refine ⟨v, rs, rfl, gP_ok p d v ρ ρ1 σ _ hρ r1 e1 fun σ1 h1 h2 h3 => gPs_ok ps ds rs ρ1 ρ' σ1 Q h1 r2 e2 fun σ2 k1 k2 k3 => q σ2 k1 (k2.trans h2) fun j hj => ?_⟩
    rw [varsPs, List.mem_append, not_or] at hj
    rw [k3 j hj.2, h3 j hj.1]
end
end
theorem wipe_eq {σ σ' : L2.St} : ∀ (vs : List Nat), σ'.length = σ.length → (∀ j, j ∉ vs → σ'[j]? = σ[j]?) → wipe σ' vs = wipe σ vs := by
  intro vs hl h
  apply List.ext_getElem?
  intro j
  by_cases hj : j ∈ vs
  · have key : ∀ (τ : L2.St) (ws : List Nat), j ∈ ws → (wipe τ ws)[j]? = if j < τ.length then some none else none := by
      intro τ ws
      induction ws with
      | nil => intro m; cases m
      | cons w ws ih =>
        intro m
        unfold wipe
        by_cases e : w = j
        · subst e
          by_cases hlt : w < τ.length
          · rw [if_pos hlt, List.getElem?_set_self (by rw [wipe_length]; exact hlt)]
          · rw [if_neg hlt, List.getElem?_eq_none (by rw [List.length_set, wipe_length]; omega)]
        · rw [List.getElem?_set_ne e]
          rcases List.mem_cons.mp m with z | z
          · exact absurd z.symm e
          · exact ih z
    rw [key _ _ hj, key _ _ hj, hl]
  · rw [wipe_out hj, wipe_out hj, h j hj]
end Pv

end T_PvK
section T_PvL
set_option maxRecDepth 100000
set_option maxHeartbeats 1000000
namespace Pv
open PySem PySem.Spec PyProof.Rows L2
def W0 : WX := fun _ _ _ _ => False
def lcB (p : P) (ρ : Env) (fcs : Env → List C → Res Bool) (fe : Env → List C → Res D) : D → List C → Res (Option D) := fun d M => match bindP p d (wipeE ρ (varsP p)) with
        | none => none
        | some ρ' => bndN (fcs ρ' M) fun b M' => if b then bndN (fe ρ' M') fun r M'' => some (.ok (some r), M'') else some (.ok none, M')
def lcF (p : P) (fi : Env → List C → Res (List D × Option Nat)) (fcs : Env → List C → Res Bool) (fe : Env → List C → Res D) : Env → List C → Res D := fun ρ M => bnd (fi ρ M) fun dg M1 =>
      bndN (lcLoop dg.2 M1 (lcB p ρ fcs fe) dg.1 [] M1) fun ds M2 => if ds.length ≤ SZ then some (.ok (.lst ds), M2) else none
theorem lcLoop_len {g : Option Nat} {M0 : List C} {body : D → List C → Res (Option D)} : ∀ {ds acc : List D} {M : List C} {out : List D} {M' : List C}, lcLoop g M0 body ds acc M = some (.ok out, M') → acc.length ≤ out.length
  | [], acc, M, out, M', h => by
    rw [lcLoop] at h
    split at h
    · cases h; exact Nat.le_refl _
    · cases h
  | d :: ds, acc, M, out, M', h => by
    rw [lcLoop] at h
    split at h
    · obtain ⟨o, M1, _, h2⟩ := bndN_some h
      have := lcLoop_len h2
      split at this
      · simp at this; omega
      · exact this
    · cases h
section
variable {R : Rc} {ψ φ φ1 : List Addr} {H H1 H' : Hp} {σ : L2.St} {ρ : Env}
/-- the state of a comprehension's loop: D the new list, its items acc so far -/
structure LcSt (R : Rc) (ψ φ : List Addr) (H : Hp) (D : Addr) (acc : List Pv.D) (φ' : List Addr) (H' : Hp) (M : List C) : Prop where
  lst : ∃ av, H' D = some (.lst av) ∧ Reps R (D :: ψ) φ' H' acc av
  cells : Cells R (D :: ψ) φ' H' M
  fr : Fr φ H φ' H'
theorem LcSt.init {M : List C} {D : Addr} (hc : Cells R ψ φ H M) (hD : H D = none) : LcSt R ψ φ H D [] φ (upd H D (.lst [])) M :=
  ⟨⟨[], upd_same, .nil⟩, hc.hide hD, .of_same (same_upd hD)⟩
theorem LcSt.notin {M : List C} {D : Addr} {acc : List Pv.D} {φ' : List Addr} (h : LcSt R ψ φ H D acc φ' H' M) : D ∉ φ' := fun m => h.cells.apart D m List.mem_cons_self
/-- something runs -/
theorem LcSt.go {M M2 : List C} {D : Addr} {acc : List Pv.D} {φ' φ2 : List Addr} {H2 : Hp} (h : LcSt R ψ φ H D acc φ' H' M) (f : Fr φ' H' φ2 H2) (c : Cells R (D :: ψ) φ2 H2 M2) : LcSt R ψ φ H D acc φ2 H2 M2 := by
  obtain ⟨av, h1, h2⟩ := h.lst
  exact ⟨⟨av, f.keep _ _ h.notin h1, h2.mono f⟩, c, h.fr.trans f⟩
/-- one more -/
theorem LcSt.app {M : List C} {D : Addr} {acc : List Pv.D} {φ' : List Addr} {d : Pv.D} {y : V} {av : List V} (hD : H D = none) (h : LcSt R ψ φ H D acc φ' H' M) (r : Rep R (D :: ψ) φ' H' d y) (e : H' D = some (.lst av)) :
    LcSt R ψ φ H D (acc ++ [d]) φ' (upd H' D (.lst (av ++ [y]))) M := by
  obtain ⟨av', h1, h2⟩ := h.lst
  rw [e] at h1
  cases h1
  have m : D ∈ D :: ψ := List.mem_cons_self
  refine ⟨⟨_, upd_same, ?_⟩, h.cells.poke m, h.fr.poke hD⟩
  exact (Reps.append h2 (.cons r .nil)).gen (keep_poke m)
/-- the end -/
theorem LcSt.done {M : List C} {D : Addr} {acc : List Pv.D} {φ' : List Addr} {W : WX} {Q : VK} {hn : D ∉ ψ} (hD : H D = none) (h : LcSt R ψ φ H D acc φ' H' M) (hp : PostN R W ψ φ H σ Q (.ok (.lst acc)) M) : Q (.ref D) H' := by
  obtain ⟨av, h1, h2⟩ := h.lst
  have q := hp D (.lst av) φ' (gone H' D) (h.fr.gone hD) (h.cells.gone hn) gone_self ⟨av, rfl, h2.gen keep_gone⟩
  rw [upd_gone h1] at q
  exact q
end
section
variable {X : Cx} {W : WX} {p : P} {fi : Env → List C → Res (List D × Option Nat)} {fcs : Env → List C → Res Bool} {fe : Env → List C → Res D}
theorem lc_imp (R : Rc) : ∀ σ H Q, tN R W (lcF p fi fcs fe) σ H Q → tLc (tW R W fi) (gP R.K p) (tT R W0 fcs) (tD R W0 fe) (varsP p) σ H Q := fun σ H Q ⟨ψ, φ, ρ, M, o, M', hρ, hc, he, hp⟩ => by
  unfold lcF at he
  unfold tLc
  rcases bnd_some he with ⟨dg, M1, e1, e2⟩ | ⟨x, M1, e1, e2⟩
  · obtain ⟨out, M2, e3, e4⟩ := bndN_some e2
    split at e4
    · rename_i hsz
      cases e4
      refine ⟨ψ, φ, ρ, M, _, _, hρ, hc, e1, fun φ1 H1 g hc1 J wk D hD => ?_⟩
      have hDψ : D ∉ ψ := (hc1.free hD).2
      have hψ : ∀ a ∈ D :: ψ, a ∈ ψ ∨ H1 a = none := fun a m => by
        rcases List.mem_cons.mp m with rfl | m
        · exact .inr hD
        · exact .inl m
      refine ⟨fun i m H => m = dg.1.length - i ∧ i ≤ dg.1.length ∧ ∃ acc φ' Mx, LcSt R ψ φ1 H1 D acc φ' H Mx ∧ lcLoop dg.2 M1 (lcB p ρ fcs fe) (dg.1.drop i) acc Mx = some (Except.ok out, M'), ⟨dg.1.length, by simp, Nat.zero_le _, [], φ1, M1, .init hc1 hD, e3⟩, ?_⟩
      rintro i m Hi ⟨rfl, hi, acc, φ', Mi, st, el⟩
      by_cases hlt : i < dg.1.length
      · right
        have ed : dg.1.drop i = dg.1[i] :: dg.1.drop (i + 1) := List.drop_eq_getElem_cons hlt
        rw [ed, lcLoop] at el
        split at el
        · rename_i hs
          obtain ⟨r0, M3, b1, b2⟩ := bndN_some el
          refine ⟨wk.go i (.of hψ st.fr) st.cells hs hlt, fun H' => ∃ acc φ' Mx, LcSt R ψ φ1 H1 D acc φ' H' Mx ∧ lcLoop dg.2 M1 (lcB p ρ fcs fe) (dg.1.drop (i + 1)) acc Mx = some (Except.ok out, M'), fun H' ⟨acc', φ2, Mx, s', l'⟩ => ⟨dg.1.length - (i + 1), by omega, rfl, hlt, acc', φ2, Mx, s', l'⟩, fun x Hy y => ?_⟩
          obtain ⟨d, hd, sm, rd⟩ := wk.yld i (.of hψ st.fr) st.cells hs y hlt
          rw [List.getElem?_eq_getElem hlt] at hd
          cases hd
          have f1 : Fr φ' Hi φ' Hy := .of_same sm
          have st1 : LcSt R ψ φ1 H1 D acc φ' Hy Mi := st.go f1 (st.cells.same sm)
          unfold lcB at b1
          split at b1
          · cases b1
          · rename_i ρ' hb
            have hρw : EnvOk R (D :: ψ) φ' Hy (wipeE ρ (varsP p)) (wipe σ (varsP p)) := (EnvOk.wipe (EnvOk.gen ⟨fun a o h1 h2 h3 => ?_, fun n a e => st1.fr.get e⟩ (hρ.mono g)) (varsP p))
            · refine gP_ok p _ x _ ρ' _ _ hρw rd hb fun σ2 hρ2 hl2 ho2 => ⟨?_, ?_⟩
              · have w1 := wipe_eq (varsP p) hl2 ho2
                rw [w1]
                exact wipe_eq (varsP p) (by rw [wipe_length]) fun j hj => wipe_out hj
              · obtain ⟨b, M4, c1, c2⟩ := bndN_some b1
                refine ⟨D :: ψ, φ', ρ', Mi, _, _, hρ2, st1.cells, c1, fun φ3 H3 f3 hc3 => ?_⟩
                have st3 := st1.go f3 hc3
                cases b with
                | false =>
                  dsimp only
                  rw [if_neg (by decide)] at c2 ⊢
                  cases c2
                  exact ⟨acc, φ3, _, st3, b2⟩
                | true =>
                  dsimp only
                  rw [if_pos rfl] at c2 ⊢
                  obtain ⟨r, M5, d1, d2⟩ := bndN_some c2
                  cases d2
                  refine ⟨D :: ψ, φ3, ρ', M4, _, _, hρ2.mono f3, st3.cells, d1, fun v φ5 H5 f5 hc5 rv => ?_⟩
                  have st5 := st3.go f5 hc5
                  obtain ⟨av, q1, q2⟩ := st5.lst
                  have hlen := lcLoop_len b2
                  refine ⟨av, q1, ?_, acc ++ [r], φ5, _, st5.app hD rv q1, b2⟩
                  rw [q2.length, sizeLine_eq]
                  simp at hlen
                  unfold SZ at hsz
                  omega
            · obtain ⟨z1, z2, z3⟩ : a ∉ D :: ψ ∧ a ∉ φ' ∧ Hy a = some o := by
                refine ⟨fun m => ?_, st1.fr.not h2 h3, st1.fr.keep a o h2 h3⟩
                rcases hψ a m with m | m
                · exact h1 m
                · rw [h3] at m; cases m
              exact ⟨z1, z2, z3⟩
        · cases el
      · left
        have ei : i = dg.1.length := by omega
        subst ei
        rw [List.drop_length, lcLoop] at el
        split at el
        · rename_i hs
          cases el
          refine ⟨wk.stop (.of hψ st.fr) st.cells hs, ?_⟩
          exact LcSt.done (hn := hDψ) hD st (hp.mono g)
        · cases el
    · cases e4
  · cases e2
    exact ⟨ψ, φ, ρ, M, _, _, hρ, hc, e1, hp⟩
end
end Pv

end T_PvL
section T_PvM
set_option maxRecDepth 100000
set_option maxHeartbeats 1000000
namespace Pv
open PySem PySem.Spec PyProof.Rows L2
def lc2I (p2 : P) (ρ' : Env) (fe : Env → List C → Res D) : D → List C → Res (Option D) := fun d2 M => match bindP p2 d2 (wipeE ρ' (varsP p2)) with
          | none => none
          | some ρ2 => bndN (fe ρ2 M) fun r M'' => some (.ok (some r), M'')
def lc2B (p p2 : P) (ρ : Env) (fi2 : Env → List C → Res (List D × Option Nat)) (fe : Env → List C → Res D) : D → List D → List C → Res (List D) := fun d acc M => match bindP p d (wipeE ρ (varsP p ++ varsP p2)) with
        | none => none
        | some ρ' => bndN (fi2 ρ' M) fun dg2 M' => lcLoop dg2.2 M' (lc2I p2 ρ' fe) dg2.1 acc M'
def lc2F (p : P) (fi : Env → List C → Res (List D × Option Nat)) (p2 : P) (fi2 : Env → List C → Res (List D × Option Nat)) (fe : Env → List C → Res D) : Env → List C → Res D := fun ρ M => bnd (fi ρ M) fun dg M1 =>
      bndN (lcLoop2 dg.2 M1 (lc2B p p2 ρ fi2 fe) dg.1 [] M1) fun ds M2 => if ds.length ≤ SZ then some (.ok (.lst ds), M2) else none
theorem lc2_len {p p2 : P} {ρ : Env} {fi2 : Env → List C → Res (List D × Option Nat)} {fe : Env → List C → Res D} {g : Option Nat} {M0 : List C} : ∀ {ds acc : List D} {M : List C} {out : List D} {M' : List C}, lcLoop2 g M0 (lc2B p p2 ρ fi2 fe) ds acc M = some (.ok out, M') → acc.length ≤ out.length
  | [], acc, M, out, M', h => by
    rw [lcLoop2] at h
    split at h
    · cases h; exact Nat.le_refl _
    · cases h
  | d :: ds, acc, M, out, M', h => by
    rw [lcLoop2] at h
    split at h
    · obtain ⟨o, M1, h1, h2⟩ := bndN_some h
      have := lc2_len h2
      unfold lc2B at h1
      split at h1
      · cases h1
      · obtain ⟨dg2, M3, _, h3⟩ := bndN_some h1
        have := lcLoop_len h3
        omega
    · cases h
theorem LcSt.keep_to {R : Rc} {ψ φ : List Addr} {H : Hp} {D : Addr} {acc : List Pv.D} {φ' : List Addr} {H' : Hp} {M : List C} (h : LcSt R ψ φ H D acc φ' H' M) (hD : H D = none) : Keep ψ φ H (D :: ψ) φ' H' := .of (fun a m => by
    rcases List.mem_cons.mp m with rfl | m
    · exact .inr hD
    · exact .inl m) h.fr
section
variable {p p2 : P} {fi fi2 : Env → List C → Res (List D × Option Nat)} {fe : Env → List C → Res D}
theorem lc2_imp (R : Rc) (W : WX) : ∀ σ H Q, tN R W (lc2F p fi p2 fi2 fe) σ H Q → tLc2 (tW R W fi) (gP R.K p) tYes (tW R W0 fi2) (gP R.K p2) tYes (tD R W0 fe) (varsP p ++ varsP p2) (varsP p2) σ H Q := fun σ H Q ⟨ψ, φ, ρ, M, o, M', hρ, hc, he, hp⟩ => by
  unfold lc2F at he
  unfold tLc2
  rcases bnd_some he with ⟨dg, M1, e1, e2⟩ | ⟨x, M1, e1, e2⟩
  · obtain ⟨out, M2, e3, e4⟩ := bndN_some e2
    split at e4
    · rename_i hsz
      cases e4
      refine ⟨ψ, φ, ρ, M, _, _, hρ, hc, e1, fun φ1 H1 g hc1 J wk D hD => ?_⟩
      have hDψ : D ∉ ψ := (hc1.free hD).2
      refine ⟨fun i m H => m = dg.1.length - i ∧ i ≤ dg.1.length ∧ ∃ acc φ' Mx, LcSt R ψ φ1 H1 D acc φ' H Mx ∧ lcLoop2 dg.2 M1 (lc2B p p2 ρ fi2 fe) (dg.1.drop i) acc Mx = some (Except.ok out, M'), ⟨dg.1.length, by simp, Nat.zero_le _, [], φ1, M1, .init hc1 hD, e3⟩, ?_⟩
      rintro i m Hi ⟨rfl, hi, acc, φ', Mi, st, el⟩
      by_cases hlt : i < dg.1.length
      · right
        have ed : dg.1.drop i = dg.1[i] :: dg.1.drop (i + 1) := List.drop_eq_getElem_cons hlt
        rw [ed, lcLoop2] at el
        split at el
        · rename_i hs
          obtain ⟨acc2, M3, b1, b2⟩ := bndN_some el
          refine ⟨wk.go i (st.keep_to hD) st.cells hs hlt, fun H' => ∃ acc φ' Mx, LcSt R ψ φ1 H1 D acc φ' H' Mx ∧ lcLoop2 dg.2 M1 (lc2B p p2 ρ fi2 fe) (dg.1.drop (i + 1)) acc Mx = some (Except.ok out, M'), fun H' ⟨acc', φ2, Mx, s', l'⟩ => ⟨dg.1.length - (i + 1), by omega, rfl, hlt, acc', φ2, Mx, s', l'⟩, fun x Hy y => ?_⟩
          obtain ⟨d, hd, sm, rd⟩ := wk.yld i (st.keep_to hD) st.cells hs y hlt
          rw [List.getElem?_eq_getElem hlt] at hd
          cases hd
          have st1 : LcSt R ψ φ1 H1 D acc φ' Hy Mi := st.go (.of_same sm) (st.cells.same sm)
          unfold lc2B at b1
          split at b1
          · cases b1
          · rename_i ρ' hb
            have hρw : EnvOk R (D :: ψ) φ' Hy (wipeE ρ (varsP p ++ varsP p2)) (wipe σ (varsP p ++ varsP p2)) := EnvOk.wipe (EnvOk.gen (st1.keep_to hD) (hρ.mono g)) _
            refine gP_ok p _ x _ ρ' _ _ hρw rd hb fun σ2 hρ2 hl2 ho2 => ⟨?_, ?_⟩
            · have w1 := wipe_eq (varsP p ++ varsP p2) hl2 fun j hj => ho2 j fun z => hj (List.mem_append_left _ z)
              rw [w1]
              exact wipe_eq _ (by rw [wipe_length]) fun j hj => wipe_out hj
            · simp only [tYes, ↓reduceIte]
              obtain ⟨dg2, M4, c1, c2⟩ := bndN_some b1
              refine ⟨D :: ψ, φ', ρ', Mi, _, _, hρ2, st1.cells, c1, fun φ4 H4 f4 hc4 J1 wk1 => ?_⟩
              have st4 := st1.go f4 hc4
              have hρ4 := hρ2.mono f4
              refine ⟨fun j k H => k = dg2.1.length - j ∧ j ≤ dg2.1.length ∧ ∃ acc φ' Mx, LcSt R ψ φ1 H1 D acc φ' H Mx ∧ Keep (D :: ψ) φ4 H4 (D :: ψ) φ' H ∧ lcLoop dg2.2 M4 (lc2I p2 ρ' fe) (dg2.1.drop j) acc Mx = some (Except.ok acc2, M3), ⟨dg2.1.length, by simp, Nat.zero_le _, acc, φ4, M4, st4, .fr .refl, c2⟩, ?_⟩
              rintro j k Hj ⟨rfl, hj, accj, φj, Mj, stj, kj, elj⟩
              by_cases hltj : j < dg2.1.length
              · right
                have edj : dg2.1.drop j = dg2.1[j] :: dg2.1.drop (j + 1) := List.drop_eq_getElem_cons hltj
                rw [edj, lcLoop] at elj
                split at elj
                · rename_i hsj
                  obtain ⟨rj, M5, bj1, bj2⟩ := bndN_some elj
                  refine ⟨wk1.go j kj stj.cells hsj hltj, fun H' => ∃ acc φ' Mx, LcSt R ψ φ1 H1 D acc φ' H' Mx ∧ Keep (D :: ψ) φ4 H4 (D :: ψ) φ' H' ∧ lcLoop dg2.2 M4 (lc2I p2 ρ' fe) (dg2.1.drop (j + 1)) acc Mx = some (Except.ok acc2, M3), fun H' ⟨acc', φ2, Mx, s', k', l'⟩ => ⟨dg2.1.length - (j + 1), by omega, rfl, hltj, acc', φ2, Mx, s', k', l'⟩, fun x1 Hy1 y1 => ?_⟩
                  obtain ⟨d1, hd1, sm1, rd1⟩ := wk1.yld j kj stj.cells hsj y1 hltj
                  rw [List.getElem?_eq_getElem hltj] at hd1
                  cases hd1
                  have stj1 : LcSt R ψ φ1 H1 D accj φj Hy1 Mj := stj.go (.of_same sm1) (stj.cells.same sm1)
                  have kj1 : Keep (D :: ψ) φ4 H4 (D :: ψ) φj Hy1 := kj.trans (.fr (.of_same sm1))
                  unfold lc2I at bj1
                  split at bj1
                  · cases bj1
                  · rename_i ρ2 hb2
                    refine gP_ok p2 _ x1 _ ρ2 _ _ (EnvOk.wipe (EnvOk.gen kj1 hρ4) (varsP p2)) rd1 hb2 fun σ3 hρ3 hl3 ho3 => ⟨?_, ?_⟩
                    · have w1 := wipe_eq (varsP p2) hl3 ho3
                      rw [w1]
                      exact wipe_eq _ (by rw [wipe_length]) fun j hj => wipe_out hj
                    · simp only [tYes, ↓reduceIte]
                      obtain ⟨r, M6, d1, d2⟩ := bndN_some bj1
                      cases d2
                      refine ⟨D :: ψ, φj, ρ2, Mj, _, _, hρ3, stj1.cells, d1, fun v φ5 H5 f5 hc5 rv => ?_⟩
                      have st5 := stj1.go f5 hc5
                      obtain ⟨av, q1, q2⟩ := st5.lst
                      have hlen := lcLoop_len bj2
                      have hlen2 := lc2_len b2
                      refine ⟨av, q1, ?_, accj ++ [r], φ5, _, st5.app hD rv q1, (kj1.trans (.fr f5)).trans (keep_poke List.mem_cons_self), bj2⟩
                      rw [q2.length, sizeLine_eq]
                      simp at hlen
                      unfold SZ at hsz
                      omega
                · cases elj
              · left
                have ej : j = dg2.1.length := by omega
                subst ej
                rw [List.drop_length, lcLoop] at elj
                split at elj
                · rename_i hsj
                  cases elj
                  exact ⟨wk1.stop kj stj.cells hsj, acc2, φj, _, stj, b2⟩
                · cases elj
        · cases el
      · left
        have ei : i = dg.1.length := by omega
        subst ei
        rw [List.drop_length, lcLoop2] at el
        split at el
        · rename_i hs
          cases el
          refine ⟨wk.stop (st.keep_to hD) st.cells hs, ?_⟩
          exact LcSt.done (hn := hDψ) hD st (hp.mono g)
        · cases el
    · cases e4
  · cases e2
    exact ⟨ψ, φ, ρ, M, _, _, hρ, hc, e1, hp⟩
end
section
variable {X : Cx} {W : WX} {p p2 : P} {fi fi2 : Env → List C → Res (List D × Option Nat)} {fcs : Env → List C → Res Bool} {fe fc : Env → List C → Res D} {elt tg iter tg1 iter1 c : Expr} {ifs : List Expr} {scope : Scope} {own : List (Str × Nat)} {pos : Pos}
theorem pts_mono {X : Cx} {ifs : List Expr} {t t' : TT} (h : PTs X ifs t) (i : ∀ σ H Q, t' σ H Q → t σ H Q) : PTs X ifs t' := ⟨fun pins s σ H Q I q => h.run pins s σ H Q I (i σ H Q q)⟩
theorem pv_pts0 : PTs X [] (tT (rc X) W fun _ M => some (.ok true, M)) := pts_mono pts_nil fun σ H Q ⟨ψ, φ, ρ, M, o, M', hρ, hc, he, hp⟩ => by
  cases he
  exact hp φ H .refl hc
theorem pv_pts1 (h : PT X c (tT (rc X) W (truF fc))) : PTs X [c] (tT (rc X) W (truF fc)) := pts_one h
theorem pv_lc (hc : X.calm = true) (hN : X.N.Nodup) (hi : PI X tg iter (tW (rc X) W fi)) (ok : BlkOk X.N X.env.scope scope own) (ho : own.map (·.2) = varsP p)
    (hg : ∀ (s : Shared) (H : Hp) (C : Addr) (cl : List (Str × Addr)) (fp : List Addr), PG (X.blk s H scope (compEnvC scope cl C X.env) fp) tg (gP X.K p)) (ht : ∀ (s : Shared) (H : Hp) (C : Addr) (cl : List (Str × Addr)) (fp : List Addr), PTs (X.blk s H scope (compEnvC scope cl C X.env) fp) ifs (tT (rc X) W0 fcs))
    (he : ∀ (s : Shared) (H : Hp) (C : Addr) (cl : List (Str × Addr)) (fp : List Addr), PE (X.blk s H scope (compEnvC scope cl C X.env) fp) elt (tD (rc X) W0 fe)) (hs : ∀ x, foldedSetIterable iter X.env x = pure x) :
    PE X (.ListComp elt [⟨tg, iter, ifs, 0⟩] scope pos) (tN (rc X) W (lcF p fi fcs fe)) :=
  pe_mono (by have := pe_lc (pos := pos) hc hN hi ok hg ht he hs; rw [ho] at this; exact this) (lc_imp (W := W) (rc X))
theorem pv_lc2 (hc : X.calm = true) (hN : X.N.Nodup) (hi : PI X tg iter (tW (rc X) W fi)) (ok : BlkOk X.N X.env.scope scope own) (ho : own.map (·.2) = varsP p ++ varsP p2)
    (hg : ∀ (s : Shared) (H : Hp) (C : Addr) (cl : List (Str × Addr)) (fp : List Addr), PG (X.blk s H scope (compEnvC scope cl C X.env) fp) tg (gP X.K p))
    (hi1 : ∀ (s : Shared) (H : Hp) (C : Addr) (cl : List (Str × Addr)) (fp : List Addr), PI (X.blk s H scope (compEnvC scope cl C X.env) fp) tg1 iter1 (tW (rc X) W0 fi2))
    (hg1 : ∀ (s : Shared) (H : Hp) (C : Addr) (cl : List (Str × Addr)) (fp : List Addr), PG (X.blk s H scope (compEnvC scope cl C X.env) fp) tg1 (gP X.K p2))
    (he : ∀ (s : Shared) (H : Hp) (C : Addr) (cl : List (Str × Addr)) (fp : List Addr), PE (X.blk s H scope (compEnvC scope cl C X.env) fp) elt (tD (rc X) W0 fe)) (hs : ∀ x, foldedSetIterable iter X.env x = pure x) (hs1 : ∀ env x, foldedSetIterable iter1 env x = pure x) :
    PE X (.ListComp elt [⟨tg, iter, [], 0⟩, ⟨tg1, iter1, [], 0⟩] scope pos) (tN (rc X) W (lc2F p fi p2 fi2 fe)) :=
  pe_mono (by
    have := pe_lc2 (pos := pos) (vs1 := varsP p2) hc hN hi ok (by rw [ho]; exact fun i m => List.mem_append_right _ m) hg (fun _ _ _ _ _ => pts_nil) hi1 hg1 (fun _ _ _ _ _ => pts_nil) he hs hs1
    rw [ho] at this
    exact this) (lc2_imp (rc X) W)
end
end Pv

end T_PvM
section T_PvD
set_option maxRecDepth 100000
set_option maxHeartbeats 1000000
namespace Pv
open PySem PySem.Spec PyProof.Rows L2
/-! ### a dict is written -/
theorem dO_ok {P : Program} {w : World} {R : Rc} {H : Hp} {h : Heap} {a : Addr} {xs : List Ent} {o : Obj} {es : Array DictEntry} {ep : Nat} (hP : R.P = P) (hw : R.w = w) (hs : (a == sysModules) = false) (ho : h.get? a = some o) (hx : o.ExactDict) (hd : o.data = .dict es ep)
    (he : es.toList = xs.map (entryOfKey (nestedKind P w))) (hn : (xs.map (·.1)).Nodup) : ObjOk P w H h a (dO R a xs o) := by
  subst hP hw
  exact ⟨⟨hs, ho, hx, es, ep, hd, he, hn⟩, ⟨o, ho⟩, fun h1 h2 ⟨q1, q2, q3⟩ k => ⟨q1, k o q2, q3⟩⟩
structure DRdy (R : Rc) (H : Hp) (D : Addr) (xs : List Ent) (od : Obj) (k : NestedKey) (a : Addr) : Prop where
  get : H D = some (dO R D xs od)
  key : k.depth ≤ 8 ∧ ∃ q, k = .tup q
  sz : xs.length < sizeLine
  rep : ∃ ψ φ ks kv vv kd, Reps R ψ φ H ks kv ∧ EntOk ks kv vv xs ∧ nkey kd = some k ∧ Rep R ψ φ H kd (.ref a)
section
variable {X : Cx} {pins : List (Addr × Obj)} {σ : L2.St} {H : Hp} {s : Shared} {D a : Addr} {xs : List Ent} {od : Obj} {k : NestedKey} {u : Value}
theorem put_done {h' : Heap} {t : Nat} (I : Inv X pins σ H s) (r : DRdy (rc X) H D xs od k a) (hm : h'.DictOfH (nestedKind X.prog X.w) D (storedH xs k a u)) (sb : Heap.SameBut D s.heap h') :
    ∃ od', Inv X pins σ (upd H D (dO (rc X) D (storedH xs k a u) od')) { s with heap := h', toks := t } := by
  obtain ⟨o, es, ep, ho, hx, hd, he, _, hn⟩ := hm
  obtain ⟨ψ, φ, ks, kv, vv, kd, r1, r2, _⟩ := r.rep
  obtain ⟨hs, _⟩ := Inv.dictH I r.get r1 r2
  exact ⟨o, I.write (by rw [r.get]; exact True.intro) (.inl rfl) (fun b ob hb q => (sb.2 b hb).trans q) ⟨o, ho⟩ (dO_ok rfl rfl hs ho hx hd he hn)⟩
theorem put_key (I : Inv X pins σ H s) (r : DRdy (rc X) H D xs od k a) : (nestedKind X.prog X.w).is s.heap k a ∧ s.heap.DictOfH (nestedKind X.prog X.w) D xs := by
  obtain ⟨ψ, φ, ks, kv, vv, kd, r1, r2, r3, r4⟩ := r.rep
  exact ⟨⟨Rep.nested I _ _ _ _ r3 r4 rfl, r.key.1⟩, (Inv.dictH I r.get r1 r2).2⟩
theorem dict_setX {A : Around} {E : Value → Shared → Prop} {Q : Unit → Shared → Prop} (hu : A.units + 64 < cLine) (I : Inv X pins σ H s) (r : DRdy (rc X) H D xs od k a)
    (h : ∀ od' s', Inv X pins σ (upd H D (dO (rc X) D (storedH xs k a u) od')) s' → Q () s') : wpAny (model X.prog X.w) A (dictSet D (.ref a) u) Q E s := by
  obtain ⟨q1, q2⟩ := put_key I r
  refine wpAny_dictSet_heap (by show A.units + 8 < cLine; omega) q1 q2 (fun h' hm sb => ?_) (Nat.le_of_lt r.sz)
  obtain ⟨od', J⟩ := put_done (u := u) I r hm sb
  exact h od' _ J
theorem dict_putX {E : Value → Shared → Prop} {Q : Unit → Shared → Prop} (hu : X.A.units + 64 < cLine) (I : Inv X pins σ H s) (r : DRdy (rc X) H D xs od k a)
    (h : ∀ od' s', Inv X pins σ (upd H D (dO (rc X) D (storedH xs k a u) od')) s' → Q () s') : wpAny (model X.prog X.w) X.A (setItem (.ref D) (.ref a) u) Q E s := by
  obtain ⟨q1, q2⟩ := put_key I r
  refine wpAny_setItem_heap (keyed_room hu (rc X)) q1 q2 (fun h' hm sb => ?_) (Nat.le_of_lt r.sz)
  obtain ⟨od', J⟩ := put_done (u := u) I r hm sb
  exact h od' _ J
end
/-! ### {k: v for target in iter}, the keys tuples -/
section
variable {X : Cx}
/-- the empty dict -/
def od0 : Obj := { cls := .type "dict", data := .dict #[] }
def tDcX (R : Rc) (wi : TI) (g : TG) (tk tv : TE) (vs : List Nat) : TE := fun σ H Q => wi σ H fun J H1 => ∀ D, H1 D = none → ∃ W : Nat → Nat → Hp → Prop, (∃ m, W 0 m (upd H1 D (dO R D [] od0))) ∧ ∀ i m H, W i m H →
  (J.stop i H ∧ Q (.ref D) H) ∨ (J.go i H ∧ ∃ Nx : Hp → Prop, (∀ H', Nx H' → ∃ m', m' < m ∧ W (i + 1) m' H') ∧ ∀ x H', J.yld i H x H' → g x (wipe σ vs) H' fun σ2 H2 => wipe σ2 vs = wipe σ vs ∧
    tk σ2 H2 fun y H4 => tv σ2 H4 fun z H5 => ∃ xs od k a, y = .ref a ∧ DRdy R H5 D xs od k a ∧ ∀ u od', RelV z u → (xs.map (·.1)).Nodup → Nx (upd H5 D (dO R D (storedH xs k a u) od')))
theorem dcx_core {pins : List (Addr × Obj)} {s : Shared} {σ : L2.St} {H : Hp} {Q : VK} {kx vx tg iter : Expr} {scope : Scope} {own : List (Str × Nat)} {pos pos' : Pos} {wi : TI} {g : TG} {tk tv : TE} {use : Option (Value → Sem Unit)} {Qf : Value → Shared → Prop}
    (hu : X.A.units + 64 < cLine) (hc : X.calm = true) (hN : X.N.Nodup) (I : Inv X pins σ H s) (hi : PI X tg iter wi) (ok : BlkOk X.N X.env.scope scope own)
    (hg : ∀ (s : Shared) (H : Hp) (C : Addr) (cl : List (Str × Addr)) (fp : List Addr), PG (X.blk s H scope (compEnvC scope cl C X.env) fp) tg g)
    (hk : ∀ (s : Shared) (H : Hp) (C : Addr) (cl : List (Str × Addr)) (fp : List Addr), PE (X.blk s H scope (compEnvC scope cl C X.env) fp) kx tk)
    (he : ∀ (s : Shared) (H : Hp) (C : Addr) (cl : List (Str × Addr)) (fp : List Addr), PE (X.blk s H scope (compEnvC scope cl C X.env) fp) vx tv) (hs : ∀ x, foldedSetIterable iter X.env x = pure x)
    (h : tDcX (rc X) wi g tk tv (own.map (·.2)) σ H Q)
    (hRR : ∀ D C s' m H', Inv X pins σ H' s' → Q (.ref D) H' → s'.heap.Ns C m → FpOk X pins H' C → compPost (model X.prog X.w) X.A X.xe use Qf (.ref D) C (.ok .next) s') :
    wpAny (model X.prog X.w) X.A (comprehension (.DictComp kx vx [⟨tg, iter, [], 0⟩] scope pos) scope X.env pos' newDict false (eval iter X.env) use) Qf X.xe s := by
  have hfree : ∀ y ∈ scope.names, y.2 = .free → ∃ c, X.env.cells.lookup y.1 = some c := fun y hy e => by
    rcases ok.free y hy e with k | k
    · exact I.ok.has _ (.inl k)
    · exact I.ok.has _ (.inr k)
  refine wpAny_comprehension_free (use := use) rfl hs (closure_ok hfree) ok.kind (fun y hy e => by rw [ok.uniq y hy, e])
    (thn (hi.run pins s σ H _ I h) fun xv s1 hx => thn hx fun itv s2 h2 => ?_)
  obtain ⟨it, fp, tn, J, H2, e, I2, T, st2, f2, q⟩ := h2
  subst e
  refine wpAny_newObj_type (newEnv_comp ?_)
  generalize hD : s2.heap.objs.size = D
  have hDn : H2 D = none := I2.hok.fresh (Nat.le_of_eq hD)
  obtain ⟨W, ⟨m0, w0⟩, turn⟩ := q D hDn
  generalize hs3 : ({ s2 with heap := s2.heap.push { cls := .type "dict", data := .dict #[] } } : Shared) = s3
  have I3 : Inv X pins σ (upd H2 D (dO (rc X) D [] od0)) s3 := by
    rw [← hs3]
    refine I2.laid (t' := s2.toks) (fun b o e => Heap.get?_push_of_some _ e) (Nat.le_of_eq hD) ?_
    rw [← hD]
    refine dO_ok (es := #[]) (ep := 0) rfl rfl ?_ (Heap.get?_push_size _ rfl) ⟨rfl, rfl, rfl⟩ rfl rfl List.nodup_nil
    exact beq_eq_false_iff_ne.mpr (Nat.ne_of_gt I2.big)
  have h3 : s3.heap = s2.heap.push { cls := .type "dict", data := .dict #[] } := by rw [← hs3]
  have sz : ∀ b ∈ fp, b < s2.heap.objs.size := fun b hb => by
    obtain ⟨o, e, _⟩ := T.obj _ _ st2 b hb
    exact Heap.lt_size e
  have f3 : ∀ b ∈ fp, FpOk X pins (upd H2 D (dO (rc X) D [] od0)) b ∧ b < s3.heap.objs.size := fun b hb => by
    have hlt := sz b hb
    refine ⟨⟨?_, (f2 b hb).2⟩, by rw [h3, Heap.size_push]; exact Nat.lt_succ_of_lt hlt⟩
    rw [upd_ne (by rw [← hD]; exact Nat.ne_of_lt hlt)]
    exact (f2 b hb).1
  have st3 : tn 0 s3.heap := T.keep _ _ _ st2 fun b _ o e => by rw [h3]; exact Heap.get?_push_of_some _ e
  have I4 := block_start I3 ok hN f3
  have pg := hg s3 (upd H2 D (dO (rc X) D [] od0)) s3.heap.objs.size (cellsFrom (s3.heap.objs.size + 1) scope.names (cloFrom X.env.cells scope.names [])) fp
  have pk := hk s3 (upd H2 D (dO (rc X) D [] od0)) s3.heap.objs.size (cellsFrom (s3.heap.objs.size + 1) scope.names (cloFrom X.env.cells scope.names [])) fp
  have pe := he s3 (upd H2 D (dO (rc X) D [] od0)) s3.heap.objs.size (cellsFrom (s3.heap.objs.size + 1) scope.names (cloFrom X.env.cells scope.names [])) fp
  show codeAny _ _ (.compStart (.DictComp kx vx [⟨tg, iter, [], 0⟩] scope pos) 0 (.ref it) (.ref D) (compEnvC scope (cellsFrom (s3.heap.objs.size + 1) scope.names (cloFrom X.env.cells scope.names [])) s3.heap.objs.size X.env)) (compPost (model X.prog X.w) X.A X.xe use Qf (.ref D) s3.heap.objs.size) { s3 with heap := pushCells (s3.heap.push { cls := .type "dict", data := .dict #[] }) scope.names }
  have nfp : ∀ b ∈ fp, (upd H2 D (dO (rc X) D [] od0)) b = none := fun b hb => (f3 b hb).1.1
  generalize hce : compEnvC scope (cellsFrom (s3.heap.objs.size + 1) scope.names (cloFrom X.env.cells scope.names [])) s3.heap.objs.size X.env = ce at I4 pg pk pe ⊢
  have cL : ce.locals = s3.heap.objs.size := by subst hce; rfl
  generalize hH3 : upd H2 D (dO (rc X) D [] od0) = H3 at I3 I4 pg pk pe w0 nfp f3
  generalize hs4 : ({ s3 with heap := pushCells (s3.heap.push { cls := .type "dict", data := .dict #[] }) scope.names } : Shared) = s4 at I4 ⊢
  have st4 : tn 0 s4.heap := T.keep _ _ _ st3 fun b _ o e => by rw [← hs4]; exact pushCells_keeps _ _ _ _ (Heap.get?_push_of_some _ e)
  have stat : ∀ {σ' : L2.St} {H' : Hp} {s' : Shared}, Inv (X.blk s3 H3 scope ce fp) [] σ' H' s' → (∀ b ∈ fp, H' b = none) → ∀ b ∈ fp, FpOk (X.blk s3 H3 scope ce fp) [] H' b := fun {σ' H' s'} I' hn b hb =>
    ⟨hn b hb, (I'.ok.exf b hb).1, I'.ok.exfs b hb, .inl hb, fun x c e => (I'.ok.exf b hb).2 x c e, fun p hp => absurd (show p ∈ ([] : List (Addr × Obj)) ++ [] from hp) (by simp)⟩
  have loop : codeAny (model X.prog X.w) X.A (.compLoop (.DictComp kx vx [⟨tg, iter, [], 0⟩] scope pos) 0 (.ref it) (.ref D) ce) (compPost (model X.prog X.w) X.A X.xe use Qf (.ref D) s3.heap.objs.size) s4 := by
    refine compLoop_anyD (fun n s' => ∃ i H', Inv (X.blk s3 H3 scope ce fp) [] (wipe σ (own.map (·.2))) H' s' ∧ tn i s'.heap ∧ (∀ b ∈ fp, H' b = none) ∧ W i n H') ?_ m0 ⟨0, H3, I4, st4, nfp, w0⟩
    rintro n s5 ⟨i, H5, I5, st5, n5, w5⟩
    rcases turn i n H5 w5 with ⟨stop, qq⟩ | ⟨go, Nx, hNx, step⟩
    · have td := T.done (X.blk s3 H3 scope ce fp) rfl rfl rfl hc i [] s5 _ H5 (fun _ _ => False) I5 (stat I5 n5) st5 stop
      refine thnF td fun r s6 ⟨hr, I6⟩ => ?_
      subst hr
      have I7 : Inv X pins σ H5 s6 := I3.call' (ch := fp) I6.os I6.base I6.hok I6.bare fun b hb => ⟨(f3 b hb).1.2.2.2.1, (f3 b hb).1.2.1, (f3 b hb).1.2.2.2.2.1, (f3 b hb).1.2.2.2.2.2⟩
      have nC : H5 s3.heap.objs.size = none := by
        have z : H5 ce.locals = none := I6.free
        rw [cL] at z
        exact z
      obtain ⟨m, hn, _⟩ := I6.loc
      have hn : s6.heap.Ns ce.locals m := hn
      rw [cL] at hn
      exact hRR D s3.heap.objs.size s6 m H5 I7 qq hn (I3.fpOk (Nat.le_refl _) nC)
    · have ti := T.item (X.blk s3 H3 scope ce fp) rfl rfl rfl hc i [] s5 _ H5 (fun _ _ => False) I5 (stat I5 n5) st5 go
      refine thnF ti fun r s6 ⟨u, hr, h6⟩ => ?_
      subst hr
      refine thnF h6 fun _ s7 ⟨x, H7, I7, r7, y7, st7, n7⟩ => ?_
      have I7' := I7.pinned (stat I7 n7) (T.obj _ _ st7)
      refine thnF (pg.run _ s7 _ H7 x u _ I7' r7 (step x H7 y7)) fun _ s8 ⟨σ8, H8, I8, hw8, q8⟩ => ?_
      refine wpAny_tests_nil ?_
      show (if true = true then _ else _)
      rw [if_pos rfl]
      have fin : ∀ {s' : Shared} {H' : Hp}, Inv (X.blk s3 H3 scope ce fp) ([] ++ pinsAt fp s7.heap) σ8 H' s' → Nx H' → ∃ m, m < n ∧ ∃ i H', Inv (X.blk s3 H3 scope ce fp) [] (wipe σ (own.map (·.2))) H' s' ∧ tn i s'.heap ∧ (∀ b ∈ fp, H' b = none) ∧ W i m H' := fun {s' H'} I' nx => by
        obtain ⟨m', hm, w'⟩ := hNx H' nx
        have pin' : ∀ b ∈ fp, ∀ o, s7.heap.get? b = some o → s'.heap.get? b = some o ∧ H' b = none := fun b hb o e =>
          let z := I'.pin (b, o) (List.mem_append_right _ (List.mem_append_right _ (mem_pinsAt hb e)))
          ⟨z.1, z.2.1⟩
        have hl : (wipe σ (own.map (·.2))).length = σ8.length := by rw [← hw8, wipe_length]
        refine ⟨m', hm, i + 1, H', (I'.unpinned (pins := [])).weak hl (fun j v e => ?_), T.keep _ _ _ st7 fun b hb o e => (pin' b hb o e).1, fun b hb => ?_, w'⟩
        · rw [← hw8] at e
          exact (wipe_some e).1
        · obtain ⟨o, e, _⟩ := T.obj _ _ st7 b hb
          exact (pin' b hb o e).2
      refine thnF (pk.run _ s8 σ8 H8 _ I8 q8) fun z s10 ⟨yk, H10, I10, r10, q10⟩ => ?_
      refine thnF (pe.run _ s10 σ8 H10 _ I10 q10) fun z2 s11 ⟨yv, H11, I11, r11, xs, od, k, a, ek, rdy, nx⟩ => ?_
      subst ek
      cases r10
      exact dict_setX (X := X.blk s3 H3 scope ce fp) (A := X.A) hu I11 rdy fun od' s12 I12 => fin I12 (nx _ od' r11 (let ⟨⟨_, _, _, _, _, _, _, hn⟩, _⟩ := I11.hok D _ rdy.get; hn))
  exact codeAny_compStart_dict loop (T.self X.A 0 _ _ _ st4 loop)
theorem pe_dcX {kx vx tg iter : Expr} {scope : Scope} {own : List (Str × Nat)} {pos : Pos} {wi : TI} {g : TG} {tk tv : TE} (hu : X.A.units + 64 < cLine) (hc : X.calm = true) (hN : X.N.Nodup) (hi : PI X tg iter wi) (ok : BlkOk X.N X.env.scope scope own)
    (hg : ∀ (s : Shared) (H : Hp) (C : Addr) (cl : List (Str × Addr)) (fp : List Addr), PG (X.blk s H scope (compEnvC scope cl C X.env) fp) tg g)
    (hk : ∀ (s : Shared) (H : Hp) (C : Addr) (cl : List (Str × Addr)) (fp : List Addr), PE (X.blk s H scope (compEnvC scope cl C X.env) fp) kx tk)
    (he : ∀ (s : Shared) (H : Hp) (C : Addr) (cl : List (Str × Addr)) (fp : List Addr), PE (X.blk s H scope (compEnvC scope cl C X.env) fp) vx tv) (hs : ∀ x, foldedSetIterable iter X.env x = pure x) :
    PE X (.DictComp kx vx [⟨tg, iter, [], 0⟩] scope pos) (tDcX (rc X) wi g tk tv (own.map (·.2))) := by
  refine ⟨fun pins s σ H Q I h => ?_⟩
  rw [arm_eval_DictComp]
  refine dcx_core hu hc hN I hi ok hg hk he hs h fun D C s' m H' I' q hn f => ⟨m, hn, fun h'' sb => ?_⟩
  obtain ⟨f0, f1, f2, f3, f4, f5⟩ := f
  exact ⟨.ref D, H', I'.turned (t' := s'.toks) (fun b o hb e => (sb.2 b hb).trans e) f0 f1 f3 f4 f5, rfl, q⟩
end

def dcB (p : P) (ρ : Env) (fk fv : Env → List C → Res D) : D → List C → Res (D × D) := fun d M => match bindP p d (wipeE ρ (varsP p)) with
        | none => none
        | some ρ' => bndN (fk ρ' M) fun x M' => bndN (fv ρ' M') fun y M'' => some (.ok (x, y), M'')
def dcF (p : P) (fi : Env → List C → Res (List D × Option Nat)) (fk fv : Env → List C → Res D) : Env → List C → Res D := fun ρ M => bnd (fi ρ M) fun dg M1 =>
      bndN (dcLoop dg.2 M1 (dcB p ρ fk fv) dg.1 [] [] M1) fun kv M2 => if kv.1.length < SZ then some (.ok (.dic kv.1 kv.2), M2) else none
theorem dputK_len (ks : List D) (x : D) : ks.length ≤ (dputK ks x).length := by
  unfold dputK
  split
  · exact Nat.le_refl _
  · simp
theorem dcLoop_len {g : Option Nat} {M0 : List C} {body : D → List C → Res (D × D)} : ∀ {ds ks vs : List D} {M : List C} {out : List D × List D} {M' : List C}, dcLoop g M0 body ds ks vs M = some (.ok out, M') → ks.length ≤ out.1.length
  | [], ks, vs, M, out, M', h => by
    rw [dcLoop] at h
    split at h
    · cases h; exact Nat.le_refl _
    · cases h
  | d :: ds, ks, vs, M, out, M', h => by
    rw [dcLoop] at h
    split at h
    · obtain ⟨o, M1, _, h2⟩ := bndN_some h
      split at h2
      · have := dcLoop_len h2
        have := dputK_len ks o.1
        omega
      · cases h2
    · cases h
section
variable {R : Rc} {ψ φ φ1 : List Addr} {H H1 H' : Hp} {σ : L2.St} {ρ : Env}
structure DcSt (R : Rc) (ψ φ : List Addr) (H : Hp) (D : Addr) (ks ws : List Pv.D) (φ' : List Addr) (H' : Hp) (M : List C) : Prop where
  dic : ∃ xs od kv vv, H' D = some (dO R D xs od) ∧ Reps R (D :: ψ) φ' H' ks kv ∧ Reps R (D :: ψ) φ' H' ws vv ∧ EntOk ks kv vv xs
  cells : Cells R (D :: ψ) φ' H' M
  fr : Fr φ H φ' H'
theorem DcSt.init {M : List C} {D : Addr} (hc : Cells R ψ φ H M) (hD : H D = none) : DcSt R ψ φ H D [] [] φ (upd H D (dO R D [] od0)) M :=
  ⟨⟨[], od0, [], [], upd_same, .nil, .nil, ⟨rfl, by rw [nkeys]; rfl, (fun x m => nomatch m), .nil, Nat.zero_le _⟩⟩, hc.hide hD, .of_same (same_upd hD)⟩
theorem DcSt.notin {M : List C} {D : Addr} {ks ws : List Pv.D} {φ' : List Addr} (h : DcSt R ψ φ H D ks ws φ' H' M) : D ∉ φ' := fun m => h.cells.apart D m List.mem_cons_self
theorem DcSt.go {M M2 : List C} {D : Addr} {ks ws : List Pv.D} {φ' φ2 : List Addr} {H2 : Hp} (h : DcSt R ψ φ H D ks ws φ' H' M) (f : Fr φ' H' φ2 H2) (c : Cells R (D :: ψ) φ2 H2 M2) : DcSt R ψ φ H D ks ws φ2 H2 M2 := by
  obtain ⟨xs, od, kv, vv, h1, h2, h3, h4⟩ := h.dic
  exact ⟨⟨xs, od, kv, vv, f.keep _ _ h.notin h1, h2.mono f, h3.mono f, h4⟩, c, h.fr.trans f⟩
theorem DcSt.keep_to {M : List C} {D : Addr} {ks ws : List Pv.D} {φ' : List Addr} (h : DcSt R ψ φ H D ks ws φ' H' M) (hD : H D = none) : Keep ψ φ H (D :: ψ) φ' H' := .of (fun a m => by
    rcases List.mem_cons.mp m with rfl | m
    · exact .inr hD
    · exact .inl m) h.fr
theorem DcSt.done {M : List C} {D : Addr} {ks ws : List Pv.D} {φ' : List Addr} {W : WX} {Q : VK} {hn : D ∉ ψ} (hD : H D = none) (h : DcSt R ψ φ H D ks ws φ' H' M) (hp : PostN R W ψ φ H σ Q (.ok (.dic ks ws)) M) : Q (.ref D) H' := by
  obtain ⟨xs, od, kv, vv, h1, h2, h3, h4⟩ := h.dic
  have q := hp D (dO R D xs od) φ' (gone H' D) (h.fr.gone hD) (h.cells.gone hn) gone_self ⟨xs, od, kv, vv, rfl, h2.gen keep_gone, h3.gen keep_gone, h4⟩
  rw [upd_gone h1] at q
  exact q
/-- an entry is put -/
theorem ent_put' {ks vs : List Pv.D} {kv vv : List V} {xs : List Ent} {x d : Pv.D} {k : NestedKey} {w : V} {u : Value} {a : Addr} (h : EntOk ks kv vv xs) (hn : (xs.map (·.1)).Nodup) (rk : Reps R ψ φ H ks kv) (rv : Reps R ψ φ H vs vv)
    (e : nkey x = some k) (hk : k.depth ≤ 8 ∧ ∃ q, k = .tup q) (rx : Rep R ψ φ H x (.ref a)) (rd : Rep R ψ φ H d w) (ru : RelV w u) (hz : xs.length < sizeLine) :
    ∃ kv' vv', Reps R ψ φ H (dputK ks x) kv' ∧ Reps R ψ φ H (dputV ks vs x d) vv' ∧ EntOk (dputK ks x) kv' vv' (storedH xs k a u) := by
  obtain ⟨kv', vv', z1, z2, z3, z4, z5⟩ := ent_put h.nk hn h.kv rk rv h.vv e rx rd ru
  have hl := storedH_length xs k a u
  exact ⟨kv', vv', z1, z2, ⟨z3, z4, storedH_ok h.ok hk, z5, by omega⟩⟩
end
theorem dc_imp (R : Rc) (W : WX) {p : P} {fi : Env → List C → Res (List D × Option Nat)} {fk fv : Env → List C → Res D} : ∀ σ H Q, tN R W (dcF p fi fk fv) σ H Q → tDcX R (tW R W fi) (gP R.K p) (tD R W0 fk) (tD R W0 fv) (varsP p) σ H Q := fun σ H Q ⟨ψ, φ, ρ, M, o, M', hρ, hc, he, hp⟩ => by
  unfold dcF at he
  unfold tDcX
  rcases bnd_some he with ⟨dg, M1, e1, e2⟩ | ⟨x, M1, e1, e2⟩
  · obtain ⟨out, M2, e3, e4⟩ := bndN_some e2
    split at e4
    · rename_i hsz
      cases e4
      refine ⟨ψ, φ, ρ, M, _, _, hρ, hc, e1, fun φ1 H1 g hc1 J wk D hD => ?_⟩
      have hDψ : D ∉ ψ := (hc1.free hD).2
      refine ⟨fun i m H => m = dg.1.length - i ∧ i ≤ dg.1.length ∧ ∃ ks ws φ' Mx, DcSt R ψ φ1 H1 D ks ws φ' H Mx ∧ dcLoop dg.2 M1 (dcB p ρ fk fv) (dg.1.drop i) ks ws Mx = some (Except.ok out, M'), ⟨dg.1.length, by simp, Nat.zero_le _, [], [], φ1, M1, .init hc1 hD, e3⟩, ?_⟩
      rintro i m Hi ⟨rfl, hi, ks, ws, φ', Mi, st, el⟩
      by_cases hlt : i < dg.1.length
      · right
        have ed : dg.1.drop i = dg.1[i] :: dg.1.drop (i + 1) := List.drop_eq_getElem_cons hlt
        rw [ed, dcLoop] at el
        split at el
        · rename_i hs
          obtain ⟨r0, M3, b1, b2⟩ := bndN_some el
          split at b2
          · rename_i hko
            refine ⟨wk.go i (st.keep_to hD) st.cells hs hlt, fun H' => ∃ ks ws φ' Mx, DcSt R ψ φ1 H1 D ks ws φ' H' Mx ∧ dcLoop dg.2 M1 (dcB p ρ fk fv) (dg.1.drop (i + 1)) ks ws Mx = some (Except.ok out, M'), fun H' ⟨ks', ws', φ2, Mx, s', l'⟩ => ⟨dg.1.length - (i + 1), by omega, rfl, hlt, ks', ws', φ2, Mx, s', l'⟩, fun x Hy y => ?_⟩
            obtain ⟨d, hd, sm, rd⟩ := wk.yld i (st.keep_to hD) st.cells hs y hlt
            rw [List.getElem?_eq_getElem hlt] at hd
            cases hd
            have st1 : DcSt R ψ φ1 H1 D ks ws φ' Hy Mi := st.go (.of_same sm) (st.cells.same sm)
            unfold dcB at b1
            split at b1
            · cases b1
            · rename_i ρ' hb
              have hρw : EnvOk R (D :: ψ) φ' Hy (wipeE ρ (varsP p)) (wipe σ (varsP p)) := EnvOk.wipe (EnvOk.gen (st1.keep_to hD) (hρ.mono g)) _
              refine gP_ok p _ x _ ρ' _ _ hρw rd hb fun σ2 hρ2 hl2 ho2 => ⟨?_, ?_⟩
              · have w1 := wipe_eq (varsP p) hl2 ho2
                rw [w1]
                exact wipe_eq (varsP p) (by rw [wipe_length]) fun j hj => wipe_out hj
              · obtain ⟨kd, M4, c1, c2⟩ := bndN_some b1
                obtain ⟨vd, M5, c3, c4⟩ := bndN_some c2
                cases c4
                refine ⟨D :: ψ, φ', ρ', Mi, _, _, hρ2, st1.cells, c1, fun yk φ3 H3 f3 hc3 rk => ?_⟩
                have st3 := st1.go f3 hc3
                refine ⟨D :: ψ, φ3, ρ', M4, _, _, hρ2.mono f3, st3.cells, c3, fun yv φ5 H5 f5 hc5 rv => ?_⟩
                have st5 := st3.go f5 hc5
                obtain ⟨xs, od, kv, vv, q1, q2, q3, q4⟩ := st5.dic
                obtain ⟨nks, n1, n2, ds, rfl⟩ := keyKind_true (keyOk_true hko q4.nk q4.ok)
                have rk5 : Rep R (D :: ψ) φ5 H5 (.tup ds) yk := rk.mono f5
                have rk6 := rk5
                rw [Rep] at rk6
                obtain ⟨a, vs, rfl, _, _⟩ := rk6
                have hlen := dcLoop_len b2
                have hlen2 := dputK_len ks (.tup ds)
                have hxl := ent_len q4
                have hz : xs.length < sizeLine := by
                  rw [sizeLine_eq]
                  unfold SZ at hsz
                  have hlen : (dputK ks (.tup ds)).length ≤ out.1.length := hlen
                  omega
                refine ⟨xs, od, .tup nks, a, rfl, ⟨q1, ⟨n2, _, rfl⟩, hz, D :: ψ, φ5, ks, kv, vv, .tup ds, q2, q4, n1, rk5⟩, fun u od' ru hnd => ?_⟩
                obtain ⟨kv', vv', z1, z2, z3⟩ := ent_put' (u := u) q4 hnd q2 q3 n1 ⟨n2, _, rfl⟩ rk5 rv ru hz
                have m : D ∈ D :: ψ := List.mem_cons_self
                exact ⟨_, _, φ5, _, ⟨⟨_, od', kv', vv', upd_same, z1.gen (keep_poke m), z2.gen (keep_poke m), z3⟩, st5.cells.poke m, st5.fr.poke hD⟩, b2⟩
          · cases b2
        · cases el
      · left
        have ei : i = dg.1.length := by omega
        subst ei
        rw [List.drop_length, dcLoop] at el
        split at el
        · rename_i hs
          cases el
          refine ⟨wk.stop (st.keep_to hD) st.cells hs, ?_⟩
          exact DcSt.done (hn := hDψ) hD st (hp.mono g)
        · cases el
    · cases e4
  · cases e2
    exact ⟨ψ, φ, ρ, M, _, _, hρ, hc, e1, hp⟩
section
variable {X : Cx} {W : WX} {p : P} {fi : Env → List C → Res (List D × Option Nat)} {fk fv : Env → List C → Res D} {kx vx tg iter : Expr} {scope : Scope} {own : List (Str × Nat)} {pos : Pos}
theorem pv_dc (hu : X.A.units + 64 < cLine) (hc : X.calm = true) (hN : X.N.Nodup) (hi : PI X tg iter (tW (rc X) W fi)) (ok : BlkOk X.N X.env.scope scope own) (ho : own.map (·.2) = varsP p)
    (hg : ∀ (s : Shared) (H : Hp) (C : Addr) (cl : List (Str × Addr)) (fp : List Addr), PG (X.blk s H scope (compEnvC scope cl C X.env) fp) tg (gP X.K p))
    (hk : ∀ (s : Shared) (H : Hp) (C : Addr) (cl : List (Str × Addr)) (fp : List Addr), PE (X.blk s H scope (compEnvC scope cl C X.env) fp) kx (tD (rc X) W0 fk))
    (he : ∀ (s : Shared) (H : Hp) (C : Addr) (cl : List (Str × Addr)) (fp : List Addr), PE (X.blk s H scope (compEnvC scope cl C X.env) fp) vx (tD (rc X) W0 fv)) (hs : ∀ x, foldedSetIterable iter X.env x = pure x) :
    PE X (.DictComp kx vx [⟨tg, iter, [], 0⟩] scope pos) (tN (rc X) W (dcF p fi fk fv)) :=
  pe_mono (by have := pe_dcX (pos := pos) hu hc hN hi ok hg hk he hs; rw [ho] at this; exact this) (dc_imp (rc X) W)
end
end Pv

end T_PvD
section T_PvS
set_option maxRecDepth 100000
set_option maxHeartbeats 1000000
namespace Pv
open PySem PySem.Spec PyProof.Rows L2
/-! ### statements -/
def PostS (R : Rc) (W : WX) (ψ φ : List Addr) (H : Hp) (E : Ends) : Flow × List C → Prop
  | (.next ρ', M') => ∀ σ' φ' H', Fr φ H φ' H' → Cells R ψ φ' H' M' → EnvOk R ψ φ' H' ρ' σ' → E.nx σ' H'
  | (.ret d, M') => ∀ v φ' H', Fr φ H φ' H' → Cells R ψ φ' H' M' → Rep R ψ φ' H' d v → E.rt v H'
  | (.brk ρ', M') => ∀ σ' φ' H', Fr φ H φ' H' → Cells R ψ φ' H' M' → EnvOk R ψ φ' H' ρ' σ' → E.bk σ' H'
  | (.exc x ρ', M') => ∀ cls dx σ' φ' H', Fr φ H φ' H' → Cells R ψ φ' H' M' → EnvOk R ψ φ' H' ρ' σ' → ExnOk R ψ φ' H' x cls dx → W cls dx σ' H'
def tS (R : Rc) (W : WX) (f : Env → List C → SRes) : TS := fun E σ H => ∃ ψ φ ρ M r, EnvOk R ψ φ H ρ σ ∧ Cells R ψ φ H M ∧ f ρ M = some r ∧ PostS R W ψ φ H E r
section
variable {R : Rc} {W : WX} {ψ φ φ1 : List Addr} {ρ : Env} {σ : L2.St} {H H1 H' : Hp} {M M' M1 : List C} {E : Ends} {r : Flow × List C} {fa : Env → List C → Res D} {k : D → List C → SRes} {Q' : VK}
theorem PostS.mono (h : PostS R W ψ φ H E r) (g : Fr φ H φ1 H1) : PostS R W ψ φ1 H1 E r := by
  obtain ⟨f, M'⟩ := r
  cases f with
  | next ρ' => exact fun σ' φ' H' g' c e => h σ' φ' H' (g.trans g') c e
  | ret d => exact fun v φ' H' g' c e => h v φ' H' (g.trans g') c e
  | brk ρ' => exact fun σ' φ' H' g' c e => h σ' φ' H' (g.trans g') c e
  | exc x ρ' => exact fun cls dx σ' φ' H' g' c e z => h cls dx σ' φ' H' (g.trans g') c e z
theorem bndS_some {α : Type} {r : Res α} {ρ : Env} {k : α → List C → SRes} {z : Flow × List C} (h : bndS r ρ k = some z) : (∃ a M, r = some (.ok a, M) ∧ k a M = some z) ∨ ∃ x M, r = some (.error x, M) ∧ z = (.exc x ρ, M) := by
  rcases r with _ | ⟨_ | a, M⟩
  · cases h
  · exact .inr ⟨_, _, rfl, (Option.some.inj h).symm⟩
  · exact .inl ⟨_, _, rfl, h⟩
theorem tS_step (hρ : EnvOk R ψ φ H ρ σ) (hc : Cells R ψ φ H M) (he : bndS (fa ρ M) ρ k = some r) (hp : PostS R W ψ φ H E r)
    (hq : ∀ d x φ1 H1 M1, Fr φ H φ1 H1 → EnvOk R ψ φ1 H1 ρ σ → Cells R ψ φ1 H1 M1 → Rep R ψ φ1 H1 d x → k d M1 = some r → PostS R W ψ φ1 H1 E r → Q' x H1) : tD R W fa σ H Q' := by
  rcases bndS_some he with ⟨d, M1, e1, e2⟩ | ⟨x, M1, e1, e2⟩
  · exact ⟨ψ, φ, ρ, M, _, _, hρ, hc, e1, fun v φ' H' g c r => hq d v φ' H' M1 g (hρ.mono g) c r e2 (hp.mono g)⟩
  · subst e2
    exact ⟨ψ, φ, ρ, M, _, _, hρ, hc, e1, fun cls dx φ' H' g c z => hp cls dx σ φ' H' g c (hρ.mono g) z⟩
theorem tSA_step {fs : Env → List C → Res (List D)} {k : List D → List C → SRes} {Q' : List V → Hp → Prop} (hρ : EnvOk R ψ φ H ρ σ) (hc : Cells R ψ φ H M) (he : bndS (fs ρ M) ρ k = some r) (hp : PostS R W ψ φ H E r)
    (hq : ∀ d x φ1 H1 M1, Fr φ H φ1 H1 → EnvOk R ψ φ1 H1 ρ σ → Cells R ψ φ1 H1 M1 → Reps R ψ φ1 H1 d x → k d M1 = some r → PostS R W ψ φ1 H1 E r → Q' x H1) : tA R W fs σ H Q' := by
  rcases bndS_some he with ⟨d, M1, e1, e2⟩ | ⟨x, M1, e1, e2⟩
  · exact ⟨ψ, φ, ρ, M, _, _, hρ, hc, e1, fun φ' H' g c v r => hq d v φ' H' M1 g (hρ.mono g) c r e2 (hp.mono g)⟩
  · subst e2
    exact ⟨ψ, φ, ρ, M, _, _, hρ, hc, e1, fun cls dx φ' H' g c z => hp cls dx σ φ' H' g c (hρ.mono g) z⟩
theorem tST_step {fs : Env → List C → Res Bool} {k : Bool → List C → SRes} {Q' : Bool → Hp → Prop} (hρ : EnvOk R ψ φ H ρ σ) (hc : Cells R ψ φ H M) (he : bndS (fs ρ M) ρ k = some r) (hp : PostS R W ψ φ H E r)
    (hq : ∀ b φ1 H1 M1, Fr φ H φ1 H1 → EnvOk R ψ φ1 H1 ρ σ → Cells R ψ φ1 H1 M1 → k b M1 = some r → PostS R W ψ φ1 H1 E r → Q' b H1) : tT R W fs σ H Q' := by
  rcases bndS_some he with ⟨d, M1, e1, e2⟩ | ⟨x, M1, e1, e2⟩
  · exact ⟨ψ, φ, ρ, M, _, _, hρ, hc, e1, fun φ' H' g c => hq d φ' H' M1 g (hρ.mono g) c e2 (hp.mono g)⟩
  · subst e2
    exact ⟨ψ, φ, ρ, M, _, _, hρ, hc, e1, fun cls dx φ' H' g c z => hp cls dx σ φ' H' g c (hρ.mono g) z⟩
/-- a cell is written -/
theorem keep_cell {a : Addr} {u : HO} (m : a ∈ φ) : Keep ψ φ H ψ φ (upd H a u) := ⟨fun b o h1 h2 h3 => ⟨h1, h2, by rw [upd_ne (fun e => h2 (by rw [e]; exact m))]; exact h3⟩, fun _ _ h => h⟩
theorem Cells.write {a : Addr} {u : HO} {n : Nat} {c : C} (hc : Cells R ψ φ H M) (hn : φ[n]? = Option.some a) (h : CellOk R ψ φ (upd H a u) a c) : Cells R ψ φ (upd H a u) (M.set n c) ∧ Fr φ H φ (upd H a u) := by
  have m : a ∈ φ := List.mem_of_getElem? hn
  refine ⟨⟨by rw [List.length_set]; exact hc.len, hc.nd, hc.apart, fun b mb => ?_, fun i b x h1 h2 => ?_⟩, fun b o nb e => by rw [upd_ne (fun z => nb (by rw [z]; exact m))]; exact e, List.prefix_refl _, fun b mb => .inl mb⟩
  · obtain ⟨o, e⟩ := hc.hid b mb
    exact ⟨o, by rw [upd_ne (fun z => hc.apart a m (by rw [← z]; exact mb))]; exact e⟩
  · by_cases hi : n = i
    · subst hi
      rw [hn] at h1
      cases h1
      have hl : n < M.length := by rw [← hc.len]; exact (List.getElem?_eq_some_iff.mp hn).1
      rw [List.getElem?_set_self hl] at h2
      cases h2
      exact h
    · rw [List.getElem?_set_ne hi] at h2
      refine CellOk.gen (keep_cell m) (fun o e => ?_) (hc.ok i b x h1 h2)
      rw [upd_ne]
      · exact e
      · rintro rfl
        obtain ⟨hi1, e1⟩ := List.getElem?_eq_some_iff.mp hn
        obtain ⟨hi2, e2⟩ := List.getElem?_eq_some_iff.mp h1
        exact hi ((List.getElem_inj hc.nd).mp (e1.trans e2.symm))
end
section
variable {X : Cx} {W : WX} {ea eb ec : Expr} {fa fb fc : Env → List C → Res D} {pos p apos cpos : Pos} {Γ : Ctx} {es : List Expr} {fs : Env → List C → Res (List D)}
theorem ps_mono {st : Stmt} {t t' : TS} (h : PS X st t) (i : ∀ E σ H, t' E σ H → t E σ H) : PS X st t' := ⟨fun pins s σ H E I q => h.run pins s σ H E I (i E σ H q)⟩
theorem pss_mono {st : List Stmt} {t t' : TS} (h : PSs X st t) (i : ∀ E σ H, t' E σ H → t E σ H) : PSs X st t' := ⟨fun pins s σ H E I q => h.run pins s σ H E I (i E σ H q)⟩
def notComp : Expr → Bool
  | .ListComp _ _ _ _ => false
  | .SetComp _ _ _ _ => false
  | .DictComp _ _ _ _ _ => false
  | _ => true
theorem swaps_no {e : Expr} {t : Option Expr} {l : Nat} {env : PySem.Env} (h : notComp e = true) : swapsWith e t l env = pure false := by
  cases e <;> first | rfl | cases h
theorem pv_sexpr (hn : notComp ea = true) (ha : PE X ea (tD (rc X) W fa)) : PS X (.Expr ea pos) (tS (rc X) W fun ρ M => bndS (fa ρ M) ρ fun _ M1 => some (.next ρ, M1)) :=
  ps_mono (ps_expr ha (swaps_no hn)) fun E σ H ⟨ψ, φ, ρ, M, r, hρ, hc, he, hp⟩ => tS_step hρ hc he hp fun d x φ1 H1 M1 g hρ1 hc1 rd he1 hp1 => by
    cases he1
    exact hp1 σ φ1 H1 .refl hc1 hρ1
theorem pv_ret (ha : PE X ea (tD (rc X) W fa)) : PS X (.Return (some ea) pos) (tS (rc X) W fun ρ M => bndS (fa ρ M) ρ fun d M1 => some (.ret d, M1)) :=
  ps_mono (ps_ret ha) fun E σ H ⟨ψ, φ, ρ, M, r, hρ, hc, he, hp⟩ => tS_step hρ hc he hp fun d x φ1 H1 M1 g hρ1 hc1 rd he1 hp1 => by
    cases he1
    exact hp1 x φ1 H1 .refl hc1 rd
theorem pv_retN : PS X (.Return none pos) (tS (rc X) W fun ρ M => some (.ret .non, M)) :=
  ps_mono ps_retN fun E σ H ⟨ψ, φ, ρ, M, r, hρ, hc, he, hp⟩ => by
    cases he
    exact hp _ φ H .refl hc .mkNon
theorem pv_pass : PS X (.Pass pos) (tS (rc X) W fun ρ M => some (.next ρ, M)) :=
  ps_mono ps_pass fun E σ H ⟨ψ, φ, ρ, M, r, hρ, hc, he, hp⟩ => by
    cases he
    exact hp _ φ H .refl hc hρ
theorem pv_break : PS X (.Break pos) (tS (rc X) W fun ρ M => some (.brk ρ, M)) :=
  ps_mono ps_break fun E σ H ⟨ψ, φ, ρ, M, r, hρ, hc, he, hp⟩ => by
    cases he
    exact hp _ φ H .refl hc hρ
theorem pv_never {st : Stmt} : PS X st (tS (rc X) W fun _ _ => none) := ps_mono ps_never fun E σ H ⟨ψ, φ, ρ, M, r, hρ, hc, he, hp⟩ => by cases he
theorem pv_snil : PSs X [] (tS (rc X) W fun ρ M => some (.next ρ, M)) :=
  pss_mono pss_nil fun E σ H ⟨ψ, φ, ρ, M, r, hρ, hc, he, hp⟩ => by
    cases he
    exact hp _ φ H .refl hc hρ
theorem pv_scons {st : Stmt} {sts : List Stmt} {f g : Env → List C → SRes} (h1 : PS X st (tS (rc X) W f)) (h2 : PSs X sts (tS (rc X) W g)) : PSs X (st :: sts) (tS (rc X) W fun ρ M => seqS (f ρ M) fun ρ' M' => g ρ' M') :=
  pss_mono (pss_cons h1 h2) fun E σ H ⟨ψ, φ, ρ, M, r, hρ, hc, he, hp⟩ => by
    have he : seqS (f ρ M) (fun ρ' M' => g ρ' M') = some r := he
    cases e1 : f ρ M with
    | none => rw [e1] at he; cases he
    | some z =>
      rw [e1] at he
      obtain ⟨fl, M1⟩ := z
      cases fl with
      | next ρ1 => exact ⟨ψ, φ, ρ, M, _, hρ, hc, e1, fun σ' φ' H' g' c e => ⟨ψ, φ', ρ1, M1, r, e, c, he, hp.mono g'⟩⟩
      | ret d => cases he; exact ⟨ψ, φ, ρ, M, _, hρ, hc, e1, hp⟩
      | brk ρ1 => cases he; exact ⟨ψ, φ, ρ, M, _, hρ, hc, e1, hp⟩
      | exc x ρ1 => cases he; exact ⟨ψ, φ, ρ, M, _, hρ, hc, e1, hp⟩
theorem pv_if {a b : List Stmt} {f g : Env → List C → SRes} (hcc : PT X ec (tT (rc X) W (truF fc))) (ha : PSs X a (tS (rc X) W f)) (hb : PSs X b (tS (rc X) W g)) : PS X (.If ec a b pos) (tS (rc X) W fun ρ M => bndS (truF fc ρ M) ρ fun t M1 => if t then f ρ M1 else g ρ M1) :=
  ps_mono (ps_if hcc ha hb) fun E σ H ⟨ψ, φ, ρ, M, r, hρ, hc, he, hp⟩ => tST_step hρ hc he hp fun t φ1 H1 M1 g' hρ1 hc1 he1 hp1 => by
    cases t with
    | true => rw [if_pos rfl] at he1 ⊢; exact ⟨ψ, φ1, ρ, M1, r, hρ1, hc1, he1, hp1⟩
    | false => rw [if_neg (by decide)] at he1 ⊢; exact ⟨ψ, φ1, ρ, M1, r, hρ1, hc1, he1, hp1⟩
/-- a.append(e) -/
def appF (fa fb : Env → List C → Res D) : Env → List C → SRes := fun ρ M => bndS (fa ρ M) ρ fun x M1 => (match x with
    | .cell n => (match M1[n]? with
      | some (.lst _) => bndS (fb ρ M1) ρ fun d M2 => (match M2[n]? with
        | some (.lst xs) => if xs.length < SZ then some (.next ρ, M2.set n (.lst (xs ++ [d]))) else none
        | _ => none)
      | _ => none)
    | _ => none)
theorem pv_app (ha : PE X ea (tD (rc X) W fa)) (hb : PE X eb (tD (rc X) W fb)) (hbase : noBase ea = true) (hs : notStar eb = true) (hline : (apos.endLine == cpos.line) = true) : PS X (.Expr (.Call (.Attribute ea "append" apos) [eb] [] cpos) pos) (tS (rc X) W (appF fa fb)) :=
  ps_mono (ps_expr (pe_bm F.plainAttrs_list F.slot_list_append F.type_list_append mt_append ha (pa_cons hb pa_nil (star_cons hs)) (noBase_ok hbase) (by rw [star_cons hs]; rfl) hline (star_cons hs) rfl) rfl) fun E σ H ⟨ψ, φ, ρ, M, r, hρ, hc, he, hp⟩ => tS_step hρ hc he hp fun d x φ1 H1 M1 g hρ1 hc1 rd he1 hp1 => by
    split at he1
    · rename_i n
      split at he1
      · rename_i ys e1
        rw [Rep] at rd
        obtain ⟨a, rfl, ea'⟩ := rd
        obtain ⟨vs, k1, k2⟩ := hc1.ok n a _ ea' e1
        refine ⟨.inl ⟨rfl, vs, .of k1⟩, tS_step hρ1 hc1 he1 hp1 fun d y φ2 H2 M2 g2 hρ2 hc2 rd2 he2 hp2 => ?_⟩
        split at he2
        · rename_i xs e2
          split at he2
          · rename_i hl
            cases he2
            have ea2 : φ2[n]? = some a := g2.get ea'
            obtain ⟨vs2, k3, k4⟩ := hc2.ok n a _ ea2 e2
            have m : a ∈ φ2 := List.mem_of_getElem? ea2
            refine ⟨a, vs2, y, rfl, rfl, k3, ?_, ?_⟩
            · rw [k4.length, sizeLine_eq]
              exact hl
            · obtain ⟨w1, w2⟩ := hc2.write (u := .lst (vs2 ++ [y])) (c := .lst (xs ++ [d])) ea2 ⟨_, upd_same, (Reps.append k4 (.cons rd2 .nil)).gen (keep_cell m)⟩
              exact hp2 σ φ2 _ w2 w1 (hρ2.mono w2)
          · cases he2
        · cases he2
      · cases he1
    · cases he1
end
end Pv

end T_PvS
section T_PvG
set_option maxRecDepth 100000
set_option maxHeartbeats 1000000
namespace Pv
open PySem PySem.Spec PyProof.Rows L2
/-! ### targets of an assignment -/
def TgImp (R : Rc) (f : D → Env → List C → Res Env) (g : TG) : Prop := ∀ ψ φ ρ M σ H d v ρ' M' (Q : L2.St → Hp → Prop), EnvOk R ψ φ H ρ σ → Cells R ψ φ H M → Rep R ψ φ H d v → f d ρ M = some (.ok ρ', M') →
  (∀ σ' φ' H', Fr φ H φ' H' → Cells R ψ φ' H' M' → EnvOk R ψ φ' H' ρ' σ' → Q σ' H') → g v σ H Q
def TgsImp (R : Rc) (f : List D → Env → List C → Res Env) (g : TGs) : Prop := ∀ ψ φ ρ M σ H d v ρ' M' (Q : L2.St → Hp → Prop), EnvOk R ψ φ H ρ σ → Cells R ψ φ H M → Reps R ψ φ H d v → f d ρ M = some (.ok ρ', M') →
  (∀ σ' φ' H', Fr φ H φ' H' → Cells R ψ φ' H' M' → EnvOk R ψ φ' H' ρ' σ' → Q σ' H') → g v σ H Q
theorem asg_len {t : Expr} {ts : List Expr} {env : PySem.Env} (h : notStar t = true) : assignEach (t :: ts) env = (false, assign t env) :: assignEach ts env := by
  cases t <;> first | rfl | cases h
theorem asg_all : ∀ {ts : List Expr} {env : PySem.Env}, ts.all notStar = true → (assignEach ts env).length = ts.length ∧ (assignEach ts env).findIdx? (·.1) = none
  | [], _, _ => ⟨rfl, rfl⟩
  | t :: ts, env, h => by
    rw [List.all_cons, Bool.and_eq_true] at h
    rw [asg_len h.1]
    obtain ⟨h1, h2⟩ := @asg_all ts env h.2
    refine ⟨by simp [h1], ?_⟩
    rw [List.findIdx?_cons]
    simp [h2]
section
variable {X : Cx} {W : WX} {ea eb ec tg : Expr} {fa fb fc : Env → List C → Res D} {pos p apos cpos : Pos} {Γ : Ctx} {es ts : List Expr} {fs : Env → List C → Res (List D)}
theorem asgTs_len : ∀ (lts : List LT) (ds : List D) (ρ : Env) (M : List C) (z : Except D Env × List C), asgTs Γ lts ds ρ M = some z → ds.length = lts.length
  | [], [], _, _, _, _ => rfl
  | [], _ :: _, ρ, M, z, e => by rw [asgTs] at e; cases e; all_goals simp
  | _ :: _, [], ρ, M, z, e => by rw [asgTs] at e; cases e; all_goals simp
  | t :: lts, d :: ds, ρ, M, z, e => by
    rw [asgTs] at e
    obtain ⟨ρ1, M1, e1, e2⟩ := bndN_some e
    rw [List.length_cons, List.length_cons, asgTs_len lts ds ρ1 M1 z e2]
def TgOk (X : Cx) (tg : Expr) (f : D → Env → List C → Res Env) : Prop := ∃ g, PG X tg g ∧ TgImp (rc X) f g
def TgsOk (X : Cx) (ts : List Expr) (f : List D → Env → List C → Res Env) : Prop := ∃ g, PGs X ts g ∧ TgsImp (rc X) f g
theorem tg_var {i : Nat} {x : Str} (hN : X.N.Nodup) (hi : X.N[i]? = some x) (hx : Loc X.env.scope x) (hf : X.fn x = true ∨ X.env.scope.names.lookup x = some .local) : TgOk X (.Name x pos) (asgT Γ (.var i)) := by
  refine ⟨_, pg_name hN hi hx hf, fun ψ φ ρ M σ H d v ρ' M' Q hρ hc r e q => ?_⟩
  rw [asgT] at e
  split at e
  · cases e
    exact q _ φ H .refl hc (hρ.set r i)
  · cases e
theorem tgs_nil : TgsOk X [] (asgTs Γ []) := by
  refine ⟨_, pgs_nil, fun ψ φ ρ M σ H d v ρ' M' Q hρ hc r e q => ?_⟩
  cases d with
  | nil =>
    rw [asgTs] at e
    cases e
    exact ⟨r.nil_inv, q _ φ H .refl hc hρ⟩
  | cons _ _ => rw [asgTs] at e; cases e; all_goals simp
theorem tgs_cons {t : LT} {lts : List LT} (hs : notStar tg = true) (h1 : TgOk X tg (asgT Γ t)) (h2 : TgsOk X ts (asgTs Γ lts)) : TgsOk X (tg :: ts) (asgTs Γ (t :: lts)) := by
  obtain ⟨g, p1, i1⟩ := h1
  obtain ⟨gs, p2, i2⟩ := h2
  refine ⟨_, pgs_cons p1 p2 (by rw [asg_len hs]; rfl), fun ψ φ ρ M σ H d v ρ' M' Q hρ hc r e q => ?_⟩
  cases d with
  | nil => rw [asgTs] at e; cases e; all_goals simp
  | cons d ds =>
    rw [asgTs] at e
    obtain ⟨ρ1, M1, e1, e2⟩ := bndN_some e
    obtain ⟨x, xs, rfl, r1, r2⟩ := r.cons_inv
    refine ⟨x, xs, rfl, i1 ψ φ ρ M σ H d x ρ1 M1 _ hρ hc r1 e1 fun σ1 φ1 H1 f1 c1 hρ1 => ?_⟩
    exact i2 ψ φ1 ρ1 M1 σ1 H1 ds xs ρ' M' Q hρ1 c1 (r2.mono f1) e2 fun σ2 φ2 H2 f2 c2 hρ2 => q σ2 φ2 H2 (f1.trans f2) c2 hρ2
theorem tg_tup {k : Nat} {lts : List LT} (hc : X.calm = true) (hs : ts.all notStar = true) (hl : lts.length = ts.length) (h : TgsOk X ts (asgTs Γ lts)) : TgOk X (.Tuple ts k pos) (asgT Γ (.tup lts)) := by
  obtain ⟨g, p, i⟩ := h
  refine ⟨_, pg_tup hc p (n := ts.length) (asg_all hs).1 (asg_all hs).2, fun ψ φ ρ M σ H d v ρ' M' Q hρ hc r e q => ?_⟩
  cases d with
  | tup ds =>
    rw [asgT] at e
    rw [Rep] at r
    obtain ⟨a, vs, rfl, h1, h2⟩ := r
    refine ⟨a, vs, rfl, h1.seq, ?_, i ψ φ ρ M σ H ds vs ρ' M' Q hρ hc h2 e q⟩
    rw [h2.length, ← hl]
    exact asgTs_len lts ds ρ M _ e
  | _ => rw [asgT] at e <;> first | cases e | simp

/-- a place in a cell -/
def rSetC (R : Rc) : TSet := fun o i v H Q => ∃ ψ φ M n y d M3, Cells R ψ φ H M ∧ Rep R ψ φ H (.cell n) o ∧ Rep R ψ φ H y i ∧ Rep R ψ φ H d v ∧ storeC M n y d = some M3 ∧ ∀ H', Fr φ H φ H' → Cells R ψ φ H' M3 → Q H'
theorem set_C (hu : X.A.units + 64 < cLine) : PSet X (rSetC (rc X)) := by
  intro pins s σ H o i v ov iv u Q I ro ri rv ⟨ψ, φ, M, n, y, d, M3, hc, r1, r2, r3, e, q⟩
  unfold storeC at e
  rw [Rep] at r1
  obtain ⟨a, rfl, ea⟩ := r1
  have m : a ∈ φ := List.mem_of_getElem? ea
  split at e
  · rename_i xs j e1
    obtain ⟨k, hk, rfl⟩ := Option.map_eq_some_iff.mp e
    obtain ⟨vs, k1, k2⟩ := hc.ok n a _ ea e1
    have hi : i = .int j := r2.int
    subst hi
    refine set_list pins s σ H _ _ v ov iv u Q I ro ri rv ⟨a, vs, j, k, rfl, rfl, k1, by rw [k2.length]; exact hk, ?_⟩
    obtain ⟨w1, w2⟩ := hc.write (u := .lst (vs.set k v)) (c := .lst (xs.set k d)) ea ⟨_, upd_same, (Reps.set k k2 r3).gen (keep_cell m)⟩
    exact q _ w2 w1
  · rename_i ks ws e1
    split at e
    · rename_i hk
      cases e
      obtain ⟨xs, od, kv, vv, k1, k2, k3, k4⟩ := hc.ok n a _ ea e1
      obtain ⟨nks, n1, n2, ds, rfl⟩ := keyKind_true (keyOk_true hk.1 k4.nk k4.ok)
      have r2' := r2
      rw [Rep] at r2'
      obtain ⟨b, bs, rfl, _, _⟩ := r2'
      cases ro
      cases ri
      have hz : xs.length < sizeLine := by
        rw [ent_len k4, sizeLine_eq]
        exact hk.2
      have hnd : (xs.map (·.1)).Nodup := by
        obtain ⟨⟨_, _, _, _, _, _, _, hn⟩, _⟩ := I.hok a _ k1
        exact hn
      refine dict_putX hu I ⟨k1, ⟨n2, _, rfl⟩, hz, ψ, φ, ks, kv, vv, .tup ds, k2, k4, n1, r2⟩ fun od' s' J => ?_
      obtain ⟨kv', vv', z1, z2, z3⟩ := ent_put' (u := u) k4 hnd k2 k3 n1 ⟨n2, _, rfl⟩ r2 r3 rv hz
      obtain ⟨w1, w2⟩ := hc.write (u := dO (rc X) a (storedH xs (.tup nks) b u) od') (c := .dic (dputK ks (.tup ds)) (dputV ks ws (.tup ds) d)) ea ⟨_, od', kv', vv', upd_same, z1.gen (keep_cell m), z2.gen (keep_cell m), z3⟩
      exact ⟨_, J, q _ w2 w1⟩
    · cases e
  · cases e
theorem tg_ix {a i : E} (hu : X.A.units + 64 < cLine) (hx : plainIx eb = true) (ha : PE X ea (tD (rc X) W (evE Γ a))) (hb : PE X eb (tD (rc X) W (evE Γ i))) : TgOk X (.Subscript ea eb pos) (asgT Γ (.ix a i)) := by
  refine ⟨_, pg_sub ha hb (set_C hu) (fun v => by cases eb <;> first | rfl | cases hx), fun ψ φ ρ M σ H d v ρ' M' Q hρ hc r e q => ?_⟩
  rw [asgT] at e
  obtain ⟨x, M1, e1, e2⟩ := bndN_some e
  obtain ⟨y, M2, e3, e4⟩ := bndN_some e2
  refine ⟨ψ, φ, ρ, M, _, _, hρ, hc, e1, fun xv φ1 H1 f1 c1 rx => ?_⟩
  refine ⟨ψ, φ1, ρ, M1, _, _, hρ.mono f1, c1, e3, fun yv φ2 H2 f2 c2 ry => ?_⟩
  split at e4
  · rename_i n
    split at e4
    · rename_i M3 e5
      cases e4
      exact ⟨ψ, φ2, M2, n, y, d, _, c2, rx.mono f2, ry, Rep.mono (f1.trans f2) _ _ r, e5, fun H' f3 c3 => q σ φ2 H' ((f1.trans f2).trans f3) c3 (hρ.mono ((f1.trans f2).trans f3))⟩
    · cases e4
  · cases e4
def asgF (fa : Env → List C → Res D) (ft : D → Env → List C → Res Env) : Env → List C → SRes := fun ρ M => bndS (fa ρ M) ρ fun d M1 => nextS (ft d ρ M1)
theorem nextS_some {r : Res Env} {z : Flow × List C} (h : nextS r = some z) : ∃ ρ M, r = some (.ok ρ, M) ∧ z = (.next ρ, M) := by
  unfold nextS at h
  split at h
  · cases h; exact ⟨_, _, rfl, rfl⟩
  · cases h
theorem asg_imp {g : TG} {ft : D → Env → List C → Res Env} (i : TgImp (rc X) ft g) : ∀ E σ H, tS (rc X) W (asgF fa ft) E σ H → tAsg (tD (rc X) W fa) g E σ H := fun E σ H ⟨ψ, φ, ρ, M, r, hρ, hc, he, hp⟩ => tS_step hρ hc he hp fun d x φ1 H1 M1 f hρ1 hc1 rd he1 hp1 => by
    obtain ⟨ρ', M2, e1, e2⟩ := nextS_some he1
    subst e2
    exact i ψ φ1 ρ M1 σ H1 d x ρ' M2 _ hρ1 hc1 rd e1 hp1
theorem pv_asg {ft : D → Env → List C → Res Env} (ha : PE X ea (tD (rc X) W fa)) (ht : TgOk X tg ft) (hst : notStar tg = true) (hs : swapsWith ea (some tg) pos.line X.env = pure false) (hw : swappedStores [tg] ea X.env = pure none) : PS X (.Assign [tg] ea pos) (tS (rc X) W (asgF fa ft)) := by
  obtain ⟨g, p, i⟩ := ht
  exact ps_mono (ps_asg ha p hs hw (by rw [asg_len hst]; rfl)) (asg_imp i)
end
end Pv

end T_PvG
section T_PvH
set_option maxRecDepth 100000
set_option maxHeartbeats 1000000
namespace Pv
open PySem PySem.Spec PyProof.Rows L2
def isStar : Expr → Bool
  | .Starred .. => true
  | _ => false
def swNames (sc : Scope) (ts : List Expr) : List Str := ts.filterMap fun
    | .Name id pos => if sc.names.lookup id == some .local && pos.line == (ts.head?.map (·.pos.line)).getD 0 then some id else none
    | _ => none
/-- what is told of the stores of one tuple of targets by a display: none for what is not to be met -/
def swFull (sc : Scope) (ts vs : List Expr) : Option (Option (List Str)) :=
  if !(ts.length == 2 || ts.length == 3) || vs.length != ts.length then some none
  else if vs.any isStar then some none
  else if (swNames sc ts).length != ts.length || (swNames sc ts).eraseDups.length != (swNames sc ts).length then some none
  else if vs.all (foldedForSure 8) then some none
  else if vs.all (constantsAlone 8) then none
  else some (some (swNames sc ts))
theorem sw_full {env : PySem.Env} {ts vs : List Expr} {k k2 : Nat} {p p2 : Pos} {r : Option (List Str)} (hk : env.scope.kind = .function) (h : swFull env.scope ts vs = some r) :
    swappedStores [.Tuple ts k p] (.Tuple vs k2 p2) env = pure r := by
  have hb : env.blockKind = .function := by unfold Env.blockKind; rw [hk]; rfl
  have hb' : (env.blockKind != .function) = false := by rw [hb]; rfl
  unfold swFull at h
  unfold swappedStores
  simp only [hb', Bool.or_false]
  have e1 : (vs.any fun | .Starred .. => true | _ => false) = vs.any isStar := rfl
  have e2 : (ts.filterMap fun
    | .Name id pos => if env.kindOf id == some .local && pos.line == (ts.head?.map (·.pos.line)).getD 0 then some id else none
    | _ => none) = swNames env.scope ts := rfl
  split at h
  · rename_i c; cases h; simp only [c, if_true]
  · rename_i c
    simp only [c]
    refine (if_neg (by decide)).trans ?_
    split at h
    · rename_i c2; cases h
      exact if_pos c2
    · rename_i c2
      refine (if_neg c2).trans ?_
      split at h
      · rename_i c3; cases h
        exact if_pos c3
      · rename_i c3
        refine (if_neg c3).trans ?_
        split at h
        · rename_i c4; cases h
          exact if_pos c4
        · rename_i c4
          refine (if_neg c4).trans ?_
          split at h
          · cases h
          · rename_i c5; cases h
            exact if_neg c5
def isTupE : Expr → Bool
  | .Tuple _ _ _ => true
  | _ => false
def isSeqE : Expr → Bool
  | .Tuple _ _ _ => true
  | .List _ _ => true
  | _ => false
theorem sw_no1 {env : PySem.Env} {t v : Expr} (h : isTupE v = false) : swappedStores [t] v env = pure none := by
  cases v <;> first | (cases h; done) | (cases t <;> rfl)
theorem sw_no2 {env : PySem.Env} {t v : Expr} (h : isSeqE t = false) : swappedStores [t] v env = pure none := by
  cases t <;> first | (cases h; done) | (cases v <;> rfl)
/-- the scope of a comprehension -/
def compSc : Expr → Option Scope
  | .ListComp _ _ s _ => some s
  | .SetComp _ _ s _ => some s
  | .DictComp _ _ _ s _ => some s
  | _ => none
def swB (sc : Scope) (value : Expr) (y : Str) (py : Pos) : Bool := match compSc value with
  | none => false
  | some s => sc.names.lookup y == some .local && py.line == value.pos.line && !(s.names.any fun (n, k) => n == y && (k == .local || k == .cell))
theorem sw_comp {value : Expr} {env : PySem.Env} {y : Str} {py : Pos} {l : Nat} (hk : env.scope.kind = .function) : swapsWith value (some (.Name y py)) l env = pure (swB env.scope value y py) := by
  have hb : (env.blockKind == .function) = true := by
    have : env.blockKind = .function := by unfold Env.blockKind; rw [hk]; rfl
    rw [this]; rfl
  cases value <;> first
    | rfl
    | (unfold swapsWith swB compSc
       simp only [hb, Bool.true_and]
       rfl)
theorem sw_tg {value t : Expr} {env : PySem.Env} {l : Nat} (h : (match t with | .Name _ _ => false | _ => true) = true) : swapsWith value (some t) l env = pure false := by
  cases value <;> first | rfl | (cases t <;> first | rfl | cases h)
end Pv

end T_PvH
section T_PvN
set_option maxRecDepth 100000
set_option maxHeartbeats 1000000
namespace Pv
open PySem PySem.Spec PyProof.Rows L2
section
variable {R : Rc} {W : WX} {f : Env → List C → Res D}
theorem tD_tN : ∀ σ H Q, tD R W f σ H Q → tN R W f σ H Q := fun σ H Q ⟨ψ, φ, ρ, M, o, M', h1, h2, h3, h4⟩ => ⟨ψ, φ, ρ, M, o, M', h1, h2, h3, Post.new h4⟩
theorem tMk_tN : ∀ σ H Q, tD R W (mkF f) σ H Q → tN R W f σ H Q := fun σ H Q ⟨ψ, φ, ρ, M, o, M', h1, h2, h3, h4⟩ => by
  unfold mkF at h3
  rcases bnd_some h3 with ⟨d, M1, e1, e2⟩ | ⟨x, M1, e1, e2⟩
  · refine ⟨ψ, φ, ρ, M, _, _, h1, h2, e1, fun p u φ' H1 g c e r => ?_⟩
    split at e2
    · cases e2
      obtain ⟨g2, c2, r2⟩ := Cells.new (c := .lst _) c e r rfl
      exact h4 _ _ _ (g.trans g2) c2 r2
    · cases e2
      obtain ⟨g2, c2, r2⟩ := Cells.new (c := .dic _ _) c e r rfl
      exact h4 _ _ _ (g.trans g2) c2 r2
    · cases e2
  · cases e2
    exact ⟨ψ, φ, ρ, M, _, _, h1, h2, e1, h4⟩
end
/-- a statement name = e, e a new list or dict by f -/
def SetN (X : Cx) (W : WX) (st : Stmt) (i : Nat) (f : Env → List C → Res D) : Prop := ∃ te, PS X st (tAsg te (gName i)) ∧ ∀ σ H Q, tN (rc X) W f σ H Q → te σ H Q
section
variable {X : Cx} {W : WX} {Γ : Ctx} {st : Stmt} {i : Nat} {f : Env → List C → Res D} {spos : Pos} {y : Str} {py : Pos}
theorem var_imp : TgImp (rc X) (asgT Γ (.var i)) (gName i) := fun ψ φ ρ M σ H d v ρ' M' Q hρ hc r e q => by
  rw [asgT] at e
  split at e
  · cases e
    exact q _ φ H .refl hc (hρ.set r i)
  · cases e
theorem setN_val (h : SetN X W st i f) : PS X st (tS (rc X) W (asgF f (asgT Γ (.var i)))) := by
  obtain ⟨te, p, imp⟩ := h
  exact ps_mono p fun E σ H q => imp _ _ _ (tD_tN _ _ _ (asg_imp (var_imp (Γ := Γ)) E σ H q))
theorem setN_mk (h : SetN X W st i f) : PS X st (tS (rc X) W (asgF (mkF f) (asgT Γ (.var i)))) := by
  obtain ⟨te, p, imp⟩ := h
  exact ps_mono p fun E σ H q => imp _ _ _ (tMk_tN _ _ _ (asg_imp (var_imp (Γ := Γ)) E σ H q))
variable {p p2 : P} {fi fi2 : Env → List C → Res (List D × Option Nat)} {fcs : Env → List C → Res Bool} {fe fc fk fv : Env → List C → Res D} {elt tg iter tg1 iter1 c kx vx : Expr} {ifs : List Expr} {scope : Scope} {own : List (Str × Nat)} {pos : Pos}
theorem pv_setLc (hc : X.calm = true) (hN : X.N.Nodup) (hy : X.N[i]? = some y) (hyl : X.env.scope.names.lookup y = some .local) (hk : X.env.scope.kind = .function) (hsw : swB X.env.scope (.ListComp elt [⟨tg, iter, ifs, 0⟩] scope pos) y py = true)
    (hi : PI X tg iter (tW (rc X) W fi)) (ok : BlkOk X.N X.env.scope scope own) (ho : own.map (·.2) = varsP p)
    (hg : ∀ (s : Shared) (H : Hp) (C : Addr) (cl : List (Str × Addr)) (fp : List Addr), PG (X.blk s H scope (compEnvC scope cl C X.env) fp) tg (gP X.K p)) (ht : ∀ (s : Shared) (H : Hp) (C : Addr) (cl : List (Str × Addr)) (fp : List Addr), PTs (X.blk s H scope (compEnvC scope cl C X.env) fp) ifs (tT (rc X) W0 fcs))
    (he : ∀ (s : Shared) (H : Hp) (C : Addr) (cl : List (Str × Addr)) (fp : List Addr), PE (X.blk s H scope (compEnvC scope cl C X.env) fp) elt (tD (rc X) W0 fe)) (hs : ∀ x, foldedSetIterable iter X.env x = pure x) :
    SetN X W (.Assign [.Name y py] (.ListComp elt [⟨tg, iter, ifs, 0⟩] scope pos) spos) i (lcF p fi fcs fe) :=
  ⟨_, ps_setLc hc hN hy hyl (by rw [sw_comp hk, hsw]) hi ok hg ht he hs, by rw [ho]; exact lc_imp (rc X)⟩
theorem pv_setLc2 (hc : X.calm = true) (hN : X.N.Nodup) (hy : X.N[i]? = some y) (hyl : X.env.scope.names.lookup y = some .local) (hk : X.env.scope.kind = .function) (hsw : swB X.env.scope (.ListComp elt [⟨tg, iter, [], 0⟩, ⟨tg1, iter1, [], 0⟩] scope pos) y py = true)
    (hi : PI X tg iter (tW (rc X) W fi)) (ok : BlkOk X.N X.env.scope scope own) (ho : own.map (·.2) = varsP p ++ varsP p2)
    (hg : ∀ (s : Shared) (H : Hp) (C : Addr) (cl : List (Str × Addr)) (fp : List Addr), PG (X.blk s H scope (compEnvC scope cl C X.env) fp) tg (gP X.K p))
    (hi1 : ∀ (s : Shared) (H : Hp) (C : Addr) (cl : List (Str × Addr)) (fp : List Addr), PI (X.blk s H scope (compEnvC scope cl C X.env) fp) tg1 iter1 (tW (rc X) W0 fi2))
    (hg1 : ∀ (s : Shared) (H : Hp) (C : Addr) (cl : List (Str × Addr)) (fp : List Addr), PG (X.blk s H scope (compEnvC scope cl C X.env) fp) tg1 (gP X.K p2))
    (he : ∀ (s : Shared) (H : Hp) (C : Addr) (cl : List (Str × Addr)) (fp : List Addr), PE (X.blk s H scope (compEnvC scope cl C X.env) fp) elt (tD (rc X) W0 fe)) (hs : ∀ x, foldedSetIterable iter X.env x = pure x) (hs1 : ∀ env x, foldedSetIterable iter1 env x = pure x) :
    SetN X W (.Assign [.Name y py] (.ListComp elt [⟨tg, iter, [], 0⟩, ⟨tg1, iter1, [], 0⟩] scope pos) spos) i (lc2F p fi p2 fi2 fe) :=
  ⟨_, ps_setLc2 (vs1 := varsP p2) hc hN hy hyl (by rw [sw_comp hk, hsw]) hi ok (by rw [ho]; exact fun i m => List.mem_append_right _ m) hg (fun _ _ _ _ _ => pts_nil) hi1 hg1 (fun _ _ _ _ _ => pts_nil) he hs hs1, by rw [ho]; exact lc2_imp (rc X) W⟩
theorem ps_setDcX {wi : TI} {g : TG} {tk tv : TE} (hu : X.A.units + 64 < cLine) (hc : X.calm = true) (hN : X.N.Nodup) (hy : X.N[i]? = some y) (hyl : X.env.scope.names.lookup y = some .local)
    (hsw : swapsWith (.DictComp kx vx [⟨tg, iter, [], 0⟩] scope pos) (some (.Name y py)) spos.line X.env = pure true) (hi : PI X tg iter wi) (ok : BlkOk X.N X.env.scope scope own)
    (hg : ∀ (s : Shared) (H : Hp) (C : Addr) (cl : List (Str × Addr)) (fp : List Addr), PG (X.blk s H scope (compEnvC scope cl C X.env) fp) tg g)
    (hk : ∀ (s : Shared) (H : Hp) (C : Addr) (cl : List (Str × Addr)) (fp : List Addr), PE (X.blk s H scope (compEnvC scope cl C X.env) fp) kx tk)
    (he : ∀ (s : Shared) (H : Hp) (C : Addr) (cl : List (Str × Addr)) (fp : List Addr), PE (X.blk s H scope (compEnvC scope cl C X.env) fp) vx tv) (hs : ∀ x, foldedSetIterable iter X.env x = pure x) :
    PS X (.Assign [.Name y py] (.DictComp kx vx [⟨tg, iter, [], 0⟩] scope pos) spos) (tAsg (tDcX (rc X) wi g tk tv (own.map (·.2))) (gName i)) := by
  refine ⟨fun pins s σ H D I h => ?_⟩
  rw [exec_Assign_Name_used _ _ _ _ hsw]
  refine wpAny_bind (wpAny_standAt (wpAny_bind ?_))
  show wpAny _ X.A (do let _ ← comprehension (.DictComp kx vx [⟨tg, iter, [], 0⟩] scope pos) scope X.env (firstIterPos [⟨tg, iter, [], 0⟩] pos) newDict false (eval iter X.env) (some (assign (.Name y py) X.env))) _ _ s
  have h : tDcX (rc X) wi g tk tv (own.map (·.2)) σ H (fun x H1 => gName i x σ H1 D.nx) := h
  refine wpAny_bind (thn (dcx_core (Qf := fun _ s' => SP X pins D .next s') hu hc hN I hi ok hg hk he hs h fun L C s' m H' I' q hn f => ?_) fun _ s' hq => wpAny_pure (wpAny_pure hq))
  show wpAny _ _ (assign (.Name y py) X.env (.ref L)) _ _ _
  refine wpAny_assign_Name (store_ok2 (v := V.ref L) I' hN hy (.inl hyl) rfl (fun s2 I2 ⟨a, sb, ha⟩ => ?_) (.inr hyl))
  obtain ⟨f0, f1, f2, f3, f4, f5⟩ := f
  have haC : C ≠ a := by
    rcases ha with z | z
    · rw [z]; exact f1
    · exact fun e => f4 y a z e.symm
  refine ⟨m, hn.sameBut sb haC, fun h3 sb3 => ?_⟩
  exact ⟨_, H', I2.turned (t' := s2.toks) (fun b o hb e => (sb3.2 b hb).trans e) f0 f1 f3 f4 f5, q⟩
theorem pv_setDc (hu : X.A.units + 64 < cLine) (hc : X.calm = true) (hN : X.N.Nodup) (hy : X.N[i]? = some y) (hyl : X.env.scope.names.lookup y = some .local) (hk' : X.env.scope.kind = .function) (hsw : swB X.env.scope (.DictComp kx vx [⟨tg, iter, [], 0⟩] scope pos) y py = true)
    (hi : PI X tg iter (tW (rc X) W fi)) (ok : BlkOk X.N X.env.scope scope own) (ho : own.map (·.2) = varsP p)
    (hg : ∀ (s : Shared) (H : Hp) (C : Addr) (cl : List (Str × Addr)) (fp : List Addr), PG (X.blk s H scope (compEnvC scope cl C X.env) fp) tg (gP X.K p))
    (hk : ∀ (s : Shared) (H : Hp) (C : Addr) (cl : List (Str × Addr)) (fp : List Addr), PE (X.blk s H scope (compEnvC scope cl C X.env) fp) kx (tD (rc X) W0 fk))
    (he : ∀ (s : Shared) (H : Hp) (C : Addr) (cl : List (Str × Addr)) (fp : List Addr), PE (X.blk s H scope (compEnvC scope cl C X.env) fp) vx (tD (rc X) W0 fv)) (hs : ∀ x, foldedSetIterable iter X.env x = pure x) :
    SetN X W (.Assign [.Name y py] (.DictComp kx vx [⟨tg, iter, [], 0⟩] scope pos) spos) i (dcF p fi fk fv) :=
  ⟨_, ps_setDcX hu hc hN hy hyl (by rw [sw_comp hk', hsw]) hi ok hg hk he hs, by rw [ho]; exact dc_imp (rc X) W⟩
end
/-! ### a, b = x, y and a, b, c = x, y, z of plain names -/
section
variable {X : Cx} {W : WX} {Γ : Ctx} {i j k : Nat} {x y z : Str} {px py pz pt pt2 pos : Pos} {kt k2 : Nat} {es : List Expr} {fs : Env → List C → Res (List D)} {ea eb ec : Expr}
def tPar3 (i j k : Nat) (ta : TA) : TS := fun D σ H => ta σ H fun vs H1 => ∃ u v w, vs = [u, v, w] ∧ D.nx (((σ.set i (some u)).set j (some v)).set k (some w)) H1
theorem ps_par3 {ta : TA} (hc : X.calm = true) (hN : X.N.Nodup) (hi : X.N[i]? = some x) (hj : X.N[j]? = some y) (hk : X.N[k]? = some z) (hij : i ≠ j) (hik : i ≠ k) (hjk : j ≠ k)
    (hx : X.env.scope.names.lookup x = some .local) (hy : X.env.scope.names.lookup y = some .local) (hz : X.env.scope.names.lookup z = some .local) (ha : PA X [ea, eb, ec] ta)
    (hw : swappedStores [.Tuple [.Name x px, .Name y py, .Name z pz] kt pt] (.Tuple [ea, eb, ec] k2 pt2) X.env = pure (some [x, y, z]))
    (hs : swapsWithSole [.Tuple [.Name x px, .Name y py, .Name z pz] kt pt] (.Tuple [ea, eb, ec] k2 pt2) pos.line X.env = pure false) :
    PS X (.Assign [.Tuple [.Name x px, .Name y py, .Name z pz] kt pt] (.Tuple [ea, eb, ec] k2 pt2) pos) (tPar3 i j k ta) := by
  refine ⟨fun pins s σ H D I h => ?_⟩
  rw [exec_Assign_arm]
  refine wpAny_bind (wpAny_standAt ?_)
  rw [hs]
  refine wpAny_bind (wpAny_pure ?_)
  rw [if_neg (by decide)]
  refine wpAny_bind (Tuple_ (thn (ha.run _ pins s σ H _ I h) fun us s1 ⟨vs, H1, I1, r1, q1⟩ => ?_))
  obtain ⟨v1, v2, v3, e1, q1⟩ := q1
  subst e1
  obtain ⟨u1, u2, u3, rfl, r1, r2, r3⟩ : ∃ u1 u2 u3, us = [u1, u2, u3] ∧ RelV v1 u1 ∧ RelV v2 u2 ∧ RelV v3 u3 := by
    cases r1 with
    | cons p q =>
      cases q with
      | cons p' q' =>
        cases q' with
        | cons p2 q2 =>
          cases q2
          exact ⟨_, _, _, rfl, p, p', p2⟩
  refine wpAny_newObj_type ?_ (by show 3 ≤ sizeLine; decide)
  have I2 : Inv X pins σ H1 { s1 with heap := s1.heap.push { cls := .type "tuple", data := .seq [u1, u2, u3].toArray } } := I1.kept (t' := s1.toks) fun b o e => Heap.get?_push_of_some _ e
  rw [hw]
  refine wpAny_bind (wpAny_pure ?_)
  unfold assignStores
  dsimp only
  refine wpAny_bind (wpAny_rule (wpAny_bind (unpackItems_tuple (items := #[u1, u2, u3]) (I.ok.hd hc) (IsTup.new s1.heap _) fun h' hx' => ?_)))
  have I3 := I2.kept (h' := h') (t' := s1.toks) fun b o e => hx' b o (Nat.ne_of_lt (Heap.lt_size e)) e
  show wpAny _ _ (assignInOrder [fun v => bindName X.env z v, fun v => bindName X.env y v, fun v => bindName X.env x v] [u3, u2, u1] >>= fun _ => pure PySem.Flow.next) _ _ _
  refine wpAny_bind (assignInOrder_cons (wpAny_bindName (store_ok I3 hN hk (.inl hz) r3 (fun s2 I4 => ?_) (.inr hz))))
  refine assignInOrder_cons (wpAny_bindName (store_ok I4 hN hj (.inl hy) r2 (fun s3 I5 => ?_) (.inr hy)))
  refine assignInOrder_cons (wpAny_bindName (store_ok I5 hN hi (.inl hx) r1 (fun s4 I6 => assignInOrder_nil (wpAny_pure ?_)) (.inr hx)))
  have e : (((σ.set k (some v3)).set j (some v2)).set i (some v1)) = (((σ.set i (some v1)).set j (some v2)).set k (some v3)) := by
    rw [List.set_comm _ _ (Ne.symm hjk), List.set_comm _ _ (Ne.symm hik), List.set_comm _ _ (Ne.symm hij)]
  rw [e] at I6
  exact ⟨_, H1, I6, q1⟩
theorem par_imp (hij : i ≠ j) : ∀ E σ H, tS (rc X) W (asgF (tupF fs) (asgT Γ (.tup [.var i, .var j]))) E σ H → tPar i j (tA (rc X) W fs) E σ H := fun E σ H ⟨ψ, φ, ρ, M, r, hρ, hc, he, hp⟩ => by
  have he' : bndS (fs ρ M) ρ (fun ds M1 => nextS (asgTs Γ [.var i, .var j] ds ρ M1)) = some r := by
    unfold asgF tupF at he
    rcases bndS_some he with ⟨d, M1, e1, e2⟩ | ⟨d, M1, e1, e2⟩
    · rcases bnd_some e1 with ⟨ds, M2, q1, q2⟩ | ⟨ds, M2, q1, q2⟩
      · cases q2
        rw [q1]
        simpa [asgT] using e2
      · cases q2
    · rcases bnd_some e1 with ⟨ds, M2, q1, q2⟩ | ⟨ds, M2, q1, q2⟩
      · cases q2
      · cases q2
        rw [q1]
        exact congrArg some e2.symm
  exact tSA_step hρ hc he' hp fun ds vs φ1 H1 M1 g hρ1 hc1 rd he1 hp1 => by
    obtain ⟨ρ', M2, e1, e2⟩ := nextS_some he1
    subst e2
    have hl := asgTs_len _ ds _ _ _ e1
    match ds, hl, rd, e1 with
    | [d1, d2], _, rd, e1 =>
      obtain ⟨v, rs, rfl, r1, r2⟩ := rd.cons_inv
      obtain ⟨v', rs', rfl, r3, r4⟩ := r2.cons_inv
      rw [r4.nil_inv]
      rw [asgTs, asgT] at e1
      split at e1
      · rw [bndN_ok, asgTs, asgT] at e1
        split at e1
        · rw [bndN_ok, asgTs] at e1
          cases e1
          exact ⟨v, v', rfl, hp1 _ φ1 H1 .refl hc1 ((hρ1.set r1 i).set r3 j)⟩
        · cases e1
      · cases e1
theorem par3_imp : ∀ E σ H, tS (rc X) W (asgF (tupF fs) (asgT Γ (.tup [.var i, .var j, .var k]))) E σ H → tPar3 i j k (tA (rc X) W fs) E σ H := fun E σ H ⟨ψ, φ, ρ, M, r, hρ, hc, he, hp⟩ => by
  have he' : bndS (fs ρ M) ρ (fun ds M1 => nextS (asgTs Γ [.var i, .var j, .var k] ds ρ M1)) = some r := by
    unfold asgF tupF at he
    rcases bndS_some he with ⟨d, M1, e1, e2⟩ | ⟨d, M1, e1, e2⟩
    · rcases bnd_some e1 with ⟨ds, M2, q1, q2⟩ | ⟨ds, M2, q1, q2⟩
      · cases q2
        rw [q1]
        simpa [asgT] using e2
      · cases q2
    · rcases bnd_some e1 with ⟨ds, M2, q1, q2⟩ | ⟨ds, M2, q1, q2⟩
      · cases q2
      · cases q2
        rw [q1]
        exact congrArg some e2.symm
  exact tSA_step hρ hc he' hp fun ds vs φ1 H1 M1 g hρ1 hc1 rd he1 hp1 => by
    obtain ⟨ρ', M2, e1, e2⟩ := nextS_some he1
    subst e2
    have hl := asgTs_len _ ds _ _ _ e1
    match ds, hl, rd, e1 with
    | [d1, d2, d3], _, rd, e1 =>
      obtain ⟨v, rs, rfl, r1, r2⟩ := rd.cons_inv
      obtain ⟨v', rs', rfl, r3, r4⟩ := r2.cons_inv
      obtain ⟨v2, rs2, rfl, r5, r6⟩ := r4.cons_inv
      rw [r6.nil_inv]
      rw [asgTs, asgT] at e1
      split at e1
      · rw [bndN_ok, asgTs, asgT] at e1
        split at e1
        · rw [bndN_ok, asgTs, asgT] at e1
          split at e1
          · rw [bndN_ok, asgTs] at e1
            cases e1
            exact ⟨v, v', v2, rfl, hp1 _ φ1 H1 .refl hc1 (((hρ1.set r1 i).set r3 j).set r5 k)⟩
          · cases e1
        · cases e1
      · cases e1
end
end Pv

end T_PvN
section T_PvF
set_option maxRecDepth 100000
set_option maxHeartbeats 1000000
namespace Pv
open PySem PySem.Spec PyProof.Rows L2
section
variable {X : Cx} {W : WX} {Γ : Ctx} {i j k : Nat} {x y z : Str} {px py pz pt pt2 pos : Pos} {kt k2 : Nat} {es : List Expr} {fs : Env → List C → Res (List D)} {ea eb ec : Expr}
theorem pv_par2 (hc : X.calm = true) (hN : X.N.Nodup) (hk : X.env.scope.kind = .function) (hi : X.N[i]? = some x) (hj : X.N[j]? = some y) (hij : i ≠ j)
    (hx : X.env.scope.names.lookup x = some .local) (hy : X.env.scope.names.lookup y = some .local) (ha : PA X [ea, eb] (tA (rc X) W fs))
    (hw : swFull X.env.scope [.Name x px, .Name y py] [ea, eb] = some (some [x, y])) :
    PS X (.Assign [.Tuple [.Name x px, .Name y py] kt pt] (.Tuple [ea, eb] k2 pt2) pos) (tS (rc X) W (asgF (tupF fs) (asgT Γ (.tup [.var i, .var j])))) :=
  ps_mono (ps_par hc hN hi hj hij hx hy ha (sw_full hk hw) rfl) (par_imp hij)
theorem pv_par3 (hc : X.calm = true) (hN : X.N.Nodup) (hk' : X.env.scope.kind = .function) (hi : X.N[i]? = some x) (hj : X.N[j]? = some y) (hk : X.N[k]? = some z) (hij : i ≠ j) (hik : i ≠ k) (hjk : j ≠ k)
    (hx : X.env.scope.names.lookup x = some .local) (hy : X.env.scope.names.lookup y = some .local) (hz : X.env.scope.names.lookup z = some .local) (ha : PA X [ea, eb, ec] (tA (rc X) W fs))
    (hw : swFull X.env.scope [.Name x px, .Name y py, .Name z pz] [ea, eb, ec] = some (some [x, y, z])) :
    PS X (.Assign [.Tuple [.Name x px, .Name y py, .Name z pz] kt pt] (.Tuple [ea, eb, ec] k2 pt2) pos) (tS (rc X) W (asgF (tupF fs) (asgT Γ (.tup [.var i, .var j, .var k])))) :=
  ps_mono (ps_par3 hc hN hi hj hk hij hik hjk hx hy hz ha (sw_full hk' hw) rfl) par3_imp
end
/-! ### loops -/
theorem turnS_some {r : SRes} {k : Env → List C → SRes} {z : Flow × List C} (h : turnS r k = some z) : (∃ ρ M, r = some (.next ρ, M) ∧ k ρ M = some z) ∨ (∃ ρ M, r = some (.brk ρ, M) ∧ z = (.next ρ, M)) ∨ (∃ d M, r = some (.ret d, M) ∧ z = (.ret d, M)) ∨ ∃ x ρ M, r = some (.exc x ρ, M) ∧ z = (.exc x ρ, M) := by
  unfold turnS at h
  split at h
  · exact .inl ⟨_, _, rfl, h⟩
  · cases h; exact .inr (.inl ⟨_, _, rfl, rfl⟩)
  · rename_i r' h1 h2
    obtain ⟨fl, M⟩ := z
    cases fl with
    | next ρ => exact absurd h (h1 _ _)
    | brk ρ => exact absurd h (h2 _ _)
    | ret d => exact .inr (.inr (.inl ⟨_, _, h, rfl⟩))
    | exc x ρ => exact .inr (.inr (.inr ⟨_, _, _, h, rfl⟩))
section
variable {X : Cx} {W : WX} {Γ : Ctx} {tg iter ec : Expr} {p : P} {fi : Env → List C → Res (List D × Option Nat)} {fb : Env → List C → SRes} {fc : Env → List C → Res D} {pos : Pos} {body : List Stmt}
def forF (p : P) (fi : Env → List C → Res (List D × Option Nat)) (fb : Env → List C → SRes) : Env → List C → SRes := fun ρ M => bndS (fi ρ M) ρ fun dg M1 => forLoop dg.2 M1 p fb dg.1 ρ M1
theorem for_imp (R : Rc) : ∀ E σ H, tS R W (forF p fi fb) E σ H → tFor (tW R W fi) (gP R.K p) (tS R W fb) E σ H := fun E σ H ⟨ψ, φ, ρ, M, r, hρ, hc, he, hp⟩ => by
  unfold forF at he
  unfold tFor
  rcases bndS_some he with ⟨dg, M1, e1, e2⟩ | ⟨x, M1, e1, e2⟩
  · refine ⟨ψ, φ, ρ, M, _, _, hρ, hc, e1, fun φ1 H1 g hc1 J wk => ?_⟩
    have hp1 := hp.mono g
    refine ⟨fun i m σ H => m = dg.1.length - i ∧ i ≤ dg.1.length ∧ ∃ φ' ρ' Mx, EnvOk R ψ φ' H ρ' σ ∧ Cells R ψ φ' H Mx ∧ Fr φ1 H1 φ' H ∧ forLoop dg.2 M1 p fb (dg.1.drop i) ρ' Mx = some r, ⟨dg.1.length, by simp, Nat.zero_le _, φ1, ρ, M1, hρ.mono g, hc1, .refl, e2⟩, ?_⟩
    rintro i m σi Hi ⟨rfl, hi, φ', ρi, Mi, hρi, hci, fi', el⟩
    by_cases hlt : i < dg.1.length
    · right
      have ed : dg.1.drop i = dg.1[i] :: dg.1.drop (i + 1) := List.drop_eq_getElem_cons hlt
      rw [ed, forLoop] at el
      split at el
      · rename_i hs
        refine ⟨wk.go i (.fr fi') hci hs hlt, fun σ H => ∃ φ' ρ' Mx, EnvOk R ψ φ' H ρ' σ ∧ Cells R ψ φ' H Mx ∧ Fr φ1 H1 φ' H ∧ forLoop dg.2 M1 p fb (dg.1.drop (i + 1)) ρ' Mx = some r, fun σ' H' ⟨φ2, ρ2, Mx, z1, z2, z3, z4⟩ => ⟨dg.1.length - (i + 1), by omega, rfl, hlt, φ2, ρ2, Mx, z1, z2, z3, z4⟩, fun x Hy y => ?_⟩
        obtain ⟨d, hd, sm, rd⟩ := wk.yld i (.fr fi') hci hs y hlt
        rw [List.getElem?_eq_getElem hlt] at hd
        cases hd
        have fy : Fr φ' Hi φ' Hy := .of_same sm
        split at el
        · cases el
        · rename_i ρ2 hb
          refine gP_ok p _ x _ ρ2 _ _ (hρi.mono fy) rd hb fun σ2 hρ2 _ _ => ?_
          rcases turnS_some el with ⟨ρ3, M3, q1, q2⟩ | ⟨ρ3, M3, q1, q2⟩ | ⟨d3, M3, q1, q2⟩ | ⟨x3, ρ3, M3, q1, q2⟩
          · exact ⟨ψ, φ', ρ2, Mi, _, hρ2, hci.same sm, q1, fun σ' φ3 H3 f3 c3 h3 => ⟨φ3, ρ3, M3, h3, c3, (fi'.trans fy).trans f3, q2⟩⟩
          · subst q2
            exact ⟨ψ, φ', ρ2, Mi, _, hρ2, hci.same sm, q1, fun σ' φ3 H3 f3 c3 h3 => hp1 σ' φ3 H3 ((fi'.trans fy).trans f3) c3 h3⟩
          · subst q2
            exact ⟨ψ, φ', ρ2, Mi, _, hρ2, hci.same sm, q1, fun v φ3 H3 f3 c3 h3 => hp1 v φ3 H3 ((fi'.trans fy).trans f3) c3 h3⟩
          · subst q2
            exact ⟨ψ, φ', ρ2, Mi, _, hρ2, hci.same sm, q1, fun cls dx σ' φ3 H3 f3 c3 h3 z => hp1 cls dx σ' φ3 H3 ((fi'.trans fy).trans f3) c3 h3 z⟩
      · cases el
    · left
      have ei : i = dg.1.length := by omega
      subst ei
      rw [List.drop_length, forLoop] at el
      split at el
      · rename_i hs
        cases el
        exact ⟨wk.stop (.fr fi') hci hs, hp1 σi φ' Hi fi' hci hρi⟩
      · cases el
  · subst e2
    exact ⟨ψ, φ, ρ, M, _, _, hρ, hc, e1, fun cls dx φ' H' g c z => hp cls dx σ φ' H' g c (hρ.mono g) z⟩
theorem pv_for (hpo : PassesOwn (model X.prog X.w) X.A X.env X.xe) (hc : X.calm = true) (hi : PI X tg iter (tW (rc X) W fi)) (hg : PG X tg (gP X.K p)) (hb : PSs X body (tS (rc X) W fb)) (hs : ∀ x, foldedSetIterable iter X.env x = pure x) :
    PS X (.For tg iter body [] pos) (tS (rc X) W (forF p fi fb)) := ps_mono (ps_for hpo hc hi hg hb hs) (for_imp (rc X))
def whlF (fc : Env → List C → Res D) (fb : Env → List C → SRes) : Env → List C → SRes := fun ρ M => whileLoop (truF fc) fb WF ρ M
theorem while_imp (R : Rc) : ∀ E σ H, tS R W (whlF fc fb) E σ H → tWhile (tT R W (truF fc)) (tS R W fb) E σ H := fun E σ H ⟨ψ, φ, ρ, M, r, hρ, hc, he, hp⟩ => by
  unfold whlF at he
  refine ⟨fun m σ H1 => ∃ φ' ρ' Mx, EnvOk R ψ φ' H1 ρ' σ ∧ Cells R ψ φ' H1 Mx ∧ Fr φ H φ' H1 ∧ whileLoop (truF fc) fb m ρ' Mx = some r, ⟨WF, φ, ρ, M, hρ, hc, .refl, he⟩, ?_⟩
  rintro m σi Hi ⟨φ', ρi, Mi, hρi, hci, fi', el⟩
  cases m with
  | zero => rw [whileLoop] at el; cases el
  | succ m =>
    rw [whileLoop] at el
    refine tST_step hρi hci el (hp.mono fi') fun b φ1 H1 M1 g hρ1 hc1 he1 hp1 => ?_
    cases b with
    | false =>
      rw [if_neg (by decide)] at he1 ⊢
      cases he1
      exact hp1 σi φ1 H1 .refl hc1 hρ1
    | true =>
      rw [if_pos rfl] at he1 ⊢
      refine ⟨fun σ H1 => ∃ φ' ρ' Mx, EnvOk R ψ φ' H1 ρ' σ ∧ Cells R ψ φ' H1 Mx ∧ Fr φ H φ' H1 ∧ whileLoop (truF fc) fb m ρ' Mx = some r, fun σ' H' h' => ⟨m, Nat.lt_succ_self m, h'⟩, ?_⟩
      rcases turnS_some he1 with ⟨ρ3, M3, q1, q2⟩ | ⟨ρ3, M3, q1, q2⟩ | ⟨d3, M3, q1, q2⟩ | ⟨x3, ρ3, M3, q1, q2⟩
      · exact ⟨ψ, φ1, ρi, M1, _, hρ1, hc1, q1, fun σ' φ3 H3 f3 c3 h3 => ⟨φ3, ρ3, M3, h3, c3, (fi'.trans g).trans f3, q2⟩⟩
      · subst q2
        exact ⟨ψ, φ1, ρi, M1, _, hρ1, hc1, q1, fun σ' φ3 H3 f3 c3 h3 => hp1 σ' φ3 H3 f3 c3 h3⟩
      · subst q2
        exact ⟨ψ, φ1, ρi, M1, _, hρ1, hc1, q1, fun v φ3 H3 f3 c3 h3 => hp1 v φ3 H3 f3 c3 h3⟩
      · subst q2
        exact ⟨ψ, φ1, ρi, M1, _, hρ1, hc1, q1, fun cls dx σ' φ3 H3 f3 c3 h3 z => hp1 cls dx σ' φ3 H3 f3 c3 h3 z⟩
theorem pv_while (hpo : PassesOwn (model X.prog X.w) X.A X.env X.xe) (hcc : PT X ec (tT (rc X) W (truF fc))) (hb : PSs X body (tS (rc X) W fb)) : PS X (.While ec body [] pos) (tS (rc X) W (whlF fc fb)) := ps_mono (ps_while hpo hcc hb) (while_imp (rc X))
end
end Pv

end T_PvF
section T_PvCa
set_option maxRecDepth 100000
set_option maxHeartbeats 2000000
/-! itertools.combinations of a tuple -/
namespace PvCo
open PySem PySem.Spec
open Sem (wp)
theorem mro_co : mroOf (.type "itertools.combinations") = pure [.type "itertools.combinations", .type "object"] := by rw [mroOf_type]; kernel_rfl
theorem lookup_co_new : typeLookup (.type "itertools.combinations") "__new__" = pure (some (.builtin "itertools.combinations.__new__")) := by rw [typeLookup_type, builtinLookup_eq_fast]; kernel_rfl
theorem sub_co : isSubtype (.type "itertools.combinations") (.type "itertools.combinations") = pure true := by rw [isSubtype_type]; kernel_rfl
theorem slot_co_init : Slot "itertools.combinations" "__init__" "object.__init__" :=
  .of (owner := "object") (n := "__init__") (by rw [typeLookup_type, builtinLookup_eq_fast]; kernel_rfl) (by decide +kernel) (by decide +kernel) (by decide +kernel)
    (by first | exact .inl (by decide +kernel) | exact .inr (by decide +kernel)) (by rw [isSubtype_type]; kernel_rfl)
theorem called_co : TypeCalled "itertools.combinations" "itertools.combinations.__new__" "object.__init__" :=
  ⟨by decide +kernel, by decide +kernel, ⟨_, _, mro_co⟩, madeBy_type mro_co lookup_co_new (by decide +kernel), by decide +kernel, sub_co, slot_co_init⟩
theorem typeCall_co_2 (a b : Value) : checkTypeCall "itertools.combinations" ⟨[a, b], []⟩ = pure () := by kernel_rfl
theorem newCall_co_2 (a b : Value) : checkBuiltinCall "itertools.combinations.__new__" ⟨[.type "itertools.combinations", a, b], []⟩ = pure () := by kernel_rfl
theorem entry_co_new : entryFor table "itertools.combinations.__new__" = some Builtin.«itertools.combinations.__new__» := entryFor_of_tree (by kernel_rfl)
theorem slot_co_iter : Slot "itertools.combinations" "__iter__" "itertools.combinations.__iter__" :=
  .of (owner := "itertools.combinations") (n := "__iter__") (by rw [typeLookup_type, builtinLookup_eq_fast]; kernel_rfl) (by decide +kernel) (by decide +kernel) (by decide +kernel)
    (by first | exact .inl (by decide +kernel) | exact .inr (by decide +kernel)) sub_co
theorem slot_co_next : Slot "itertools.combinations" "__next__" "itertools.combinations.__next__" :=
  .of (owner := "itertools.combinations") (n := "__next__") (by rw [typeLookup_type, builtinLookup_eq_fast]; kernel_rfl) (by decide +kernel) (by decide +kernel) (by decide +kernel)
    (by first | exact .inl (by decide +kernel) | exact .inr (by decide +kernel)) sub_co
theorem entry_co_iter : entryFor table "itertools.combinations.__iter__" = some Builtin.«dict_keyiterator.__iter__» :=
  entryFor_alias (id' := "dict_keyiterator.__iter__") (by kernel_rfl) (by first | rfl | decide +kernel | (unfold String.splitOn; simp +decide [String.splitOnAux])) (by decide +kernel) (by kernel_rfl)
theorem entry_co_next : entryFor table "itertools.combinations.__next__" = some Builtin.«itertools.combinations.__next__» := entryFor_of_tree (by kernel_rfl)
theorem owner_co : Manifest.owners.lookup (String.ofList ['s', 'n', 'o', 'i', 't', 'a', 'n', 'i', 'b', 'm', 'o', 'c', '.', 's', 'l', 'o', 'o', 't', 'r', 'e', 't', 'i'].reverse) = some Manifest.sig_itertools_combinations := by kernel_rfl
theorem args_co_iter (a : Value) : argsOk "itertools.combinations.__iter__" ⟨[a], []⟩ := by
  unfold argsOk; rw [signature?_of (id := "itertools.combinations.__iter__") (n := ['_', '_', 'r', 'e', 't', 'i', '_', '_']) (o := ['s', 'n', 'o', 'i', 't', 'a', 'n', 'i', 'b', 'm', 'o', 'c', '.', 's', 'l', 'o', 'o', 't', 'r', 'e', 't', 'i']) (by kernel_rfl) owner_co]; kernel_rfl
theorem args_co_next (a : Value) : argsOk "itertools.combinations.__next__" ⟨[a], []⟩ := by
  unfold argsOk; rw [signature?_of (id := "itertools.combinations.__next__") (n := ['_', '_', 't', 'x', 'e', 'n', '_', '_']) (o := ['s', 'n', 'o', 'i', 't', 'a', 'n', 'i', 'b', 'm', 'o', 'c', '.', 's', 'l', 'o', 'o', 't', 'r', 'e', 't', 'i']) (by kernel_rfl) owner_co]; kernel_rfl
theorem noDict_co : typeHasDict (.type "itertools.combinations") = false := by decide +kernel
/-- the fields: the pool, whether it began, what it handed out last, the indices -/
def coF (pool : Addr) (st : Int) (res : Value) (ix : List Nat) : Array Value := ([Value.ref pool, rawInt st, res] ++ ix.map fun (i : Nat) => rawInt i).toArray
abbrev IsCo (h : Heap) (it pool : Addr) (st : Int) (res : Value) (ix : List Nat) : Prop := h.get? it = some { cls := .type "itertools.combinations", dict := none, data := .fields (coF pool st res ix), slots := #[] }
/-- the next indices -/
def stepC (n : Nat) (indices : List Nat) : Option (List Nat) :=
  let r := indices.length
  match (List.range r).reverse.find? fun i => indices.getD i 0 != i + n - r with
  | none => none
  | some i => some (indices.take i ++ (List.range (r - i)).map (indices.getD i 0 + 1 + ·))
section
variable {prog : Program} {w : World} {A : Around} {E : Value → Shared → Prop} {s : Shared}
theorem iter_co {it pool : Addr} {st : Int} {res : Value} {ix : List Nat} {Q : Value → Shared → Prop} (hit : IsCo s.heap it pool st res ix) (h : Q (.ref it) s) : wpAny (model prog w) A (pyIter (.ref it)) Q E s := by
  have hT : s.TypeIs (.ref it) "itertools.combinations" := ⟨_, hit, rfl⟩
  refine wpAny_pyIter_slot hT slot_co_iter (wpAny_call_entry slot_co_iter hT entry_co_iter ?_ (args_co_iter _))
  show wpAny _ _ (ret (.ref it)) _ _ s
  exact wpAny_pure ⟨_, rfl, "itertools.combinations", _, hT, slot_co_next.lookup, h⟩
end
end PvCo

end T_PvCa
section T_PvCb
set_option maxRecDepth 100000
set_option maxHeartbeats 2000000
namespace PvCo
open PySem PySem.Spec
open Sem (wp)
theorem meets_co_new (a : Addr) (xs : Array Value) (n : Int) (t : Tok) (h0 : 0 ≤ n) (h1 : n < 1000) (hz : xs.size ≤ sizeLine) :
    Meets (Builtin.«itertools.combinations.__new__» ⟨[.type "itertools.combinations", .ref a, .int n t], []⟩) (fun _ R s => s.heap.IsTuple a xs ∧ ∀ h' : Heap, (∀ b o, s.heap.get? b = some o → h'.get? b = some o) →
      R (.ok (.ret (.ref (h'.objs.size + 1)))) { s with heap := (h'.push { cls := .type "tuple", data := .seq xs }).push { cls := .type "itertools.combinations", data := .fields (coF h'.objs.size (if n.toNat > xs.size then 2 else 0) .none (List.range n.toNat)) } }) :=
  .of_wp fun prog w A R s h => by
    obtain ⟨hp, g, dd, tk, os⟩ := s
    obtain ⟨ht, h⟩ := h
    have hsub := sub_co
    have hd := noDict_co
    repeat (first
      | wp_step
      | simp only [List.head?_cons, Option.some_or, List.getElem?_cons_succ, List.getElem?_cons_zero, List.length_cons, List.length_nil, List.forIn_nil])
    refine wpAny_of_eq (a := true) sub_co ?_
    repeat (first
      | wp_step
      | simp only [List.head?_cons, Option.some_or, List.getElem?_cons_succ, List.getElem?_cons_zero, List.length_cons, List.length_nil, List.forIn_nil])
    rw [if_neg (by
      have e1 : decide (n < -(2 ^ 63 : Int)) = false := decide_eq_false (by omega)
      have e2 : decide (n ≥ (2 ^ 63 : Int)) = false := decide_eq_false (by omega)
      rw [e1, e2]; decide)]
    refine wpAny_pure (wpAny_bind ?_)
    obtain ⟨o, ho, hc, k, hdt⟩ := id ht
    refine wpAny_collect_seq a (.inr rfl) ho hc hdt (fun h' hk => ?_) hz
    rw [if_neg (by omega), if_neg (by unfold Builtin.Itertools.itTooMany; simp; omega)]
    refine wpAny_bind (wpAny_newTuple ?_ (by simpa using hz))
    refine wpAny_pure (wpAny_bind ?_)
    unfold Builtin.Itertools.itNewRecord
    rw [if_pos (by rw [hd]; rfl)]
    refine wpAny_newObj_type ?_ ?_
    · refine wpAny_pure ⟨_, rfl, ?_⟩
      have hh := h h' hk
      have e1 : (h'.push { cls := .type "tuple", data := .seq xs }).objs.size = h'.objs.size + 1 := Heap.size_push ..
      simp only [Array.toArray_toList, Array.length_toList]
      rw [e1]
      exact hh
    · show Array.size _ ≤ _
      simp only [List.size_toArray, List.length_append, List.length_map, List.length_range, List.length_cons, List.length_nil]
      have := sizeLine_eq
      omega

section
variable {prog : Program} {w : World} {A : Around} {E : Value → Shared → Prop} {s : Shared}
theorem call_co {a : Addr} {xs : Array Value} {n : Int} {t : Tok} {Q : Value → Shared → Prop} (ht : s.heap.IsTuple a xs) (h0 : 0 ≤ n) (h1 : n < 1000) (hz : xs.size ≤ sizeLine)
    (h : ∀ (g h' : Heap), (∀ b o, s.heap.get? b = some o → g.get? b = some o) → (∀ b o, g.get? b = some o → h'.get? b = some o) → h'.get? g.objs.size = some { cls := .type "tuple", data := .seq xs } → IsCo h' (g.objs.size + 1) g.objs.size (if n.toNat > xs.size then 2 else 0) .none (List.range n.toNat) →
      Q (.ref (g.objs.size + 1)) { s with heap := h' }) :
    wpAny (model prog w) A (call (.type "itertools.combinations") [.ref a, .int n t]) Q E s := by
  refine callType_new called_co (by decide +kernel) (typeCall_co_2 _ _) (newCall_co_2 _ _) (fun obj => F.args_object_init_3 obj _ _) entry_co_new (meets_co_new a xs n t h0 h1 hz) ⟨ht, fun h' hk => ?_⟩
  have e1 : (h'.push { cls := .type "tuple", data := .seq xs }).objs.size = h'.objs.size + 1 := Heap.size_push ..
  have g1 : ((h'.push { cls := .type "tuple", data := .seq xs }).push { cls := .type "itertools.combinations", data := .fields (coF h'.objs.size (if n.toNat > xs.size then 2 else 0) .none (List.range n.toNat)) }).get? (h'.objs.size + 1) = some { cls := .type "itertools.combinations", data := .fields (coF h'.objs.size (if n.toNat > xs.size then 2 else 0) .none (List.range n.toNat)) } := by
    rw [← e1]
    exact Heap.get?_push_size _ rfl
  have g2 : ((h'.push { cls := .type "tuple", data := .seq xs }).push { cls := .type "itertools.combinations", data := .fields (coF h'.objs.size (if n.toNat > xs.size then 2 else 0) .none (List.range n.toNat)) }).get? h'.objs.size = some { cls := .type "tuple", data := .seq xs } :=
    Heap.get?_push_of_some _ (Heap.get?_push_size _ rfl)
  show _ ∧ _
  exact ⟨⟨_, g1, rfl⟩, h h' _ hk (fun b o q => Heap.get?_push_of_some _ (Heap.get?_push_of_some _ q)) g2 g1⟩
theorem numbers_co (ix : List Nat) : ((ix.map fun (i : Nat) => rawInt i).map fun | .int n _ => n.toNat | _ => 0) = ix := by
  rw [List.map_map]
  conv => rhs; rw [← List.map_id ix]
  rfl
theorem coF_drop (pool : Addr) (st : Int) (res : Value) (ix : List Nat) : (coF pool st res ix).toList.drop 3 = ix.map fun (i : Nat) => rawInt i := rfl
def handC (self pool : Value) (indices : List Nat) : Sem PySem.Fin := do
  let result ← (do let items ← Builtin.Itertools.itPoolItems pool; newTuple (indices.map fun i => items.getD i .none))
  let before ← field self 2
  setField self 2 result
  letGo [before] [result]
  ret result
theorem hand_co {it pool : Addr} {st : Int} {res : Value} {ix : List Nat} {xs : Array Value} {Q : PySem.Fin → Shared → Prop} (hit : IsCo s.heap it pool st res ix) (hp : s.heap.get? pool = some { cls := .type "tuple", data := .seq xs }) (hz : ix.length ≤ 1000)
    (h : ∀ h', IsCo h' it pool st (.ref s.heap.objs.size) ix → h'.get? s.heap.objs.size = some { cls := .type "tuple", data := .seq (ix.map fun i => xs.getD i .none).toArray } → s.heap.objs.size < h'.objs.size → (∀ b o, b ≠ it → s.heap.get? b = some o → h'.get? b = some o) → Q (.done (.ret (.ref s.heap.objs.size))) { s with heap := h' }) :
    wpAny (model prog w) A (handC (.ref it) (.ref pool) ix) Q E s := by
  unfold handC
  refine wpAny_bind ?_
  unfold Builtin.Itertools.itPoolItems
  refine wpAny_bind (wpAny_bind (wpAny_seqItems hp rfl (wpAny_pure ?_)))
  have hlt : it < s.heap.objs.size := Heap.lt_size hit
  refine wpAny_newTuple ?_ (by rw [List.length_map]; have := sizeLine_eq; omega)
  have hit2 : IsCo (s.heap.push { cls := .type "tuple", data := .seq (ix.map fun i => xs.getD i .none).toArray }) it pool st res ix := Heap.get?_push_of_some _ hit
  have hT : (s.heap.push { cls := .type "tuple", data := .seq (ix.map fun i => xs.getD i .none).toArray }).get? s.heap.objs.size = some { cls := .type "tuple", data := .seq (ix.map fun i => xs.getD i .none).toArray } := Heap.get?_push_size _ rfl
  refine wpAny_bind (wpAny_field hit2 rfl (x := res) rfl ?_)
  refine wpAny_bind (wpAny_setField hit2 rfl (by unfold coF; simp) ?_)
  refine wpAny_bind (wpAny_letGo (wpAny_pure ?_))
  have sb := Heap.SameBut.update (s.heap.push { cls := .type "tuple", data := .seq (ix.map fun i => xs.getD i .none).toArray }) it (Obj.mapFields (·.setIfInBounds 2 (Value.ref s.heap.objs.size)))
  refine h _ (Heap.get?_update_self _ hit2 rfl) ?_ ?_ fun b o hb e => ?_
  · exact (sb.2 _ (Nat.ne_of_gt hlt)).trans hT
  · rw [sb.1, Heap.size_push]
    exact Nat.lt_succ_self _
  · exact (sb.2 b hb).trans (Heap.get?_push_of_some _ e)
/-- the first of all, or one that follows -/
theorem next_co {it pool : Addr} {st : Int} {res : Value} {ix ix' : List Nat} {xs : Array Value} {Q : PySem.Fin → Shared → Prop} (hit : IsCo s.heap it pool st res ix) (hp : s.heap.get? pool = some { cls := .type "tuple", data := .seq xs }) (hpi : pool ≠ it)
    (hst : (st = 0 ∧ ix' = ix) ∨ (st = 1 ∧ stepC xs.size ix = some ix')) (hz : ix'.length ≤ 1000)
    (h : ∀ h', IsCo h' it pool 1 (.ref s.heap.objs.size) ix' → h'.get? s.heap.objs.size = some { cls := .type "tuple", data := .seq (ix'.map fun i => xs.getD i .none).toArray } → s.heap.objs.size < h'.objs.size → (∀ b o, b ≠ it → s.heap.get? b = some o → h'.get? b = some o) → Q (.done (.ret (.ref s.heap.objs.size))) { s with heap := h' }) :
    wpAny (model prog w) A (Builtin.«itertools.combinations.__next__» ⟨[.ref it], []⟩) Q E s := by
  show wpAny _ _ (field (.ref it) 0 >>= _) _ _ s
  refine wpAny_bind (wpAny_field hit rfl (x := .ref pool) rfl ?_)
  refine wpAny_bind ?_
  unfold Builtin.Itertools.itNumbersFrom
  refine wpAny_bind (wpAny_load hit ?_)
  refine wpAny_pure ?_
  show wpAny _ _ (Builtin.Itertools.itIntField (.ref it) 1 >>= _) _ _ s
  refine wpAny_bind ?_
  unfold Builtin.Itertools.itIntField
  refine wpAny_bind (wpAny_field hit rfl (x := rawInt st) rfl ?_)
  refine wpAny_pure ?_
  generalize hN : List.map _ (List.drop 3 (coF pool st res ix).toList) = N
  have eN : N = ix := by rw [← hN]; exact numbers_co ix
  subst eN
  rcases hst with ⟨rfl, rfl⟩ | ⟨rfl, hs⟩
  · show wpAny _ _ (setField (.ref it) 1 (rawInt 1) >>= fun _ => handC (.ref it) (.ref pool) ix') _ _ s
    refine wpAny_bind (wpAny_setField hit rfl (by unfold coF; simp) ?_)
    have sb := Heap.SameBut.update s.heap it (Obj.mapFields (·.setIfInBounds 1 (rawInt 1)))
    have hit2 : IsCo (s.heap.update it (Obj.mapFields (·.setIfInBounds 1 (rawInt 1)))) it pool 1 res ix' := Heap.get?_update_self _ hit rfl
    refine hand_co (s := { s with heap := s.heap.update it (Obj.mapFields (·.setIfInBounds 1 (rawInt 1))) }) hit2 ((sb.2 pool hpi).trans hp) hz fun h' q1 q2 q3 q4 => ?_
    have es : (s.heap.update it (Obj.mapFields (·.setIfInBounds 1 (rawInt 1)))).objs.size = s.heap.objs.size := sb.1
    simp only [es] at q1 q2 q3 ⊢
    exact h h' q1 q2 q3 fun b o hb e => q4 b o hb ((sb.2 b hb).trans e)
  · show wpAny _ _ (Builtin.Itertools.itPoolItems (.ref pool) >>= _) _ _ s
    refine wpAny_bind ?_
    unfold Builtin.Itertools.itPoolItems
    refine wpAny_bind (wpAny_seqItems hp rfl (wpAny_pure ?_))
    show wpAny _ _ (match stepC xs.size N with
      | some next => (do Builtin.Itertools.itSetNumbersFrom (.ref it) 3 next; handC (.ref it) (.ref pool) next)
      | none => (do setField (.ref it) 1 (rawInt 2); Builtin.Itertools.itStop)) _ _ s
    rw [hs]
    show wpAny _ _ (Builtin.Itertools.itSetNumbersFrom (.ref it) 3 ix' >>= fun _ => handC (.ref it) (.ref pool) ix') _ _ s
    unfold Builtin.Itertools.itSetNumbersFrom
    refine wpAny_bind (wpAny_updateFields hit rfl ?_ ?_)
    · generalize hf : (fun fs : Array Value => fs.extract 0 3 ++ (ix'.map fun (n : Nat) => rawInt n).toArray) = f
      have sb := Heap.SameBut.update s.heap it (Obj.mapFields f)
      have ef : f (coF pool 1 res N) = coF pool 1 res ix' := by
        rw [← hf]
        unfold coF
        simp
      have hit2 : IsCo (s.heap.update it (Obj.mapFields f)) it pool 1 res ix' := by
        have := Heap.get?_update_self (Obj.mapFields f) hit rfl
        rw [show Obj.mapFields f { cls := Value.type "itertools.combinations", dict := none, data := .fields (coF pool 1 res N), slots := #[] } = { cls := Value.type "itertools.combinations", dict := none, data := .fields (f (coF pool 1 res N)), slots := #[] } from rfl, ef] at this
        exact this
      refine hand_co (s := { s with heap := s.heap.update it (Obj.mapFields f) }) hit2 ((sb.2 pool hpi).trans hp) hz fun h' q1 q2 q3 q4 => ?_
      have es : (s.heap.update it (Obj.mapFields f)).objs.size = s.heap.objs.size := sb.1
      simp only [es] at q1 q2 q3 ⊢
      exact h h' q1 q2 q3 fun b o hb e => q4 b o hb ((sb.2 b hb).trans e)
    · have := sizeLine_eq
      unfold coF
      simp
      omega
/-- the end -/
theorem end_co {it pool : Addr} {st : Int} {res : Value} {ix : List Nat} {xs : Array Value} {Q : PySem.Fin → Shared → Prop} (hh : A.handled = none) (hit : IsCo s.heap it pool st res ix) (hp : s.heap.get? pool = some { cls := .type "tuple", data := .seq xs })
    (hst : st = 2 ∨ (st = 1 ∧ stepC xs.size ix = none))
    (hQ : ∀ e h', CpRep.StopE e h' → Heap.ExtBut it s.heap h' → E e { s with heap := h' }) :
    wpAny (model prog w) A (Builtin.«itertools.combinations.__next__» ⟨[.ref it], []⟩) Q E s := by
  have stop : ∀ {t : Heap}, Heap.ExtBut it s.heap t → wpAny (model prog w) A (Builtin.Itertools.itStop (α := PySem.Fin)) Q E { s with heap := t } := fun {t} ht => by
    unfold Builtin.Itertools.itStop
    refine wpAny_bind ?_
    simp only [newExc, newTuple]
    refine wpAny_bind (wpAny_newObj_type ?_ (by size_fits))
    refine wpAny_bind (m := firstArgMember _ _) (wpAny_of_eq (a := Value.none) (by first | rfl | (simp only [firstArgMember]; rfl)) ?_)
    refine wpAny_newObj_type ?_ (by size_fits)
    simp only [raiseNew]
    refine wpAny_bind (wpAny_handled ?_)
    rw [hh]
    refine wpAny_bind (wpAny_pure (wpAny_throw ?_))
    exact hQ _ _ ⟨_, _, _, rfl, Heap.get?_push_size _ rfl, rfl, rfl, rfl⟩ ((ht.push _).push _)
  show wpAny _ _ (field (.ref it) 0 >>= _) _ _ s
  refine wpAny_bind (wpAny_field hit rfl (x := .ref pool) rfl ?_)
  refine wpAny_bind ?_
  unfold Builtin.Itertools.itNumbersFrom
  refine wpAny_bind (wpAny_load hit ?_)
  refine wpAny_pure ?_
  show wpAny _ _ (Builtin.Itertools.itIntField (.ref it) 1 >>= _) _ _ s
  refine wpAny_bind ?_
  unfold Builtin.Itertools.itIntField
  refine wpAny_bind (wpAny_field hit rfl (x := rawInt st) rfl ?_)
  refine wpAny_pure ?_
  generalize hN : List.map _ (List.drop 3 (coF pool st res ix).toList) = N
  have eN : N = ix := by rw [← hN]; exact numbers_co ix
  subst eN
  rcases hst with rfl | ⟨rfl, hs⟩
  · show wpAny _ _ (do rule "itertools.combinations.ended"; Builtin.Itertools.itStop) _ _ s
    exact wpAny_bind (wpAny_rule (stop (Heap.ExtBut.refl it s.heap)))
  · show wpAny _ _ (Builtin.Itertools.itPoolItems (.ref pool) >>= _) _ _ s
    refine wpAny_bind ?_
    unfold Builtin.Itertools.itPoolItems
    refine wpAny_bind (wpAny_seqItems hp rfl (wpAny_pure ?_))
    show wpAny _ _ (match stepC xs.size N with
      | some next => (do Builtin.Itertools.itSetNumbersFrom (.ref it) 3 next; handC (.ref it) (.ref pool) next)
      | none => (do setField (.ref it) 1 (rawInt 2); Builtin.Itertools.itStop)) _ _ s
    rw [hs]
    refine wpAny_bind (wpAny_setField hit rfl (by unfold coF; simp) ?_)
    exact stop (Heap.SameBut.update s.heap it (Obj.mapFields (·.setIfInBounds 1 (rawInt 2)))).extBut
end
end PvCo

end T_PvCb
section T_PvCc
set_option maxRecDepth 100000
set_option maxHeartbeats 2000000
namespace Pv
open PySem PySem.Spec PyProof.Rows L2 PvCo
/-- the indices, one after another -/
structure Chain (n r : Nat) (L : List (List Nat)) : Prop where
  none : n < r → L = []
  first : r ≤ n → L[0]? = some (List.range r)
  next : ∀ i a b, L[i]? = some a → L[i + 1]? = some b → stepC n a = some b
  last : ∀ i a, L[i]? = some a → L[i + 1]? = Option.none → stepC n a = Option.none
  len : ∀ a ∈ L, a.length = r
def Itco (vs : List V) (L : List (List Nat)) : It :=
  ⟨fun i H => i < L.length, fun i H x H' => ∃ T ix, L[i]? = some ix ∧ x = .ref T ∧ H T = none ∧ H' = upd H T (.tup (ix.map fun j => vs.getD j .non)), fun i H => L.length ≤ i⟩
theorem vals_getD : ∀ {vs : List V} {us : List Value} (j : Nat), Vals vs us → RelV (vs.getD j .non) (us.getD j .none)
  | [], _, j, .nil => by cases j <;> rfl
  | _ :: _, _, 0, .cons r _ => r
  | _ :: _, _, j + 1, .cons _ t => vals_getD j t
theorem vals_pick {vs : List V} {us : List Value} (r : Vals vs us) : ∀ ix : List Nat, Vals (ix.map fun j => vs.getD j .non) (ix.map fun j => us.toArray.getD j .none)
  | [] => .nil
  | j :: ix => .cons (by
      have := vals_getD j r
      show RelV (vs.getD j .non) (us.toArray.getD j .none)
      rw [show us.toArray.getD j Value.none = us.getD j .none from by simp [Array.getD, List.getD]; split <;> simp_all]
      exact this) (vals_pick r ix)
section
variable {P : Program} {w : World} {K : PySem.W.Frag} {tg : Expr} {it pool : Addr} {us : List Value} {vs : List V} {n r : Nat} {L : List (List Nat)}
/-- where it stands -/
def TnC (it pool : Addr) (us : List Value) (r : Nat) (L : List (List Nat)) (i : Nat) (h : Heap) : Prop := h.get? pool = some { cls := .type "tuple", data := .seq us.toArray } ∧ ∃ res, match i with
  | 0 => IsCo h it pool (if r > us.length then 2 else 0) res (List.range r)
  | i + 1 => ∃ ix, L[i]? = some ix ∧ IsCo h it pool 1 res ix
theorem turn_co (hne : pool ≠ it) (hv : Vals vs us) (ch : Chain us.length r L) (hr : r ≤ 1000) : Turn P w K tg (Itco vs L) [it, pool] it (TnC it pool us r L) where
  mem := by simp
  obj := fun i h st b hb => by
    obtain ⟨hp, res, q⟩ := st
    have e : b = it ∨ b = pool := by simpa using hb
    rcases e with rfl | rfl
    · cases i with
      | zero => exact ⟨_, q, fun v z => nomatch z⟩
      | succ i => obtain ⟨ix, _, q⟩ := q; exact ⟨_, q, fun v z => nomatch z⟩
    · exact ⟨_, hp, fun v z => nomatch z⟩
  keep := fun i h h' st k => by
    obtain ⟨hp, res, q⟩ := st
    refine ⟨k pool (by simp) _ hp, res, ?_⟩
    cases i with
    | zero => exact k it (by simp) _ q
    | succ i => obtain ⟨ix, e, q⟩ := q; exact ⟨ix, e, k it (by simp) _ q⟩
  item := by
    intro X hP hw hK hc i pins s σ H E I hf st hg
    subst hP hw hK
    obtain ⟨hp, res, q⟩ := st
    obtain ⟨ix', e'⟩ : ∃ ix', L[i]? = some ix' := ⟨_, List.getElem?_eq_getElem hg⟩
    have hl' : ix'.length = r := ch.len _ (List.mem_of_getElem? e')
    have key : ∃ st0 ix, IsCo s.heap it pool st0 res ix ∧ ((st0 = 0 ∧ ix' = ix) ∨ (st0 = 1 ∧ stepC us.toArray.size ix = some ix')) := by
      cases i with
      | zero =>
        have hrn : r ≤ us.length := by
          by_cases z : r ≤ us.length
          · exact z
          · have := ch.none (by omega)
            rw [this] at e'
            simp at e'
        rw [ch.first hrn] at e'
        cases e'
        have q : IsCo s.heap it pool (if r > us.length then 2 else 0) res (List.range r) := q
        rw [if_neg (by omega)] at q
        exact ⟨0, _, q, .inl ⟨rfl, rfl⟩⟩
      | succ i =>
        obtain ⟨ix, e, q⟩ := q
        exact ⟨1, ix, q, .inr ⟨rfl, by rw [List.size_toArray]; exact ch.next i _ _ e e'⟩⟩
    obtain ⟨st0, ix, q0, hst⟩ := key
    have hT : s.TypeIs (.ref it) "itertools.combinations" := ⟨_, q0, rfl⟩
    have hlt : it < s.heap.objs.size := Heap.lt_size q0
    have hlt2 : pool < s.heap.objs.size := Heap.lt_size hp
    unfold pyNext
    refine wpAny_bind (wpAny_attempt (wpAny_callSpecial?_slot (name := Str.ofString "__next__") hT slot_co_next (wpAny_call_entry slot_co_next hT entry_co_next (next_co q0 hp hne hst (by omega) fun h' a1 a2 a3 a4 => ?_) (args_co_next _))))
    refine ⟨_, rfl, wpAny_pure ⟨_, rfl, ?_⟩⟩
    refine go_of (s := { s with heap := h' }) a1 rfl rfl (by decide) ?_
    have new : ObjOk X.prog X.w (upd H s.heap.objs.size (.tup (ix'.map fun j => vs.getD j .non))) h' s.heap.objs.size (.tup (ix'.map fun j => vs.getD j .non)) :=
      ⟨by rw [List.length_map, hl', sizeLine_eq]; omega, _, vals_pick hv ix', ⟨_, a2, rfl, _, rfl⟩⟩
    have I1 : Inv X pins σ (upd H s.heap.objs.size (.tup (ix'.map fun j => vs.getD j .non))) { s with heap := h' } :=
      I.turnedNew (t' := s.toks) (ch := [it]) (fun b ob hb e => a4 b ob (by simpa using hb) e) (fun b hb => hf b (by rw [List.mem_singleton.mp hb]; simp)) (Nat.le_refl _) new
    refine ⟨.ref s.heap.objs.size, _, I1, rfl, ⟨_, ix', e', rfl, I.hok.fresh (Nat.le_refl _), rfl⟩, ⟨a4 pool _ hne hp, _, ix', e', a1⟩, fun b hb => ?_⟩
    have e : b = it ∨ b = pool := by simpa using hb
    have hb' : b ≠ s.heap.objs.size := by
      rcases e with e | e
      · rw [e]; exact Nat.ne_of_lt hlt
      · rw [e]; exact Nat.ne_of_lt hlt2
    rw [upd_ne hb']
    exact (hf b hb).1
  done := by
    intro X hP hw hK hc i pins s σ H E I hf st hg
    subst hP hw hK
    obtain ⟨hp, res, q⟩ := st
    have hg : L.length ≤ i := hg
    have key : ∃ st0 ix, IsCo s.heap it pool st0 res ix ∧ (st0 = 2 ∨ (st0 = 1 ∧ stepC us.toArray.size ix = none)) := by
      cases i with
      | zero =>
        have hrn : r > us.length := by
          by_cases z : r > us.length
          · exact z
          · have := ch.first (by omega)
            rw [List.eq_nil_of_length_eq_zero (by omega : L.length = 0)] at this
            simp at this
        have q : IsCo s.heap it pool (if r > us.length then 2 else 0) res (List.range r) := q
        rw [if_pos hrn] at q
        exact ⟨2, _, q, .inl rfl⟩
      | succ i =>
        obtain ⟨ix, e, q⟩ := q
        exact ⟨1, ix, q, .inr ⟨rfl, by rw [List.size_toArray]; exact ch.last i _ e (List.getElem?_eq_none hg)⟩⟩
    obtain ⟨st0, ix, q0, hst⟩ := key
    have hT : s.TypeIs (.ref it) "itertools.combinations" := ⟨_, q0, rfl⟩
    obtain ⟨f0, f1, f2, f3, f4, f5⟩ := hf it (by simp)
    unfold pyNext
    refine wpAny_bind (wpAny_attempt (wpAny_callSpecial?_slot (name := Str.ofString "__next__") hT slot_co_next (wpAny_call_entry slot_co_next hT entry_co_next (end_co (I.ok.hd hc) q0 hp hst fun e h' he hk => ?_) (args_co_next _))))
    obtain ⟨a, o, vs', rfl, ho, hcl, _⟩ := he
    refine wpAny_bind (wpAny_isInstance (T := "StopIteration") (b := true) ⟨o, ho, hcl⟩ isSubtype_stop ?_)
    exact wpAny_pure ⟨rfl, I.turned (t' := s.toks) (fun b o hb e => hk b o hb e) f0 f1 f3 f4 f5⟩
  self := fun A i s Q E st h => by
    obtain ⟨hp, res, q⟩ := st
    cases i with
    | zero => exact iter_co q h
    | succ i => obtain ⟨ix, _, q⟩ := q; exact iter_co q h
end
end Pv

end T_PvCc
section T_PvCd
set_option maxRecDepth 100000
set_option maxHeartbeats 2000000
namespace Pv
open PvCo
theorem combos_zero {α : Type} (l : List α) : combos l 0 = [[]] := by cases l <;> rw [combos]
theorem combos_map {α β : Type} (f : α → β) : ∀ (l : List α) (r : Nat), combos (l.map f) r = (combos l r).map (List.map f)
  | l, 0 => by rw [combos_zero, combos_zero]; rfl
  | [], r + 1 => by rw [List.map_nil, combos, combos]; rfl
  | d :: ds, r + 1 => by
    rw [List.map_cons, combos, combos, combos_map f ds r, combos_map f ds (r + 1), List.map_append, List.map_map, List.map_map]
    rfl
theorem combos_len {α : Type} : ∀ (l : List α) (r : Nat), ∀ a ∈ combos l r, a.length = r
  | l, 0, a, h => by
    rw [combos_zero] at h
    rw [List.mem_singleton.mp h]
    rfl
  | [], r + 1, a, h => by rw [combos] at h; cases h
  | d :: ds, r + 1, a, h => by
    rw [combos, List.mem_append] at h
    rcases h with h | h
    · obtain ⟨b, hb, rfl⟩ := List.mem_map.mp h
      rw [List.length_cons, combos_len ds r b hb]
    · exact combos_len ds (r + 1) a h
theorem combos_none {α : Type} : ∀ (l : List α) (r : Nat), l.length < r → combos l r = []
  | l, 0, h => by omega
  | [], r + 1, h => by rw [combos]
  | d :: ds, r + 1, h => by
    rw [List.length_cons] at h
    rw [combos, combos_none ds r (by omega), combos_none ds (r + 1) (by omega)]
    rfl
theorem combos_head : ∀ (m lo r : Nat), r ≤ m → (combos (List.range' lo m) r).head? = some (List.range' lo r)
  | m, lo, 0, h => by rw [combos_zero]; rfl
  | 0, lo, r + 1, h => by omega
  | m + 1, lo, r + 1, h => by
    rw [List.range'_succ, combos, List.head?_append, List.head?_map, combos_head m (lo + 1) r (by omega), List.range'_succ]
    rfl
theorem step_cons (n x : Nat) (c : List Nat) : stepC n (x :: c) = match stepC n c with
  | some c' => some (x :: c')
  | none => if x != n - (c.length + 1) then some ((List.range (c.length + 1)).map (x + 1 + ·)) else none := by
  unfold stepC
  simp only [List.length_cons]
  rw [List.range_succ_eq_map, List.reverse_cons, List.find?_append, ← List.map_reverse, List.find?_map]
  have e : ((fun i => (x :: c).getD i 0 != i + n - (c.length + 1)) ∘ Nat.succ) = fun i => c.getD i 0 != i + n - c.length := by
    funext i
    simp only [Function.comp, List.getD_cons_succ]
    congr 1
    omega
  rw [e]
  cases hf : (List.range c.length).reverse.find? fun i => c.getD i 0 != i + n - c.length with
  | some i =>
    simp only [Option.map_some, Option.some_or]
    have e1 : c.length + 1 - Nat.succ i = c.length - i := by omega
    rw [e1]
    rfl
  | none =>
    simp only [Option.map_none, Option.none_or]
    have e2 : (List.find? (fun i => (x :: c).getD i 0 != i + n - (c.length + 1)) [0]) = if x != n - (c.length + 1) then some 0 else none := by
      rw [List.find?_cons]
      simp only [List.getD_cons_zero, Nat.zero_add, List.find?_nil]
      cases (x != n - (c.length + 1)) <;> rfl
    rw [e2, ← List.range_succ_eq_map]
    cases hb : (x != n - (c.length + 1)) with
    | true => simp
    | false => simp
def Ch (n : Nat) (L : List (List Nat)) (e : Option (List Nat)) : Prop := ∀ i a, L[i]? = some a → stepC n a = (L[i + 1]?).or e
theorem Ch.append {n : Nat} {L L' : List (List Nat)} {e : Option (List Nat)} (h : Ch n L (L'.head?.or e)) (h' : Ch n L' e) : Ch n (L ++ L') e := by
  intro i a q
  by_cases hi : i < L.length
  · rw [List.getElem?_append_left hi] at q
    rw [h i a q]
    by_cases hi2 : i + 1 < L.length
    · rw [List.getElem?_append_left hi2, List.getElem?_eq_getElem hi2]
      rfl
    · rw [List.getElem?_eq_none (by omega : L.length ≤ i + 1), List.getElem?_append_right (by omega)]
      have : i + 1 - L.length = 0 := by omega
      rw [this, ← List.head?_eq_getElem?]
      simp
  · rw [List.getElem?_append_right (by omega)] at q
    rw [h' _ a q, List.getElem?_append_right (by omega)]
    have : i + 1 - L.length = i - L.length + 1 := by omega
    rw [this]
theorem combos_ch (n : Nat) : ∀ (m lo r : Nat), lo + m = n → Ch n (combos (List.range' lo m) r) none
  | m, lo, 0, h => by
    rw [combos_zero]
    intro i a q
    cases i with
    | zero => simp at q; subst q; rfl
    | succ i => simp at q
  | 0, lo, r + 1, h => by
    rw [List.range'_zero, combos]
    intro i a q
    simp at q
  | m + 1, lo, r + 1, h => by
    rw [List.range'_succ, combos]
    refine Ch.append ?_ (combos_ch n m (lo + 1) (r + 1) (by omega))
    intro i a q
    rw [List.getElem?_map] at q
    obtain ⟨c, hc, rfl⟩ := Option.map_eq_some_iff.mp q
    have hlen := combos_len _ _ c (List.mem_of_getElem? hc)
    have ih := combos_ch n m (lo + 1) r (by omega) i c hc
    rw [step_cons, List.getElem?_map]
    have hrm : r ≤ m := by
      by_cases z : r ≤ m
      · exact z
      · have := combos_none (List.range' (lo + 1) m) r (by simp; omega)
        rw [this] at hc
        simp at hc
    cases hn : (combos (List.range' (lo + 1) m) r)[i + 1]? with
    | some b =>
      rw [hn] at ih
      rw [ih]
      rfl
    | none =>
      rw [hn] at ih
      rw [ih]
      simp only [Option.or_none, Option.map_none, Option.none_or]
      rw [hlen]
      by_cases hm : r + 1 ≤ m
      · rw [combos_head m (lo + 1) (r + 1) hm]
        rw [if_pos (by rw [bne_iff_ne]; omega)]
        rw [List.range'_eq_map_range]
      · rw [combos_none (List.range' (lo + 1) m) (r + 1) (by simp; omega)]
        rw [if_neg (by simp; omega)]
        rfl
theorem combos_chain (n r : Nat) : Chain n r (combos (List.range n) r) where
  none := fun h => combos_none _ _ (by simpa using h)
  first := fun h => by
    rw [← List.head?_eq_getElem?, List.range_eq_range', combos_head n 0 r h, ← List.range_eq_range']
  next := fun i a b h1 h2 => by
    rw [List.range_eq_range'] at h1 h2
    rw [combos_ch n n 0 r (by omega) i a h1, h2]
    rfl
  last := fun i a h1 h2 => by
    rw [List.range_eq_range'] at h1 h2
    rw [combos_ch n n 0 r (by omega) i a h1, h2]
    rfl
  len := fun a h => combos_len _ _ a h
end Pv

end T_PvCd
section T_PvCe
set_option maxRecDepth 100000
set_option maxHeartbeats 2000000
namespace Pv
open PySem PySem.Spec PyProof.Rows L2 PvCo
section
variable {R : Rc} {ψ φ : List Addr} {H0 : Hp} {M0 : List C} {ds : List D} {vs : List V}
theorem reps_pick {H : Hp} : ∀ {ix : List Nat}, Reps R ψ φ H ds vs → (∀ j ∈ ix, j < ds.length) → Reps R ψ φ H (ix.map fun j => ds.getD j .non) (ix.map fun j => vs.getD j .non)
  | [], _, _ => .nil
  | j :: ix, r, h => by
    have hj := h j List.mem_cons_self
    obtain ⟨v, e1, e2⟩ := r.get (List.getElem?_eq_getElem hj)
    refine .cons ?_ (reps_pick r fun k hk => h k (List.mem_cons_of_mem _ hk))
    show Rep R ψ φ H (ds.getD j .non) (vs.getD j .non)
    rw [List.getD_eq_getElem?_getD, List.getD_eq_getElem?_getD, e1, List.getElem?_eq_getElem hj]
    exact e2
theorem combos_mem {α : Type} : ∀ (l : List α) (r : Nat) (a : List α), a ∈ combos l r → ∀ x ∈ a, x ∈ l
  | l, 0, a, h, x, hx => by
    rw [combos_zero] at h
    rw [List.mem_singleton.mp h] at hx
    cases hx
  | [], r + 1, a, h, x, hx => by rw [combos] at h; cases h
  | d :: ds, r + 1, a, h, x, hx => by
    rw [combos, List.mem_append] at h
    rcases h with h | h
    · obtain ⟨b, hb, rfl⟩ := List.mem_map.mp h
      rcases List.mem_cons.mp hx with rfl | hx
      · exact List.mem_cons_self
      · exact List.mem_cons_of_mem _ (combos_mem ds r b hb x hx)
    · exact List.mem_cons_of_mem _ (combos_mem ds (r + 1) a h x hx)
theorem combos_ix (ds : List D) (r : Nat) : combos ds r = (combos (List.range ds.length) r).map fun ix => ix.map fun j => ds.getD j .non := by
  have e : ds = (List.range ds.length).map fun j => ds.getD j .non := by
    apply List.ext_getElem
    · simp
    · intro i h1 h2
      simp [List.getD_eq_getElem?_getD, h1]
  conv => lhs; rw [e]
  rw [combos_map]
theorem wk_combos {r : Nat} (hv : Reps R ψ φ H0 ds vs) : Wk R (Itco vs (combos (List.range ds.length) r)) ψ φ H0 none M0 ((combos ds r).map .tup) where
  go := fun i k c _ hi => by
    rw [combos_ix, List.length_map, List.length_map] at hi
    exact hi
  stop := fun k c _ => by
    show (combos (List.range ds.length) r).length ≤ _
    rw [combos_ix ds, List.length_map, List.length_map]
    exact Nat.le_refl _
  yld := fun i k c _ y hi => by
    obtain ⟨T, ix, e, rfl, hT, rfl⟩ := y
    refine ⟨.tup (ix.map fun j => ds.getD j .non), by rw [combos_ix, List.getElem?_map, List.getElem?_map, e]; rfl, same_upd hT, Rep.mkTup c hT (reps_pick (hv.gen k) fun j hj => ?_)⟩
    have := combos_mem _ _ _ (List.mem_of_getElem? e) j hj
    simpa using this
end
section
variable {X : Cx} {W : WX} {tg ea eb : Expr} {pos p : Pos} {fs : Env → List C → Res (List D)}
def cmbI (fs : Env → List C → Res (List D)) : Env → List C → Res (List D × Option Nat) := fun ρ M => bnd (fs ρ M) fun ds M1 => (match ds with
    | [.tup xs, .int n] => if 0 ≤ n ∧ n < 1000 then some (.ok ((combos xs n.toNat).map .tup, none), M1) else none
    | _ => none)
def iCo (K : PySem.W.Frag) (ta : TA) : TI := fun σ H R => ta σ H fun vs H1 => ∃ a xs n, vs = [.ref a, .int n] ∧ SqT K H1 a xs ∧ 0 ≤ n ∧ n < 1000 ∧ R (Itco xs (combos (List.range xs.length) n.toNat)) H1
theorem pi_co {ta : TA} (hg : Gl X "combinations") (hm : X.mg "combinations" = some (.type "itertools.combinations")) (ha : PA X [ea, eb] ta) (hs : starEach [ea, eb] X.env = (false, eval ea X.env) :: starEach [eb] X.env) (hpl : (backTo pos (starEach [eb] X.env)).any (·.1) = false) :
    PI X tg (.Call (.Name "combinations" p) [ea, eb] [] pos) (iCo X.K ta) := by
  refine ⟨fun pins s σ H R I h => ?_⟩
  refine Call_ (ld_glob I hg hm (PyProof.Rows.callWith_type1 (thn (ha.run pos pins s σ H _ I h) fun us s1 ⟨vs, H1, I1, r1, q1⟩ => ?_) hs hpl))
  obtain ⟨a, xs, n, ex, hq, h0, h1, q⟩ := q1
  subst ex
  cases r1 with
  | cons r rr =>
    cases rr with
    | cons r' rr =>
      cases rr
      cases r
      obtain ⟨t, rfl⟩ := r'
      obtain ⟨its, rv, ht, hz⟩ := I1.tuple hq
      have hl := rv.length
      refine call_co (show s1.heap.IsTuple a its.toArray from ht) h0 h1 (by rw [List.size_toArray, ← hl]; exact hz) fun g h' k1 k2 gp gi => iter_co gi ?_
      have I2 : Inv X pins σ H1 { s1 with heap := g } := I1.kept (t' := s1.toks) k1
      have I3 : Inv X pins σ H1 { s1 with heap := h' } := I2.kept (t' := s1.toks) k2
      rw [List.size_toArray] at gi
      rw [hl] at q
      refine ⟨g.objs.size + 1, [g.objs.size + 1, g.objs.size], _, _, H1, rfl, I3, turn_co (Nat.ne_of_lt (Nat.lt_succ_self _)) rv (combos_chain its.length n.toNat) (by omega), ⟨gp, .none, gi⟩, fun b hb => ?_, q⟩
      have e : b = g.objs.size + 1 ∨ b = g.objs.size := by simpa using hb
      have hle : g.objs.size ≤ b := by
        rcases e with e | e
        · rw [e]; exact Nat.le_add_right _ _
        · rw [e]; exact Nat.le_refl _
      exact I2.fpOk hle (I2.hok.fresh hle)
theorem pv_combos (hg : Gl X "combinations") (hm : X.mg "combinations" = some (.type "itertools.combinations")) (hs : notStar ea = true) (hs2 : notStar eb = true) (ha : PA X [ea, eb] (tA (rc X) W fs)) : PI X tg (.Call (.Name "combinations" p) [ea, eb] [] pos) (tW (rc X) W (cmbI fs)) :=
  pi_mono (pi_co hg hm ha (star_cons hs) (star_any (by simp [hs2]))) fun σ H Q ⟨ψ, φ, ρ, M, o, M', hρ, hc, he, hp⟩ => tA_stepI hρ hc he hp fun ds vs φ1 H1 M1 g hc1 r he1 hp1 => by
    split at he1
    · rename_i xs n
      split at he1
      · rename_i hn
        cases he1
        obtain ⟨v, rs, rfl, r1, r2⟩ := r.cons_inv
        obtain ⟨v', rs', rfl, r3, r4⟩ := r2.cons_inv
        rw [r4.nil_inv, r3.int]
        rw [Rep] at r1
        obtain ⟨a, vs, rfl, h1, h2⟩ := r1
        refine ⟨a, vs, n, rfl, h1.seq, hn.1, hn.2, ?_⟩
        have := hp1 φ1 H1 .refl hc1 _ (wk_combos (r := n.toNat) h2)
        rw [h2.length]
        exact this
      · cases he1
    · cases he1
end
end Pv

end T_PvCe
section T_PvZ
set_option maxRecDepth 100000
set_option maxHeartbeats 1000000
namespace Pv
open PySem PySem.Spec PyProof.Rows L2
/-! ### the row's text against the syntax -/
structure TC where
  N : List Str
  sc : Scope
  fn : Str → Bool
def TC.blk (tc : TC) (scope : Scope) : TC := ⟨tc.N, relS scope tc.sc, fun x => scope.names.lookup x == some .cell⟩
def visB (sc : Scope) (x : Str) : Bool := match sc.names.lookup x with
  | some .local => true | some .cell => true | some .free => true | _ => false
def locB (sc : Scope) (x : Str) : Bool := match sc.names.lookup x with
  | some .local => true | some .cell => true | _ => false
def glB (sc : Scope) (x : Str) : Bool := match sc.names.lookup x with
  | some .globalImplicit => true | _ => false
def lcB' (sc : Scope) (x : Str) : Bool := match sc.names.lookup x with
  | some .local => true | _ => false
theorem visB_ok {sc : Scope} {x : Str} (h : visB sc x = true) : Vis sc x := by
  unfold visB at h
  split at h <;> first | exact .inl (by assumption) | exact .inr (.inl (by assumption)) | exact .inr (.inr (by assumption)) | cases h
theorem locB_ok {sc : Scope} {x : Str} (h : locB sc x = true) : Loc sc x := by
  unfold locB at h
  split at h <;> first | exact .inl (by assumption) | exact .inr (by assumption) | cases h
theorem lcB_ok {sc : Scope} {x : Str} (h : lcB' sc x = true) : sc.names.lookup x = some .local := by
  unfold lcB' at h
  split at h <;> first | assumption | cases h
theorem glB_ok {sc : Scope} {x : Str} (h : glB sc x = true) : sc.names.lookup x = some .globalImplicit := by
  unfold glB at h
  split at h <;> first | assumption | cases h
def bltNames : List Str := ["len", "tuple", "list", "sorted", "min", "max", "all", "any", "sum", "abs", "int", "divmod", "range", "zip", "enumerate", "isinstance", "bool", "str", "dict"]
def okName (x : Str) : Bool := !(x == ("__debug__" : Str)) && !(x == ("__classdict__" : Str)) && !(x == ("combinations" : Str))
mutual
def ckP (tc : TC) : Nat → Expr → P → Bool
  | 0, _, _ => false
  | n + 1, e, p => match e, p with
    | .Name x _, .var i => decide (tc.N[i]? = some x) && locB tc.sc x && (tc.fn x || lcB' tc.sc x)
    | .Tuple es _ _, .tup ps => es.all notStar && ckPs tc n es ps
    | _, _ => false
def ckPs (tc : TC) : Nat → List Expr → List P → Bool
  | 0, _, _ => false
  | n + 1, es, ps => match es, ps with
    | [], [] => true
    | e :: es, p :: ps => notStar e && ckP tc n e p && ckPs tc n es ps
    | _, _ => false
end
def newE : E → Bool
  | .lst _ => true
  | .lc _ _ _ _ => true
  | .lc2 _ _ _ _ _ => true
  | .dc _ _ _ _ => true
  | .blt b _ => newB b
  | .cat _ _ => true
  | _ => false
def ownOf (tc : TC) (vs : List Nat) : List (Str × Nat) := vs.map fun i => (tc.N.getD i "", i)
def noSetI : Expr → Bool
  | .Set _ _ _ => false
  | _ => true
theorem folded_ok {e : Expr} {env : PySem.Env} {x : Value} (h : noSetI e = true) : foldedSetIterable e env x = pure x := by
  cases e <;> first | rfl | cases h
def isBool : Expr → Bool
  | .BoolOp _ _ _ => true
  | _ => false
mutual
def ckE (kws : List (Str × Nat × List Str)) : Nat → TC → Expr → E → Bool
  | 0, _, _, _ => false
  | n + 1, tc, e, e' => match e with
    | .BoolOp op vs p => !newE e' && ckBE kws n tc op vs p e'
    | e => (match e' with
      | .mk x => newE x && ckE kws n tc e x
      | .var i => (match e with
        | .Name x _ => decide (tc.N[i]? = some x) && visB tc.sc x && okName x
        | _ => false)
      | .glob y => (match e with
        | .Name x _ => decide (x = y) && glB tc.sc x && okName x
        | _ => false)
      | .lit d => (match e with
        | .Constant c _ _ => (match c, d with
          | .int i, .int j => decide (i = j)
          | .bool i, .bl j => decide (i = j)
          | .str i, .str j => decide (i = j)
          | .none, .non => true
          | _, _ => false)
        | _ => false)
      | .bin o x y => (match e with
        | .BinOp a op b _ => decide (bopOf op = some o) && ckE kws n tc a x && ckE kws n tc b y
        | _ => false)
      | .cat x y => (match e with
        | .BinOp a op b _ => decide (bopOf op = some .add) && ckE kws n tc a x && ckE kws n tc b y
        | _ => false)
      | .neg x => (match e with
        | .UnaryOp op a _ => (match op with
          | .USub => ckE kws n tc a x
          | _ => false)
        | _ => false)
      | .not x => (match e with
        | .UnaryOp op a _ => (match op with
          | .Not => ckE kws n tc a x
          | _ => false)
        | _ => false)
      | .and _ _ => false
      | .or _ _ => false
      | .cmp o x y => (match e with
        | .Compare a [op] [b] _ => decide (copX op = some o) && noSet b && ckE kws n tc a x && ckE kws n tc b y
        | _ => false)
      | .chain o o' x y z => (match e with
        | .Compare a [op, op'] [b, c] _ => decide (copX op = some o) && decide (copX op' = some o') && noSet c && ckE kws n tc a x && ckE kws n tc b y && ckE kws n tc c z
        | _ => false)
      | .ite z x y => (match e with
        | .IfExp c a b _ => ckT kws n tc c z && ckE kws n tc a x && ckE kws n tc b y
        | _ => false)
      | .tup xs => (match e with
        | .Tuple es _ _ => decide (xs.length ≤ SZ) && ckEs kws n tc es xs
        | _ => false)
      | .lst xs => (match e with
        | .List es _ => decide (xs.length ≤ SZ) && ckEs kws n tc es xs
        | _ => false)
      | .slice x hl l hh h => (match e with
        | .Subscript a (.Slice lo hi none _) _ => ckE kws n tc a x && ckO kws n tc lo hl l && ckO kws n tc hi hh h
        | _ => false)
      | .ix x y => (match e with
        | .Subscript a b _ => plainIx b && ckE kws n tc a x && ckE kws n tc b y
        | _ => false)
      | .lc x p i cs => (match e with
        | .ListComp elt [⟨tg, it, ifs, 0⟩] scope _ => blkC tc.N tc.sc scope (ownOf tc (varsP p)) && noSetI it && ckI kws n tc tg it i && ckP (tc.blk scope) n tg p && ckC kws n (tc.blk scope) ifs cs && ckE kws n (tc.blk scope) elt x
        | _ => false)
      | .lc2 x p i p2 i2 => (match e with
        | .ListComp elt [⟨tg, it, [], 0⟩, ⟨tg1, it1, [], 0⟩] scope _ => blkC tc.N tc.sc scope (ownOf tc (varsP p ++ varsP p2)) && noSetI it && noSetI it1 && ckI kws n tc tg it i && ckP (tc.blk scope) n tg p && ckI kws n (tc.blk scope) tg1 it1 i2 && ckP (tc.blk scope) n tg1 p2 && ckE kws n (tc.blk scope) elt x
        | _ => false)
      | .dc x y p i => (match e with
        | .DictComp kx vx [⟨tg, it, [], 0⟩] scope _ => blkC tc.N tc.sc scope (ownOf tc (varsP p)) && noSetI it && ckI kws n tc tg it i && ckP (tc.blk scope) n tg p && ckE kws n (tc.blk scope) kx x && ckE kws n (tc.blk scope) vx y
        | _ => false)
      | .blt b xs => (match e with
        | .Call (.Name x _) (a :: as) [] _ => decide (bltOf x (as.length + 1) = some b) && glB tc.sc x && bltNames.contains x && (a :: as).all notStar && ckEs kws n tc (a :: as) xs
        | _ => false)
      | .isi z t => (match e with
        | .Call (.Name x _) [a, .Name y _] [] _ => decide (x = "isinstance") && decide (tyOf y = some t) && glB tc.sc x && glB tc.sc y && bltNames.contains y && notStar a && ckE kws n tc a z
        | _ => false)
      | .call y xs kn zs => (match e with
        | .Call (.Name x _) es ks _ => decide (x = y) && glB tc.sc x && okName x && es.all notStar && kws.contains (x, xs.length, kn) && ckEs kws n tc es xs &&
          (match ks with
            | [] => kn.isEmpty && zs.isEmpty
            | ks => !es.isEmpty && decide (ks.map (·.arg) = kn.map some) && ckEs kws n tc (ks.map (·.value)) zs)
        | _ => false))
def ckBE (kws : List (Str × Nat × List Str)) : Nat → TC → BoolOp → List Expr → Pos → E → Bool
  | 0, _, _, _, _, _ => false
  | n + 1, tc, op, vs, p, e' => match vs with
    | [] => false
    | [a] => ckE kws n tc a e'
    | a :: b :: r => (match op, e' with
      | .And, .and x y => ckE kws n tc a x && ckBE kws n tc .And (b :: r) p y
      | .Or, .or x y => ckE kws n tc a x && ckBE kws n tc .Or (b :: r) p y
      | _, _ => false)
def ckEs (kws : List (Str × Nat × List Str)) : Nat → TC → List Expr → List E → Bool
  | 0, _, _, _ => false
  | n + 1, tc, es, xs => match es, xs with
    | [], [] => true
    | e :: es, x :: xs => notStar e && ckE kws n tc e x && ckEs kws n tc es xs
    | _, _ => false
def ckO (kws : List (Str × Nat × List Str)) : Nat → TC → Option Expr → Bool → E → Bool
  | 0, _, _, _, _ => false
  | n + 1, tc, o, h, x => match o with
    | none => !h
    | some e => h && ckE kws n tc e x
def ckC (kws : List (Str × Nat × List Str)) : Nat → TC → List Expr → List E → Bool
  | 0, _, _, _ => false
  | n + 1, tc, es, xs => match es, xs with
    | [], [] => true
    | [e], [x] => ckT kws n tc e x
    | _, _ => false
def ckT (kws : List (Str × Nat × List Str)) : Nat → TC → Expr → E → Bool
  | 0, _, _, _ => false
  | n + 1, tc, e, x => match e with
    | .BoolOp op vs p => ckB kws n tc op vs p x
    | .UnaryOp .Not a _ => (match x with
      | .not x => ckT kws n tc a x
      | _ => false)
    | .Compare a [op] [b] _ => (match x with
      | .cmp o x y => decide (copX op = some o) && noSet b && ckE kws n tc a x && ckE kws n tc b y
      | _ => false)
    | .Compare a [op, op'] [b, c] _ => (match x with
      | .chain o o' x y z => decide (copX op = some o) && decide (copX op' = some o') && noSet c && ckE kws n tc a x && ckE kws n tc b y && ckE kws n tc c z
      | _ => false)
    | e => plainT e && ckE kws n tc e x
def ckB (kws : List (Str × Nat × List Str)) : Nat → TC → BoolOp → List Expr → Pos → E → Bool
  | 0, _, _, _, _, _ => false
  | n + 1, tc, op, vs, p, e' => match vs with
    | [] => false
    | [a] => ckT kws n tc a e'
    | a :: b :: r => (match op, e' with
      | .And, .and x y => ckT kws n tc a x && ckB kws n tc .And (b :: r) p y
      | .Or, .or x y => ckT kws n tc a x && ckB kws n tc .Or (b :: r) p y
      | _, _ => false)
def ckI (kws : List (Str × Nat × List Str)) : Nat → TC → Expr → Expr → I → Bool
  | 0, _, _, _, _ => false
  | n + 1, tc, tg, e, i => match i with
    | .items x => (match e with
      | .Call (.Attribute a m ap) [] [] cp => decide (m = "items") && isTupE tg && noBase a && (ap.endLine == cp.line) && ckE kws n tc a x
      | _ => false)
    | .vals x => (match e with
      | .Call (.Attribute a m ap) [] [] cp => decide (m = "values") && noBase a && (ap.endLine == cp.line) && ckE kws n tc a x
      | _ => false)
    | .range xs => (match e with
      | .Call (.Name x _) [a] [] _ => decide (x = "range") && glB tc.sc x && notStar a && decide (xs.length = 1) && ckEs kws n tc [a] xs
      | .Call (.Name x _) [a, b] [] _ => decide (x = "range") && glB tc.sc x && notStar a && notStar b && decide (xs.length = 2) && ckEs kws n tc [a, b] xs
      | _ => false)
    | .zip xs => (match e with
      | .Call (.Name x _) [a, b] [] _ => decide (x = "zip") && isTupE tg && glB tc.sc x && notStar a && notStar b && ckEs kws n tc [a, b] xs
      | _ => false)
    | .enum xs => (match e with
      | .Call (.Name x _) [a] [] _ => decide (x = "enumerate") && isTupE tg && glB tc.sc x && notStar a && ckEs kws n tc [a] xs
      | _ => false)
    | .combos xs => (match e with
      | .Call (.Name x _) [a, b] [] _ => decide (x = "combinations") && kws.contains ("combinations", 0, []) && glB tc.sc x && notStar a && notStar b && ckEs kws n tc [a, b] xs
      | _ => false)
    | .ex x => ckE kws n tc e x
end
/-! ### what a body has around it -/
def gK {α : Type} (z : α) (m j : Nat) (us ws : List α) : List α := if us.length = j ∧ j + ws.length = m then us ++ ws else List.replicate (m + 1) z
def spF (R : Rc) (Φ : Str → Option Fn) (G : Str → Option D) (n : Nat) (x : Str) (m : Nat) : Sp := fun vs H Q E => ∃ ψ φ M ds o M', Cells R ψ φ H M ∧ Reps R ψ φ H ds vs ∧ ds.length = m ∧ runA Φ G n x ds M = some (o, M') ∧
      PostX R (fun c d _ H => E c d H) ψ φ H [] (fun d φ' H' => ∀ v, Rep R ψ φ' H' d v → Q v H') o M'
/-- how a def's arguments bind -/
structure BindOk (K : PySem.W.Frag) (fd : FuncData) (ps : List Str) (js : List Nat) : Prop where
  pos : Binds K fd ps []
  kw : ∀ j ∈ js, KBinds K fd ps (ps.drop j) (gK .none ps.length j) (gK .non ps.length j)
structure Tab (P : Program) (w : World) (K : PySem.W.Frag) (mg : Str → Option Value) (base : Heap) (CX : CXT) (Φ : Str → Option Fn) (G : Str → Option D) (kws : List (Str × Nat × List Str)) (n : Nat) : Prop where
  fns : ∀ x F, Φ x = some F → ∃ f fd, mg x = some (.ref f) ∧ PySem.W.keepIn K (.ref f) = true ∧ Binds K fd F.ps [] ∧
    (∀ j kn, (x, j, kn) ∈ kws → kn ≠ [] → j < F.ps.length ∧ F.ps.drop j = kn ∧ KBinds K fd F.ps kn (gK .none F.ps.length j) (gK .non F.ps.length j)) ∧ FnOk P w K mg base CX n f fd F.ps (spF ⟨P, w, K, mg⟩ Φ G n x F.ps.length)
  glob : ∀ x d, G x = some d → ∃ u v, mg x = some u ∧ RelV v u ∧ ∀ ψ φ H M, Cells ⟨P, w, K, mg⟩ ψ φ H M → Rep ⟨P, w, K, mg⟩ ψ φ H d v
  blt : ∀ x ∈ bltNames, mg x = none
  hx0 : ∀ X', Passes CX X' fun _ _ _ => False
  dom : ∀ p ∈ kws, p.1 ≠ "combinations" → ∃ F, Φ p.1 = some F
  co : (("combinations" : Str), 0, ([] : List Str)) ∈ kws → mg "combinations" = some (.type "itertools.combinations")
structure Good (X : Cx) (CX : CXT) (E : XK) (Φ : Str → Option Fn) (G : Str → Option D) (kws : List (Str × Nat × List Str)) (n : Nat) (tc : TC) : Prop where
  N : X.N = tc.N
  nd : X.N.Nodup
  sc : X.env.scope = tc.sc
  kind : X.env.scope.kind = .function
  fn : ∀ x, tc.fn x = true → X.fn x = true
  calm : X.calm = true
  room : Room n X.A
  po : PassesOwn (model X.prog X.w) X.A X.env X.xe
  hx : Passes CX X E
  tab : Tab X.prog X.w X.K X.mg X.base CX Φ G kws n
section
variable {X : Cx} {CX : CXT} {E : XK} {Φ : Str → Option Fn} {G : Str → Option D} {kws : List (Str × Nat × List Str)} {n : Nat} {tc : TC}
theorem Good.u80 (g : Good X CX E Φ G kws n tc) : X.A.units + 80 < cLine := by have := g.room.un; omega
theorem Good.u64 (g : Good X CX E Φ G kws n tc) : X.A.units + 64 < cLine := by have := g.room.un; omega
theorem Good.gl (g : Good X CX E Φ G kws n tc) {x : Str} (h : glB tc.sc x = true) : Gl X x := by
  show X.env.scope.names.lookup x = some .globalImplicit
  rw [g.sc]
  exact glB_ok h
theorem Good.vis (g : Good X CX E Φ G kws n tc) {x : Str} (h : visB tc.sc x = true) : Vis X.env.scope x := by rw [g.sc]; exact visB_ok h
theorem Good.lc (g : Good X CX E Φ G kws n tc) {x : Str} (h : locB tc.sc x = true) : Loc X.env.scope x := by rw [g.sc]; exact locB_ok h
theorem Good.st (g : Good X CX E Φ G kws n tc) {x : Str} (h : (tc.fn x || lcB' tc.sc x) = true) : X.fn x = true ∨ X.env.scope.names.lookup x = some .local := by
  rw [Bool.or_eq_true] at h
  rcases h with h | h
  · exact .inl (g.fn x h)
  · right; rw [g.sc]; exact lcB_ok h
theorem Good.bltN (g : Good X CX E Φ G kws n tc) {x : Str} (h : bltNames.contains x = true) : X.mg x = none := g.tab.blt x (by simpa using h)
theorem Good.blk (g : Good X CX E Φ G kws n tc) {scope : Scope} {own : List (Str × Nat)} (hb : blkC tc.N tc.sc scope own = true) (s : Shared) (H : Hp) (C : Addr) (cl : List (Str × Addr)) (fp : List Addr) :
    Good (X.blk s H scope (compEnvC scope cl C X.env) fp) CX (fun _ _ _ => False) Φ G kws n (tc.blk scope) where
  N := g.N
  nd := g.nd
  sc := by
    show relabel scope X.env = relS scope tc.sc
    rw [← g.sc]
    rfl
  kind := (blkOk_by hb).kind
  fn := fun x h => h
  calm := g.calm
  room := g.room
  po := PassesOwn.never
  hx := g.tab.hx0 _
  tab := g.tab
theorem Good.ok (g : Good X CX E Φ G kws n tc) {scope : Scope} {own : List (Str × Nat)} (hb : blkC tc.N tc.sc scope own = true) : BlkOk X.N X.env.scope scope own := by
  rw [g.N, g.sc]
  exact blkOk_by hb
/-! ### patterns -/
theorem ckP_ok (g : Good X CX E Φ G kws n tc) : ∀ m, (∀ e p, ckP tc m e p = true → PG X e (gP X.K p)) ∧ ∀ es ps, ckPs tc m es ps = true → PGs X es (gPs X.K ps) ∧ es.length = ps.length := by
  intro m
  induction m with
  | zero => exact ⟨fun e p h => by unfold ckP at h; exact absurd h (by decide), fun es ps h => by unfold ckPs at h; exact absurd h (by decide)⟩
  | succ m ih =>
    refine ⟨fun e p h => ?_, fun es ps h => ?_⟩
    · unfold ckP at h
      split at h
      · simp only [Bool.and_eq_true, decide_eq_true_eq] at h
        rw [gP]
        exact pg_name g.nd (by rw [g.N]; exact h.1.1) (g.lc h.1.2) (g.st h.2)
      · simp only [Bool.and_eq_true] at h
        rw [gP]
        obtain ⟨h1, h2⟩ := ih.2 _ _ h.2
        exact pg_tup g.calm h1 (by rw [(asg_all h.1).1, h2]) (asg_all h.1).2
      · cases h
    · unfold ckPs at h
      split at h
      · rw [gPs]; exact ⟨pgs_nil, rfl⟩
      · simp only [Bool.and_eq_true] at h
        rw [gPs]
        obtain ⟨h1, h2⟩ := ih.2 _ _ h.2
        exact ⟨pgs_cons (ih.1 _ _ h.1.2) h1 (by rw [asg_len h.1.1]; rfl), by rw [List.length_cons, List.length_cons, h2]⟩
      · cases h
end
theorem ownOf_ix (tc : TC) (vs : List Nat) : (ownOf tc vs).map (·.2) = vs := by
  unfold ownOf
  rw [List.map_map]
  exact List.map_id _
theorem pe_vac {X : Cx} {W : WX} {e : Expr} {f : Env → List C → Res D} (h : ∀ ρ M, f ρ M = none) : PE X e (tD (rc X) W f) := ⟨fun pins s σ H Q I ⟨ψ, φ, ρ, M, o, M', h1, h2, h3, h4⟩ => by rw [h] at h3; cases h3⟩
end Pv

end T_PvZ
section T_PvZb
set_option maxRecDepth 100000
set_option maxHeartbeats 4000000
namespace Pv
open PySem PySem.Spec PyProof.Rows L2
def wE (E : XK) : WX := fun c d _ H => E c d H
structure Snd (CX : CXT) (Φ : Str → Option Fn) (G : Str → Option D) (kws : List (Str × Nat × List Str)) (n m : Nat) : Prop where
  e : ∀ {X : Cx} {E : XK} {tc : TC} {e : Expr} {x : Pv.E}, Good X CX E Φ G kws n tc → ckE kws m tc e x = true → PE X e (tD (rc X) (wE E) (evE ⟨run Φ G n, G⟩ x)) ∧ (newE x = true → PE X e (tN (rc X) (wE E) (evE ⟨run Φ G n, G⟩ x)))
  b : ∀ {X : Cx} {E : XK} {tc : TC} {op : BoolOp} {vs : List Expr} {p : Pos} {x : Pv.E}, Good X CX E Φ G kws n tc → ckBE kws m tc op vs p x = true → PE X (.BoolOp op vs p) (tD (rc X) (wE E) (evE ⟨run Φ G n, G⟩ x))
  es : ∀ {X : Cx} {E : XK} {tc : TC} {es : List Expr} {xs : List Pv.E}, Good X CX E Φ G kws n tc → ckEs kws m tc es xs = true → PA X es (tA (rc X) (wE E) (evEs ⟨run Φ G n, G⟩ xs)) ∧ es.all notStar = true ∧ es.length = xs.length
  k : ∀ {X : Cx} {E : XK} {tc : TC} {ks : List Keyword} {xs : List Pv.E}, Good X CX E Φ G kws n tc → ckEs kws m tc (ks.map (·.value)) xs = true → PK X ks (tA (rc X) (wE E) (evEs ⟨run Φ G n, G⟩ xs))
  o : ∀ {X : Cx} {E : XK} {tc : TC} {o : Option Expr} {h : Bool} {x : Pv.E}, Good X CX E Φ G kws n tc → ckO kws m tc o h x = true → PartOk X (wE E) o h (evE ⟨run Φ G n, G⟩ x)
  c : ∀ {X : Cx} {E : XK} {tc : TC} {es : List Expr} {xs : List Pv.E}, Good X CX E Φ G kws n tc → ckC kws m tc es xs = true → PTs X es (tT (rc X) (wE E) (evCs ⟨run Φ G n, G⟩ xs))
  t : ∀ {X : Cx} {E : XK} {tc : TC} {e : Expr} {x : Pv.E}, Good X CX E Φ G kws n tc → ckT kws m tc e x = true → PT X e (tT (rc X) (wE E) (truF (evE ⟨run Φ G n, G⟩ x)))
  w : ∀ {X : Cx} {E : XK} {tc : TC} {op : BoolOp} {vs : List Expr} {p : Pos} {x : Pv.E}, Good X CX E Φ G kws n tc → ckB kws m tc op vs p x = true → PW X (.BoolOp op vs p) (tT (rc X) (wE E) (truF (evE ⟨run Φ G n, G⟩ x)))
  i : ∀ {X : Cx} {E : XK} {tc : TC} {tg e : Expr} {x : Pv.I}, Good X CX E Φ G kws n tc → ckI kws m tc tg e x = true → PI X tg e (tW (rc X) (wE E) (evI ⟨run Φ G n, G⟩ x))
section
variable {X : Cx} {CX : CXT} {E : XK} {Φ : Str → Option Fn} {G : Str → Option D} {kws : List (Str × Nat × List Str)} {n m : Nat} {tc : TC}
theorem okName_ok {x : Str} (h : okName x = true) : (x == ("__debug__" : Str)) = false ∧ (x == ("__classdict__" : Str)) = false := by
  unfold okName at h
  simp only [Bool.and_eq_true, Bool.not_eq_true'] at h
  exact h.1
theorem okName_ne {x : Str} (h : okName x = true) : x ≠ "combinations" := by
  unfold okName at h
  simp only [Bool.and_eq_true, Bool.not_eq_true'] at h
  exact beq_eq_false_iff_ne.mp h.2
theorem es_len {Γ : Ctx} {xs : List Pv.E} {k : Nat} (h : xs.length ≤ k) : ∀ ρ M ds M', evEs Γ xs ρ M = some (.ok ds, M') → ds.length ≤ k := fun ρ M ds M' e => by rw [fs_len xs Γ ρ M M' ds e]; exact h
theorem es_len' {Γ : Ctx} {xs : List Pv.E} {k : Nat} (h : xs.length = k) : ∀ ρ M ds M', evEs Γ xs ρ M = some (.ok ds, M') → ds.length = k := fun ρ M ds M' e => by rw [fs_len xs Γ ρ M M' ds e]; exact h
theorem evCs1 {Γ : Ctx} {x : Pv.E} : evCs Γ [x] = truF (evE Γ x) := by
  funext ρ M
  rw [evCs]
  unfold truF
  cases evE Γ x ρ M with
  | none => rfl
  | some z =>
    obtain ⟨o, M1⟩ := z
    cases o with
    | error x => rfl
    | ok d =>
      show (match truD (drf M1 d) with | some true => evCs Γ [] ρ M1 | some false => some (.ok false, M1) | none => none) = ofO (truD (drf M1 d)) M1
      cases truD (drf M1 d) with
      | none => rfl
      | some b => cases b with
        | true => rw [evCs] <;> rfl
        | false => rfl
theorem pn_mono {X : Cx} {e : Expr} {W : WX} {f g : Env → List C → Res D} (h : PE X e (tN (rc X) W f)) (e1 : g = f) : PE X e (tN (rc X) W g) := by rw [e1]; exact h
theorem snd_e0 : Snd CX Φ G kws n 0 where
  e := fun g h => by unfold ckE at h; cases h
  b := fun g h => by unfold ckBE at h; cases h
  es := fun g h => by unfold ckEs at h; cases h
  k := fun g h => by unfold ckEs at h; cases h
  o := fun g h => by unfold ckO at h; cases h
  c := fun g h => by unfold ckC at h; cases h
  t := fun g h => by unfold ckT at h; cases h
  w := fun g h => by unfold ckB at h; cases h
  i := fun g h => by unfold ckI at h; cases h
theorem snd_es (ih : Snd CX Φ G kws n m) {es : List Expr} {xs : List Pv.E} (g : Good X CX E Φ G kws n tc) (h : ckEs kws (m + 1) tc es xs = true) : PA X es (tA (rc X) (wE E) (evEs ⟨run Φ G n, G⟩ xs)) ∧ es.all notStar = true ∧ es.length = xs.length := by
  unfold ckEs at h
  split at h
  · refine ⟨?_, rfl, rfl⟩
    rw [show evEs ⟨run Φ G n, G⟩ [] = fun _ M => some (.ok [], M) from by funext ρ M; rw [evEs]]
    exact pv_nil
  · rename_i e es x xs
    simp only [Bool.and_eq_true] at h
    obtain ⟨⟨h1, h2⟩, h3⟩ := h
    obtain ⟨k1, k2, k3⟩ := ih.es g h3
    refine ⟨?_, by rw [List.all_cons, h1, k2]; rfl, by rw [List.length_cons, List.length_cons, k3]⟩
    rw [show evEs ⟨run Φ G n, G⟩ (x :: xs) = fun ρ M => bnd (evE ⟨run Φ G n, G⟩ x ρ M) fun d M1 => bnd (evEs ⟨run Φ G n, G⟩ xs ρ M1) fun ds M2 => some (.ok (d :: ds), M2) from by funext ρ M; rw [evEs]]
    exact pv_cons h1 (ih.e g h2).1 k1
  · cases h
theorem snd_k (ih : Snd CX Φ G kws n m) {ks : List Keyword} {xs : List Pv.E} (g : Good X CX E Φ G kws n tc) (h : ckEs kws (m + 1) tc (ks.map (·.value)) xs = true) : PK X ks (tA (rc X) (wE E) (evEs ⟨run Φ G n, G⟩ xs)) := by
  cases ks with
  | nil =>
    cases xs with
    | nil =>
      rw [show evEs ⟨run Φ G n, G⟩ [] = fun _ M => some (.ok [], M) from by funext ρ M; rw [evEs]]
      exact pvk_nil
    | cons x xs => unfold ckEs at h; cases h
  | cons k ks =>
    obtain ⟨ka, kv, kp⟩ := k
    cases xs with
    | nil => unfold ckEs at h; cases h
    | cons x xs =>
      unfold ckEs at h
      simp only [List.map_cons, Bool.and_eq_true] at h
      rw [show evEs ⟨run Φ G n, G⟩ (x :: xs) = fun ρ M => bnd (evE ⟨run Φ G n, G⟩ x ρ M) fun d M1 => bnd (evEs ⟨run Φ G n, G⟩ xs ρ M1) fun ds M2 => some (.ok (d :: ds), M2) from by funext ρ M; rw [evEs]]
      exact pvk_cons (ih.e g h.1.2).1 (ih.k g h.2)
theorem snd_b (ih : Snd CX Φ G kws n m) {op : BoolOp} {vs : List Expr} {p : Pos} {x : Pv.E} (g : Good X CX E Φ G kws n tc) (h : ckBE kws (m + 1) tc op vs p x = true) : PE X (.BoolOp op vs p) (tD (rc X) (wE E) (evE ⟨run Φ G n, G⟩ x)) := by
  unfold ckBE at h
  split at h
  · cases h
  · exact pe_one (ih.e g h).1
  · split at h
    · rename_i x y
      simp only [Bool.and_eq_true] at h
      rw [show evE ⟨run Φ G n, G⟩ (.and x y) = andF (evE ⟨run Φ G n, G⟩ x) (evE ⟨run Φ G n, G⟩ y) from by funext ρ M; rw [evE] <;> rfl]
      exact pv_and (ih.e g h.1).1 (ih.b g h.2)
    · rename_i x y
      simp only [Bool.and_eq_true] at h
      rw [show evE ⟨run Φ G n, G⟩ (.or x y) = orF (evE ⟨run Φ G n, G⟩ x) (evE ⟨run Φ G n, G⟩ y) from by funext ρ M; rw [evE] <;> rfl]
      exact pv_or (ih.e g h.1).1 (ih.b g h.2)
    · cases h
theorem snd_o (ih : Snd CX Φ G kws n m) {o : Option Expr} {hh : Bool} {x : Pv.E} (g : Good X CX E Φ G kws n tc) (h : ckO kws (m + 1) tc o hh x = true) : PartOk X (wE E) o hh (evE ⟨run Φ G n, G⟩ x) := by
  unfold ckO at h
  split at h
  · simpa [PartOk] using h
  · simp only [Bool.and_eq_true] at h
    exact ⟨h.1, (ih.e g h.2).1⟩
theorem snd_c (ih : Snd CX Φ G kws n m) {es : List Expr} {xs : List Pv.E} (g : Good X CX E Φ G kws n tc) (h : ckC kws (m + 1) tc es xs = true) : PTs X es (tT (rc X) (wE E) (evCs ⟨run Φ G n, G⟩ xs)) := by
  unfold ckC at h
  split at h
  · rw [show evCs ⟨run Φ G n, G⟩ [] = fun _ M => some (.ok true, M) from by funext ρ M; rw [evCs]]
    exact pv_pts0
  · rw [evCs1]
    exact pv_pts1 (ih.t g h)
  · cases h
theorem snd_w (ih : Snd CX Φ G kws n m) {op : BoolOp} {vs : List Expr} {p : Pos} {x : Pv.E} (g : Good X CX E Φ G kws n tc) (h : ckB kws (m + 1) tc op vs p x = true) : PW X (.BoolOp op vs p) (tT (rc X) (wE E) (truF (evE ⟨run Φ G n, G⟩ x))) := by
  unfold ckB at h
  split at h
  · cases h
  · cases op with
    | And => exact pw_and1 (ih.t g h)
    | Or => exact pw_or1 (ih.t g h)
  · split at h
    · rename_i x y
      simp only [Bool.and_eq_true] at h
      rw [show evE ⟨run Φ G n, G⟩ (.and x y) = andF (evE ⟨run Φ G n, G⟩ x) (evE ⟨run Φ G n, G⟩ y) from by funext ρ M; rw [evE] <;> rfl]
      exact pw_andF (ih.t g h.1) (ih.w g h.2)
    · rename_i x y
      simp only [Bool.and_eq_true] at h
      rw [show evE ⟨run Φ G n, G⟩ (.or x y) = orF (evE ⟨run Φ G n, G⟩ x) (evE ⟨run Φ G n, G⟩ y) from by funext ρ M; rw [evE] <;> rfl]
      exact pw_orF (ih.t g h.1) (ih.w g h.2)
    · cases h
theorem pt_chainF {W : WX} {ea eb ec : Expr} {fa fb fc : Env → List C → Res D} {pos : Pos} (hu : X.A.units + 64 < cLine) {op op' : CmpOp} {b b' : COp} (h : copX op = some b) (h' : copX op' = some b') (hm : noSet ec = true) (ha : PE X ea (tD (rc X) W fa)) (hb : PE X eb (tD (rc X) W fb)) (hcc : PE X ec (tD (rc X) W fc)) :
    PT X (.Compare ea [op, op'] [eb, ec] pos) (tT (rc X) W (truF (chainF b b' fa fb fc))) := by
  refine pt_mono (pt_chain (op_cmpK hu h) (op_cmpK hu h') ha hb hcc (nomarkS op' hm)) fun σ H Q ⟨ψ, φ, ρ, M, o, M', hρ, hc, he, hp⟩ => ?_
  have hD := truF_D hρ hc he hp fun d M' h => by
    unfold chainF at h
    rcases bnd_some h with ⟨d, M1, e1, e2⟩ | ⟨x, M1, e1, e2⟩
    · rcases bnd_some e2 with ⟨d, M1, e1, e2⟩ | ⟨x, M1, e1, e2⟩
      · split at e2
        · rcases bnd_some e2 with ⟨d, M1, e1, e2⟩ | ⟨x, M1, e1, e2⟩
          · obtain ⟨z, hz, hzz⟩ := ofO_inv e2
            cases hzz
            obtain ⟨k, hk, rfl⟩ := Option.map_eq_some_iff.mp hz
            exact ⟨k, rfl⟩
          · cases e2
        · cases e2; exact ⟨false, rfl⟩
        · cases e2
      · cases e2
    · cases e2
  exact chain_imp σ H _ hD
end
end Pv

end T_PvZb
section T_PvZc
set_option maxRecDepth 100000
set_option maxHeartbeats 4000000
namespace Pv
open PySem PySem.Spec PyProof.Rows L2
section
variable {X : Cx} {CX : CXT} {E : XK} {Φ : Str → Option Fn} {G : Str → Option D} {kws : List (Str × Nat × List Str)} {n m : Nat} {tc : TC}
theorem ev_chain {Γ : Ctx} {o o' : COp} {x y z : Pv.E} : evE Γ (.chain o o' x y z) = chainF o o' (evE Γ x) (evE Γ y) (evE Γ z) := by funext ρ M; rw [evE] <;> rfl
theorem ev_cmp {Γ : Ctx} {o : COp} {x y : Pv.E} : evE Γ (.cmp o x y) = cmpF o (evE Γ x) (evE Γ y) := by funext ρ M; rw [evE] <;> rfl
theorem ev_not {Γ : Ctx} {x : Pv.E} : evE Γ (.not x) = fun ρ M => bnd (evE Γ x ρ M) fun x M1 => ofO ((truD (drf M1 x)).map fun b => .bl (!b)) M1 := by funext ρ M; rw [evE]
theorem snd_t (ih : Snd CX Φ G kws n m) {e : Expr} {x : Pv.E} (g : Good X CX E Φ G kws n tc) (h : ckT kws (m + 1) tc e x = true) : PT X e (tT (rc X) (wE E) (truF (evE ⟨run Φ G n, G⟩ x))) := by
  unfold ckT at h
  split at h
  · exact (ih.w g h).pt
  · split at h
    · rw [ev_not]
      exact pt_notF (ih.t g h)
    · cases h
  · split at h
    · simp only [Bool.and_eq_true, decide_eq_true_eq] at h
      rw [ev_cmp]
      exact pt_cmpF g.u64 h.1.1.1 h.1.1.2 (ih.e g h.1.2).1 (ih.e g h.2).1
    · cases h
  · split at h
    · simp only [Bool.and_eq_true, decide_eq_true_eq] at h
      rw [ev_chain]
      exact pt_chainF g.u64 h.1.1.1.1.1 h.1.1.1.1.2 h.1.1.1.2 (ih.e g h.1.1.2).1 (ih.e g h.1.2).1 (ih.e g h.2).1
    · cases h
  · simp only [Bool.and_eq_true] at h
    exact pt_plain h.1 (ih.e g h.2).1
theorem snd_i (ih : Snd CX Φ G kws n m) {tg e : Expr} {x : Pv.I} (g : Good X CX E Φ G kws n tc) (h : ckI kws (m + 1) tc tg e x = true) : PI X tg e (tW (rc X) (wE E) (evI ⟨run Φ G n, G⟩ x)) := by
  unfold ckI at h
  split at h
  · rename_i x
    split at h
    · simp only [Bool.and_eq_true, decide_eq_true_eq] at h
      obtain ⟨⟨⟨⟨rfl, h2⟩, h3⟩, h4⟩, h5⟩ := h
      cases tg <;> first | (cases h2; done) | skip
      rw [show evI ⟨run Φ G n, G⟩ (.items x) = itmI (evE ⟨run Φ G n, G⟩ x) from by funext ρ M; rw [evI] <;> rfl]
      exact pv_items (ih.e g h5).1 h3 h4
    · cases h
  · rename_i x
    split at h
    · simp only [Bool.and_eq_true, decide_eq_true_eq] at h
      obtain ⟨⟨⟨rfl, h3⟩, h4⟩, h5⟩ := h
      rw [show evI ⟨run Φ G n, G⟩ (.vals x) = valI (evE ⟨run Φ G n, G⟩ x) from by funext ρ M; rw [evI] <;> rfl]
      exact pv_values (ih.e g h5).1 h3 h4
    · cases h
  · rename_i xs
    have er : evI ⟨run Φ G n, G⟩ (.range xs) = rngI (evEs ⟨run Φ G n, G⟩ xs) := by funext ρ M; rw [evI] <;> rfl
    rw [er]
    split at h
    · simp only [Bool.and_eq_true, decide_eq_true_eq] at h
      obtain ⟨⟨⟨⟨rfl, h2⟩, h3⟩, h4⟩, h5⟩ := h
      exact pv_range1 (g.gl h2) (g.tab.blt _ (by decide)) h3 (es_len' h4) (ih.es g h5).1
    · simp only [Bool.and_eq_true, decide_eq_true_eq] at h
      obtain ⟨⟨⟨⟨⟨rfl, h2⟩, h3⟩, h3'⟩, h4⟩, h5⟩ := h
      exact pv_range2 (g.gl h2) (g.tab.blt _ (by decide)) h3 h3' (es_len' h4) (ih.es g h5).1
    · cases h
  · rename_i xs
    split at h
    · simp only [Bool.and_eq_true, decide_eq_true_eq] at h
      obtain ⟨⟨⟨⟨⟨rfl, h2⟩, h3⟩, h4⟩, h4'⟩, h5⟩ := h
      cases tg <;> first | (cases h2; done) | skip
      rw [show evI ⟨run Φ G n, G⟩ (.zip xs) = zipI (evEs ⟨run Φ G n, G⟩ xs) from by funext ρ M; rw [evI] <;> rfl]
      exact pv_zip (g.gl h3) (g.tab.blt _ (by decide)) h4 h4' (ih.es g h5).1
    · cases h
  · rename_i xs
    split at h
    · simp only [Bool.and_eq_true, decide_eq_true_eq] at h
      obtain ⟨⟨⟨⟨rfl, h2⟩, h3⟩, h4⟩, h5⟩ := h
      cases tg <;> first | (cases h2; done) | skip
      rw [show evI ⟨run Φ G n, G⟩ (.enum xs) = enuI (evEs ⟨run Φ G n, G⟩ xs) from by funext ρ M; rw [evI] <;> rfl]
      exact pv_enum (g.gl h3) (g.tab.blt _ (by decide)) h4 (ih.es g h5).1
    · cases h
  · rename_i xs
    split at h
    · simp only [Bool.and_eq_true, decide_eq_true_eq] at h
      obtain ⟨⟨⟨⟨⟨rfl, h2⟩, h3⟩, h4⟩, h4'⟩, h5⟩ := h
      rw [show evI ⟨run Φ G n, G⟩ (.combos xs) = cmbI (evEs ⟨run Φ G n, G⟩ xs) from by funext ρ M; rw [evI] <;> rfl]
      exact pv_combos (g.gl h3) (g.tab.co (by simpa using h2)) h4 h4' (ih.es g h5).1
    · cases h
  · rename_i x
    rw [show evI ⟨run Φ G n, G⟩ (.ex x) = exI (evE ⟨run Φ G n, G⟩ x) from by funext ρ M; rw [evI] <;> rfl]
    exact pv_ex (ih.e g h).1
/-! ### calls -/
theorem PostX.sg {α : Type} {R : Rc} {ψ φ : List Addr} {H : Hp} {σ σ' : L2.St} {K : α → List Addr → Hp → Prop} {o : Except D α} {M' : List C} (h : PostX R (wE E) ψ φ H σ K o M') : PostX R (wE E) ψ φ H σ' K o M' := by
  cases o with
  | ok a => exact h
  | error x => exact h
def callF (Φ : Str → Option Fn) (G : Str → Option D) (n : Nat) (x : Str) (fs : Env → List C → Res (List D)) (kn : List Str) (fz : Env → List C → Res (List D)) : Env → List C → Res D := fun ρ M => bnd (fs ρ M) fun ds M1 => bnd (fz ρ M1) fun zs M2 => run Φ G n x ds (kn.zip zs) M2
theorem bindA_pos {ps : List Str} {ds as : List D} (h : bindA ps ds [] = some as) : as = ds ∧ ds.length = ps.length := by
  unfold bindA at h
  split at h
  · rename_i c
    cases h
    simpa using c.1
  · cases h
theorem call_key {x : Str} {F : Fn} (hF : Φ x = some F) {kw : List (Str × D)} {ds : List D} {vs : List V} {σ : L2.St} {ψ φ : List Addr} {H : Hp} {M M' : List C} {o : Except D D} {Q : VK} {as : List D} (hc : Cells (rc X) ψ φ H M) (hb : bindA F.ps ds kw = some as) (r : Reps (rc X) ψ φ H as vs)
    (e : run Φ G n x ds kw M = some (o, M')) (hp : PostX (rc X) (wE E) ψ φ H σ (fun d φ' H' => ∀ v, Rep (rc X) ψ φ' H' d v → Q v H') o M') (hl : as.length = F.ps.length) : spF (rc X) Φ G n x F.ps.length vs H Q E := by
  obtain ⟨f', as', h1, h2, h3⟩ := run_eq e
  rw [hF] at h1
  cases h1
  rw [hb] at h2
  cases h2
  exact ⟨ψ, φ, M, as, o, M', hc, r, hl, h3, PostX.sg hp⟩
theorem pv_call {x : Str} {F : Fn} {e : Expr} {es : List Expr} {fs : Env → List C → Res (List D)} {p pos : Pos} (g : Good X CX E Φ G kws n tc) (hF : Φ x = some F) (hg : glB tc.sc x = true) (ok : okName x = true) (hs : (e :: es).all notStar = true) (ha : PA X (e :: es) (tA (rc X) (wE E) fs)) :
    PE X (.Call (.Name x p) (e :: es) [] pos) (tD (rc X) (wE E) (callF Φ G n x fs [] fun _ M => some (.ok [], M))) := by
  obtain ⟨f, fd, hm, hk, hb, _, FO⟩ := g.tab.fns x F hF
  rw [List.all_cons, Bool.and_eq_true] at hs
  refine pe_mono (pe_call FO g.room (g.gl hg) hm hk hb .nil g.hx ha (okName_ok ok).1 (star_cons hs.1) (star_any hs.2)) fun σ H Q ⟨ψ, φ, ρ, M, o, M', hρ, hc, he, hp⟩ => ?_
  refine tA_step hρ hc he (PostX.of hp) fun ds vs φ1 H1 M1 g1 hρ1 hc1 r he1 hp1 => ?_
  have e1 : run Φ G n x ds [] M1 = some (o, M') := he1
  obtain ⟨f', as, h1, h2, h3⟩ := run_eq e1
  rw [hF] at h1
  cases h1
  obtain ⟨rfl, hl⟩ := bindA_pos h2
  rw [List.append_nil]
  exact call_key hF hc1 h2 r e1 hp1 hl
theorem pv_call0 {x : Str} {F : Fn} {p pos : Pos} (g : Good X CX E Φ G kws n tc) (hF : Φ x = some F) (hg : glB tc.sc x = true) (ok : okName x = true) :
    PE X (.Call (.Name x p) [] [] pos) (tD (rc X) (wE E) (callF Φ G n x (fun _ M => some (.ok [], M)) [] fun _ M => some (.ok [], M))) := by
  obtain ⟨f, fd, hm, hk, hb, _, FO⟩ := g.tab.fns x F hF
  refine pe_mono (pe_call0 FO g.room (g.gl hg) hm hk hb .nil g.hx (okName_ok ok).1) fun σ H Q ⟨ψ, φ, ρ, M, o, M', hρ, hc, he, hp⟩ => ?_
  have e1 : run Φ G n x [] [] M = some (o, M') := he
  obtain ⟨f', as, h1, h2, h3⟩ := run_eq e1
  rw [hF] at h1
  cases h1
  obtain ⟨rfl, hl⟩ := bindA_pos h2
  exact call_key hF hc h2 .nil e1 (PostX.of hp) hl
theorem kw_names : ∀ {ks : List Keyword} {kn : List Str} {env : PySem.Env} {pos : Pos}, ks.map (·.arg) = kn.map some → (backToKw pos (keywordEach ks env)).all (·.1.isSome) = true ∧ (backToKw pos (keywordEach ks env)).filterMap (·.1) = kn ∧ (backToKw pos (keywordEach ks env)).any (·.1.isNone) = false
  | [], [], _, _, _ => ⟨rfl, rfl, rfl⟩
  | [], _ :: _, _, _, h => by cases h
  | _ :: _, [], _, _, h => by cases h
  | ⟨a, v, p⟩ :: ks, k :: kn, env, pos, h => by
    rw [List.map_cons, List.map_cons] at h
    injection h with h1 h2
    have h1 : a = some k := h1
    subst h1
    obtain ⟨q1, q2, q3⟩ := @kw_names ks kn env pos h2
    refine ⟨?_, ?_, ?_⟩
    · show ((some k).isSome && ((backToKw pos (keywordEach ks env)).all (·.1.isSome))) = true
      rw [q1]; rfl
    · show k :: (backToKw pos (keywordEach ks env)).filterMap (·.1) = k :: kn
      rw [q2]
    · show ((some k).isNone || (backToKw pos (keywordEach ks env)).any (·.1.isNone)) = false
      rw [q3]; rfl
theorem pv_callK {x : Str} {F : Fn} {e : Expr} {es : List Expr} {ks : List Keyword} {kn : List Str} {j : Nat} {fs fz : Env → List C → Res (List D)} {p pos : Pos} (g : Good X CX E Φ G kws n tc) (hF : Φ x = some F) (hj : (x, j, kn) ∈ kws) (hg : glB tc.sc x = true) (ok : okName x = true) (hs : (e :: es).all notStar = true)
    (hlen : ∀ ρ M ds M', fs ρ M = some (.ok ds, M') → ds.length = j) (hkn : ks.map (·.arg) = kn.map some) (hz : ∀ ρ M ds M', fz ρ M = some (.ok ds, M') → ds.length = kn.length) (hne : kn ≠ []) (ha : PA X (e :: es) (tA (rc X) (wE E) fs)) (hk : PK X ks (tA (rc X) (wE E) fz)) :
    PE X (.Call (.Name x p) (e :: es) ks pos) (tD (rc X) (wE E) (callF Φ G n x fs kn fz)) := by
  obtain ⟨f, fd, hm, hkp, hb, hkb, FO⟩ := g.tab.fns x F hF
  rw [List.all_cons, Bool.and_eq_true] at hs
  obtain ⟨q1, q2, q3⟩ := @kw_names ks kn X.env pos hkn
  obtain ⟨hc1', hc2', hkb'⟩ := hkb j kn hj hne
  · refine pe_mono (pe_callK FO g.room (g.gl hg) hm hkp hkb' g.hx ha hk q1 q2 (okName_ok ok).1 (star_cons hs.1) (by rw [q3, star_any (by rw [List.all_cons, hs.1, hs.2]; rfl)]; rfl)) fun σ H Q ⟨ψ, φ, ρ, M, o, M', hρ, hc', he, hp⟩ => ?_
    have hl0 := hlen ρ M
    rcases bnd_some he with ⟨ds, M1, e1, e2⟩ | ⟨y, M1, e1, e2⟩
    · have hl1 := hl0 _ _ e1
      refine ⟨ψ, φ, ρ, M, _, _, hρ, hc', e1, fun φ1 H1 g1 hc1 vs r => ?_⟩
      have hz0 := hz ρ M1
      rcases bnd_some e2 with ⟨zs, M2, e3, e4⟩ | ⟨y, M2, e3, e4⟩
      · have hz1 := hz0 _ _ e3
        refine ⟨ψ, φ1, ρ, M1, _, _, hρ.mono g1, hc1, e3, fun φ2 H2 g2 hc2 ws rz => ?_⟩
        obtain ⟨f', as, h1, h2, h3⟩ := run_eq e4
        rw [hF] at h1
        cases h1
        have hb2 := h2
        unfold bindA at h2
        split at h2
        · rename_i cnd
          cases h2
          have ez : (kn.zip zs).map (·.2) = zs := by rw [List.map_snd_zip]; omega
          rw [ez] at hb2
          have hkz : (kn.zip zs).length = zs.length := by rw [List.length_zip]; omega
          have hlen2 : ds.length + zs.length = F.ps.length := by rw [← hkz]; exact cnd.1
          have egk : gK V.non F.ps.length j vs ws = vs ++ ws := by
            unfold gK
            rw [if_pos ⟨by rw [r.length]; exact hl1, by rw [rz.length]; omega⟩]
          rw [egk]
          exact call_key hF hc2 hb2 (Reps.append (r.mono g2) rz) e4 ((PostX.of hp).mono (g1.trans g2)) (by rw [List.length_append]; exact hlen2)
        · cases h2
      · cases e4
        exact ⟨ψ, φ1, ρ, M1, _, _, hρ.mono g1, hc1, e3, fun cls dx φ' H' g' c z => hp cls dx φ' H' (g1.trans g') c z⟩
    · cases e2
      exact ⟨ψ, φ, ρ, M, _, _, hρ, hc', e1, hp⟩
end
end Pv

end T_PvZc
section T_PvZd
set_option maxRecDepth 100000
set_option maxHeartbeats 4000000
namespace Pv
open PySem PySem.Spec PyProof.Rows L2
section
variable {X : Cx} {CX : CXT} {E : XK} {Φ : Str → Option Fn} {G : Str → Option D} {kws : List (Str × Nat × List Str)} {n m : Nat} {tc : TC}
theorem noN {x : Pv.E} {e : Expr} {f : Env → List C → Res D} (h : newE x = false) (p : PE X e (tD (rc X) (wE E) (evE ⟨run Φ G n, G⟩ x))) : PE X e (tD (rc X) (wE E) (evE ⟨run Φ G n, G⟩ x)) ∧ (newE x = true → PE X e (tN (rc X) (wE E) (evE ⟨run Φ G n, G⟩ x))) := ⟨p, fun z => by rw [h] at z; cases z⟩
theorem yesN {x : Pv.E} {e : Expr} (p : PE X e (tN (rc X) (wE E) (evE ⟨run Φ G n, G⟩ x))) : PE X e (tD (rc X) (wE E) (evE ⟨run Φ G n, G⟩ x)) ∧ (newE x = true → PE X e (tN (rc X) (wE E) (evE ⟨run Φ G n, G⟩ x))) := ⟨pv_new p, fun _ => p⟩
theorem snd_e (ih : Snd CX Φ G kws n m) {e : Expr} {x : Pv.E} (g : Good X CX E Φ G kws n tc) (h : ckE kws (m + 1) tc e x = true) : PE X e (tD (rc X) (wE E) (evE ⟨run Φ G n, G⟩ x)) ∧ (newE x = true → PE X e (tN (rc X) (wE E) (evE ⟨run Φ G n, G⟩ x))) := by
  unfold ckE at h
  split at h
  · simp only [Bool.and_eq_true, Bool.not_eq_true'] at h
    exact noN (f := fun _ _ => none) h.1 (ih.b g h.2)
  · split at h
    · -- mk
      rename_i x
      simp only [Bool.and_eq_true] at h
      refine noN (f := fun _ _ => none) rfl ?_
      rw [show evE ⟨run Φ G n, G⟩ (.mk x) = mkF (evE ⟨run Φ G n, G⟩ x) from by funext ρ M; rw [evE] <;> rfl]
      exact pv_mk ((ih.e g h.2).2 h.1)
    · -- var
      split at h
      · simp only [Bool.and_eq_true, decide_eq_true_eq] at h
        exact noN (f := fun _ _ => none) rfl (pv_var (by rw [g.N]; exact h.1.1) (g.vis h.1.2) (okName_ok h.2).1 (okName_ok h.2).2)
      · cases h
    · -- glob
      split at h
      · simp only [Bool.and_eq_true, decide_eq_true_eq] at h
        obtain ⟨⟨rfl, h2⟩, h3⟩ := h
        refine noN (f := fun _ _ => none) rfl ?_
        rename_i y p _
        cases hG : G y with
        | none => exact pe_vac fun ρ M => by rw [evE]; show ofO (G y) M = none; rw [hG]; rfl
        | some d =>
          obtain ⟨u, v, q1, q2, q3⟩ := g.tab.glob y d hG
          exact pv_glob (g.gl h2) q1 q2 (okName_ok h3).1 q3 fun e he => by
            have he : G y = some e := he
            rw [hG] at he
            exact (Option.some.inj he).symm
      · cases h
    · -- lit
      rename_i d
      have key : ∀ d, evE ⟨run Φ G n, G⟩ (.lit d) = fun ρ M => some (.ok d, M) := fun d => by funext ρ M; rw [evE]
      split at h
      · split at h
        · simp only [decide_eq_true_eq] at h
          subst h
          exact noN (f := fun _ _ => none) rfl (by rw [key]; exact pv_c pe_int fun _ _ _ _ _ => .mkInt)
        · simp only [decide_eq_true_eq] at h
          subst h
          exact noN (f := fun _ _ => none) rfl (by rw [key]; exact pv_c pe_bl fun _ _ _ _ _ => .mkBl)
        · simp only [decide_eq_true_eq] at h
          subst h
          exact noN (f := fun _ _ => none) rfl (by rw [key]; exact pv_c pe_str fun _ _ _ _ _ => .mkStr)
        · exact noN (f := fun _ _ => none) rfl (by rw [key]; exact pv_c pe_non fun _ _ _ _ _ => .mkNon)
        · cases h
      · cases h
    · -- bin
      rename_i o x y
      split at h
      · simp only [Bool.and_eq_true, decide_eq_true_eq] at h
        refine noN (f := fun _ _ => none) rfl ?_
        rw [show evE ⟨run Φ G n, G⟩ (.bin o x y) = fun ρ M => bnd (evE ⟨run Φ G n, G⟩ x ρ M) fun a M1 => bnd (evE ⟨run Φ G n, G⟩ y ρ M1) fun b M2 => ofO (binD o (drf M2 a) (drf M2 b)) M2 from by funext ρ M; rw [evE]]
        exact pv_bin h.1.1 (ih.e g h.1.2).1 (ih.e g h.2).1
      · cases h
    · -- cat
      rename_i x y
      split at h
      · simp only [Bool.and_eq_true, decide_eq_true_eq] at h
        rename_i a op b pos _
        have ho : op = .Add := by
          have := h.1.1
          cases op <;> first | rfl | (simp [bopOf] at this)
        subst ho
        refine yesN ?_
        rw [show evE ⟨run Φ G n, G⟩ (.cat x y) = catF (evE ⟨run Φ G n, G⟩ x) (evE ⟨run Φ G n, G⟩ y) from by funext ρ M; rw [evE] <;> rfl]
        exact pv_cat (ih.e g h.1.2).1 (ih.e g h.2).1
      · cases h
    · -- neg
      rename_i x
      split at h
      · split at h
        · refine noN (f := fun _ _ => none) rfl ?_
          rw [show evE ⟨run Φ G n, G⟩ (.neg x) = fun ρ M => bnd (evE ⟨run Φ G n, G⟩ x ρ M) fun a M1 => (match a with
            | .int i => some (.ok (.int (-i)), M1)
            | _ => none) from by funext ρ M; rw [evE] <;> rfl]
          exact pv_neg (ih.e g h).1
        · cases h
      · cases h
    · -- not
      split at h
      · split at h
        · refine noN (f := fun _ _ => none) rfl ?_
          rw [ev_not]
          exact pv_not (ih.e g h).1
        · cases h
      · cases h
    · cases h
    · cases h
    · -- cmp
      split at h
      · simp only [Bool.and_eq_true, decide_eq_true_eq] at h
        refine noN (f := fun _ _ => none) rfl ?_
        rw [ev_cmp]
        exact pv_cmp g.u64 h.1.1.1 h.1.1.2 (ih.e g h.1.2).1 (ih.e g h.2).1
      · cases h
    · -- chain
      split at h
      · simp only [Bool.and_eq_true, decide_eq_true_eq] at h
        refine noN (f := fun _ _ => none) rfl ?_
        rw [ev_chain]
        exact pv_chain g.u64 h.1.1.1.1.1 h.1.1.1.1.2 h.1.1.1.2 (ih.e g h.1.1.2).1 (ih.e g h.1.2).1 (ih.e g h.2).1
      · cases h
    · -- ite
      rename_i z x y
      split at h
      · simp only [Bool.and_eq_true] at h
        refine noN (f := fun _ _ => none) rfl ?_
        rw [show evE ⟨run Φ G n, G⟩ (.ite z x y) = iteF (evE ⟨run Φ G n, G⟩ z) (evE ⟨run Φ G n, G⟩ x) (evE ⟨run Φ G n, G⟩ y) from by funext ρ M; rw [evE] <;> rfl]
        exact pv_ite (ih.t g h.1.1) (ih.e g h.1.2).1 (ih.e g h.2).1
      · cases h
    · -- tup
      rename_i xs
      split at h
      · simp only [Bool.and_eq_true, decide_eq_true_eq] at h
        refine noN (f := fun _ _ => none) rfl ?_
        rw [show evE ⟨run Φ G n, G⟩ (.tup xs) = tupF (evEs ⟨run Φ G n, G⟩ xs) from by funext ρ M; rw [evE] <;> rfl]
        exact pv_tup (es_len h.1) (ih.es g h.2).1
      · cases h
    · -- lst
      rename_i xs
      split at h
      · simp only [Bool.and_eq_true, decide_eq_true_eq] at h
        refine yesN ?_
        rw [show evE ⟨run Φ G n, G⟩ (.lst xs) = lstF (evEs ⟨run Φ G n, G⟩ xs) from by funext ρ M; rw [evE] <;> rfl]
        exact pv_lst (es_len h.1) (ih.es g h.2).1
      · cases h
    · -- slice
      rename_i x hl l hh hi
      split at h
      · simp only [Bool.and_eq_true] at h
        refine noN (f := fun _ _ => none) rfl ?_
        rw [show evE ⟨run Φ G n, G⟩ (.slice x hl l hh hi) = slF (evE ⟨run Φ G n, G⟩ x) hl (evE ⟨run Φ G n, G⟩ l) hh (evE ⟨run Φ G n, G⟩ hi) from by funext ρ M; rw [evE] <;> rfl]
        exact pv_slice (ih.e g h.1.1).1 (ih.o g h.1.2) (ih.o g h.2)
      · cases h
    · -- ix
      rename_i x y
      split at h
      · simp only [Bool.and_eq_true] at h
        refine noN (f := fun _ _ => none) rfl ?_
        rw [show evE ⟨run Φ G n, G⟩ (.ix x y) = ixF (evE ⟨run Φ G n, G⟩ x) (evE ⟨run Φ G n, G⟩ y) from by funext ρ M; rw [evE] <;> rfl]
        exact pv_ix g.u64 h.1.1 (ih.e g h.1.2).1 (ih.e g h.2).1
      · cases h
    · -- lc
      rename_i x p i cs
      split at h
      · simp only [Bool.and_eq_true] at h
        obtain ⟨⟨⟨⟨⟨h1, h2⟩, h3⟩, h4⟩, h5⟩, h6⟩ := h
        refine yesN ?_
        rw [show evE ⟨run Φ G n, G⟩ (.lc x p i cs) = lcF p (evI ⟨run Φ G n, G⟩ i) (evCs ⟨run Φ G n, G⟩ cs) (evE ⟨run Φ G n, G⟩ x) from by funext ρ M; rw [evE] <;> rfl]
        exact pv_lc g.calm g.nd (ih.i g h3) (g.ok h1) (ownOf_ix tc _) (fun s H C cl fp => (ckP_ok (g.blk h1 s H C cl fp) m).1 _ _ h4) (fun s H C cl fp => ih.c (g.blk h1 s H C cl fp) h5) (fun s H C cl fp => (ih.e (g.blk h1 s H C cl fp) h6).1) fun _ => folded_ok h2
      · cases h
    · -- lc2
      rename_i x p i p2 i2
      split at h
      · simp only [Bool.and_eq_true] at h
        obtain ⟨⟨⟨⟨⟨⟨⟨h1, h2⟩, h2'⟩, h3⟩, h4⟩, h5⟩, h6⟩, h7⟩ := h
        refine yesN ?_
        rw [show evE ⟨run Φ G n, G⟩ (.lc2 x p i p2 i2) = lc2F p (evI ⟨run Φ G n, G⟩ i) p2 (evI ⟨run Φ G n, G⟩ i2) (evE ⟨run Φ G n, G⟩ x) from by funext ρ M; rw [evE] <;> rfl]
        exact pv_lc2 g.calm g.nd (ih.i g h3) (g.ok h1) (ownOf_ix tc _) (fun s H C cl fp => (ckP_ok (g.blk h1 s H C cl fp) m).1 _ _ h4) (fun s H C cl fp => ih.i (g.blk h1 s H C cl fp) h5) (fun s H C cl fp => (ckP_ok (g.blk h1 s H C cl fp) m).1 _ _ h6) (fun s H C cl fp => (ih.e (g.blk h1 s H C cl fp) h7).1) (fun _ => folded_ok h2) fun _ _ => folded_ok h2'
      · cases h
    · -- dc
      rename_i x y p i
      split at h
      · simp only [Bool.and_eq_true] at h
        obtain ⟨⟨⟨⟨⟨h1, h2⟩, h3⟩, h4⟩, h5⟩, h6⟩ := h
        refine yesN ?_
        rw [show evE ⟨run Φ G n, G⟩ (.dc x y p i) = dcF p (evI ⟨run Φ G n, G⟩ i) (evE ⟨run Φ G n, G⟩ x) (evE ⟨run Φ G n, G⟩ y) from by funext ρ M; rw [evE] <;> rfl]
        exact pv_dc g.u64 g.calm g.nd (ih.i g h3) (g.ok h1) (ownOf_ix tc _) (fun s H C cl fp => (ckP_ok (g.blk h1 s H C cl fp) m).1 _ _ h4) (fun s H C cl fp => (ih.e (g.blk h1 s H C cl fp) h5).1) (fun s H C cl fp => (ih.e (g.blk h1 s H C cl fp) h6).1) fun _ => folded_ok h2
      · cases h
    · -- blt
      rename_i b xs
      split at h
      · simp only [Bool.and_eq_true, decide_eq_true_eq] at h
        obtain ⟨⟨⟨⟨h1, h2⟩, h3⟩, h4⟩, h5⟩ := h
        have er : evE ⟨run Φ G n, G⟩ (.blt b xs) = bltF b (evEs ⟨run Φ G n, G⟩ xs) := by funext ρ M; rw [evE] <;> rfl
        cases hb : newB b with
        | false =>
          refine noN (f := fun _ _ => none) hb ?_
          rw [er]
          exact pv_blt g.calm g.u80 h1 hb (g.gl h2) (g.bltN h3) h4 (ih.es g h5).1
        | true =>
          refine yesN ?_
          rw [er]
          exact pv_bltN g.calm g.u80 h1 hb (g.gl h2) (g.bltN h3) h4 (ih.es g h5).1
      · cases h
    · -- isi
      rename_i z t
      split at h
      · simp only [Bool.and_eq_true, decide_eq_true_eq] at h
        obtain ⟨⟨⟨⟨⟨⟨rfl, h1⟩, h2⟩, h3⟩, h4⟩, h5⟩, h6⟩ := h
        refine noN (f := fun _ _ => none) rfl ?_
        rw [show evE ⟨run Φ G n, G⟩ (.isi z t) = isiF t (evE ⟨run Φ G n, G⟩ z) from by funext ρ M; rw [evE] <;> rfl]
        exact pv_isi h1 (g.gl h2) (g.tab.blt _ (by decide)) (g.gl h3) (g.bltN h4) h5 (ih.e g h6).1
      · cases h
    · -- call
      rename_i y xs kn zs
      split at h
      · rename_i x p es ks pos _
        simp only [Bool.and_eq_true, decide_eq_true_eq] at h
        obtain ⟨⟨⟨⟨⟨⟨rfl, h2⟩, h3⟩, h4⟩, h5⟩, h6⟩, h7⟩ := h
        have h5' : (x, xs.length, kn) ∈ kws := by simpa using h5
        obtain ⟨F, hF⟩ := g.tab.dom _ h5' (okName_ne h3)
        refine noN (f := fun _ _ => none) rfl ?_
        rw [show evE ⟨run Φ G n, G⟩ (.call x xs kn zs) = callF Φ G n x (evEs ⟨run Φ G n, G⟩ xs) kn (evEs ⟨run Φ G n, G⟩ zs) from by funext ρ M; rw [evE] <;> rfl]
        have e0 : evEs ⟨run Φ G n, G⟩ [] = fun _ M => some (.ok [], M) := by funext ρ M; rw [evEs]
        obtain ⟨k1, k2, k3⟩ := ih.es g h6
        split at h7
        · simp only [Bool.and_eq_true, List.isEmpty_iff] at h7
          obtain ⟨rfl, rfl⟩ := h7
          rw [e0]
          cases es with
          | nil =>
            have : xs = [] := List.eq_nil_of_length_eq_zero k3.symm
            subst this
            rw [e0]
            exact pv_call0 g hF h2 h3
          | cons e es => exact pv_call g hF h2 h3 h4 k1
        · rename_i hne
          simp only [Bool.and_eq_true, decide_eq_true_eq] at h7
          obtain ⟨⟨q1, q2⟩, q3⟩ := h7
          have hkn : kn ≠ [] := fun z => by
            rw [z] at q2
            cases ks with
            | nil => exact hne rfl
            | cons _ _ => cases q2
          have hzl : zs.length = kn.length := by
            have := (ih.es g q3).2.2
            rw [← this, List.length_map]
            have := congrArg List.length q2
            simpa using this
          cases es with
          | nil => simp at q1
          | cons e es => exact pv_callK g hF h5' h2 h3 h4 (es_len' rfl) q2 (es_len' hzl) hkn k1 (ih.k g q3)
      · cases h

theorem snd_all : ∀ m, Snd CX Φ G kws n m
  | 0 => snd_e0
  | m + 1 => have ih := snd_all m
    { e := fun g h => snd_e ih g h, b := fun g h => snd_b ih g h, es := fun g h => snd_es ih g h, k := fun g h => snd_k ih g h, o := fun g h => snd_o ih g h, c := fun g h => snd_c ih g h, t := fun g h => snd_t ih g h, w := fun g h => snd_w ih g h, i := fun g h => snd_i ih g h }
end
end Pv

end T_PvZd
section T_PvZe
set_option maxRecDepth 100000
set_option maxHeartbeats 4000000
namespace Pv
open PySem PySem.Spec PyProof.Rows L2
/-! ### statements against the syntax -/
mutual
def ckLT (kws : List (Str × Nat × List Str)) : Nat → TC → Expr → LT → Bool
  | 0, _, _, _ => false
  | n + 1, tc, e, t => match t with
    | .var i => (match e with
      | .Name x _ => decide (tc.N[i]? = some x) && locB tc.sc x && (tc.fn x || lcB' tc.sc x)
      | _ => false)
    | .tup lts => (match e with
      | .Tuple es _ _ => es.all notStar && decide (lts.length = es.length) && ckLTs kws n tc es lts
      | _ => false)
    | .ix x y => (match e with
      | .Subscript a b _ => plainIx b && ckE kws n tc a x && ckE kws n tc b y
      | _ => false)
def ckLTs (kws : List (Str × Nat × List Str)) : Nat → TC → List Expr → List LT → Bool
  | 0, _, _, _ => false
  | n + 1, tc, es, ts => match es, ts with
    | [], [] => true
    | e :: es, t :: ts => notStar e && ckLT kws n tc e t && ckLTs kws n tc es ts
    | _, _ => false
end
/-- name = a comprehension that is stored from within -/
def ckSet (kws : List (Str × Nat × List Str)) (n : Nat) (tc : TC) (e : Expr) (x : E) : Bool := match x with
  | .lc x p i cs => (match e with
    | .ListComp elt [⟨tg, it, ifs, 0⟩] scope _ => blkC tc.N tc.sc scope (ownOf tc (varsP p)) && noSetI it && ckI kws n tc tg it i && ckP (tc.blk scope) n tg p && ckC kws n (tc.blk scope) ifs cs && ckE kws n (tc.blk scope) elt x
    | _ => false)
  | .lc2 x p i p2 i2 => (match e with
    | .ListComp elt [⟨tg, it, [], 0⟩, ⟨tg1, it1, [], 0⟩] scope _ => blkC tc.N tc.sc scope (ownOf tc (varsP p ++ varsP p2)) && noSetI it && noSetI it1 && ckI kws n tc tg it i && ckP (tc.blk scope) n tg p && ckI kws n (tc.blk scope) tg1 it1 i2 && ckP (tc.blk scope) n tg1 p2 && ckE kws n (tc.blk scope) elt x
    | _ => false)
  | .dc x y p i => (match e with
    | .DictComp kx vx [⟨tg, it, [], 0⟩] scope _ => blkC tc.N tc.sc scope (ownOf tc (varsP p)) && noSetI it && ckI kws n tc tg it i && ckP (tc.blk scope) n tg p && ckE kws n (tc.blk scope) kx x && ckE kws n (tc.blk scope) vx y
    | _ => false)
  | _ => false
/-- a plain name's place -/
def ckV (tc : TC) (e : Expr) (i : Nat) (x : Str) : Bool := match e with
  | .Name y _ => decide (y = x) && decide (tc.N[i]? = some x) && lcB' tc.sc x
  | _ => false
def ckPar (kws : List (Str × Nat × List Str)) (n : Nat) (tc : TC) (ts vs : List Expr) (names : List Str) (t : LT) (x : E) : Bool := match t, x with
  | .tup [.var i, .var j], .tup xs => (match ts, vs, names with
    | [a, b], [va, vb], [na, nb] => ckV tc a i na && ckV tc b j nb && decide (i ≠ j) && ckEs kws n tc [va, vb] xs
    | _, _, _ => false)
  | .tup [.var i, .var j, .var k], .tup xs => (match ts, vs, names with
    | [a, b, c], [va, vb, vc], [na, nb, nc] => ckV tc a i na && ckV tc b j nb && ckV tc c k nc && decide (i ≠ j) && decide (i ≠ k) && decide (j ≠ k) && ckEs kws n tc [va, vb, vc] xs
    | _, _, _ => false)
  | _, _ => false
def ckAsg (kws : List (Str × Nat × List Str)) (n : Nat) (tc : TC) (tg e : Expr) (t : LT) (x : E) : Bool := match tg with
  | .Name y py => (match t with
    | .var i => decide (tc.N[i]? = some y) && (if swB tc.sc e y py then lcB' tc.sc y && (match x with
      | .mk x => ckSet kws n tc e x
      | x => ckSet kws n tc e x) else locB tc.sc y && (tc.fn y || lcB' tc.sc y) && ckE kws n tc e x)
    | _ => false)
  | .Tuple ts _ _ => (match e with
    | .Tuple vs _ _ => (match swFull tc.sc ts vs with
      | some none => ckLT kws n tc tg t && ckE kws n tc e x
      | some (some names) => ckPar kws n tc ts vs names t x
      | none => false)
    | e => ckLT kws n tc tg t && ckE kws n tc e x)
  | .Subscript _ _ _ => ckLT kws n tc tg t && ckE kws n tc e x
  | _ => false
mutual
def ckS (kws : List (Str × Nat × List Str)) : Nat → TC → Stmt → S → Bool
  | 0, _, _, _ => false
  | n + 1, tc, st, s => match s with
    | .bad => true
    | .expr x => (match st with
      | .Expr e _ => notComp e && ckE kws n tc e x
      | _ => false)
    | .app x y => (match st with
      | .Expr (.Call (.Attribute a m ap) [e] [] cp) _ => decide (m = "append") && noBase a && notStar e && (ap.endLine == cp.line) && ckE kws n tc a x && ckE kws n tc e y
      | _ => false)
    | .asg t x => (match st with
      | .Assign [tg] e _ => ckAsg kws n tc tg e t x
      | _ => false)
    | .iff x as bs => (match st with
      | .If c a b _ => ckT kws n tc c x && ckSs kws n tc a as && ckSs kws n tc b bs
      | _ => false)
    | .for p i b => (match st with
      | .For tg it body [] _ => noSetI it && ckI kws n tc tg it i && ckP tc n tg p && ckSs kws n tc body b
      | _ => false)
    | .while x b => (match st with
      | .While c body [] _ => ckT kws n tc c x && ckSs kws n tc body b
      | _ => false)
    | .ret x => (match st with
      | .Return (some e) _ => ckE kws n tc e x
      | _ => false)
    | .retN => (match st with
      | .Return none _ => true
      | _ => false)
    | .brk => (match st with
      | .Break _ => true
      | _ => false)
    | .pass => (match st with
      | .Pass _ => true
      | _ => false)
def ckSs (kws : List (Str × Nat × List Str)) : Nat → TC → List Stmt → List S → Bool
  | 0, _, _, _ => false
  | n + 1, tc, sts, ss => match sts, ss with
    | [], [] => true
    | st :: sts, s :: ss => ckS kws n tc st s && ckSs kws n tc sts ss
    | _, _ => false
end
section
variable {X : Cx} {CX : CXT} {E : XK} {Φ : Str → Option Fn} {G : Str → Option D} {kws : List (Str × Nat × List Str)} {n m : Nat} {tc : TC}
theorem ckLT_ok (g : Good X CX E Φ G kws n tc) : ∀ m, (∀ e t, ckLT kws m tc e t = true → TgOk X e (asgT ⟨run Φ G n, G⟩ t)) ∧ ∀ es ts, ckLTs kws m tc es ts = true → TgsOk X es (asgTs ⟨run Φ G n, G⟩ ts) := by
  intro m
  induction m with
  | zero => exact ⟨fun e t h => (by unfold ckLT at h; cases h), fun es ts h => (by unfold ckLTs at h; cases h)⟩
  | succ m ih =>
    have sn := snd_all (CX := CX) (Φ := Φ) (G := G) (kws := kws) (n := n) m
    refine ⟨fun e t h => ?_, fun es ts h => ?_⟩
    · unfold ckLT at h
      split at h
      · split at h
        · simp only [Bool.and_eq_true, decide_eq_true_eq] at h
          exact tg_var g.nd (by rw [g.N]; exact h.1.1) (g.lc h.1.2) (g.st h.2)
        · cases h
      · split at h
        · simp only [Bool.and_eq_true, decide_eq_true_eq] at h
          exact tg_tup g.calm h.1.1 h.1.2 (ih.2 _ _ h.2)
        · cases h
      · split at h
        · simp only [Bool.and_eq_true] at h
          exact tg_ix g.u64 h.1.1 (sn.e g h.1.2).1 (sn.e g h.2).1
        · cases h
    · unfold ckLTs at h
      split at h
      · exact tgs_nil
      · simp only [Bool.and_eq_true] at h
        exact tgs_cons h.1.1 (ih.1 _ _ h.1.2) (ih.2 _ _ h.2)
      · cases h
theorem ckSet_ok (g : Good X CX E Φ G kws n tc) {i : Nat} {y : Str} {py pos : Pos} {e : Expr} {x : Pv.E} (hi : tc.N[i]? = some y) (hsw : swB tc.sc e y py = true) (hl : lcB' tc.sc y = true) (h : ckSet kws m tc e x = true) : SetN X (wE E) (.Assign [.Name y py] e pos) i (evE ⟨run Φ G n, G⟩ x) := by
  have sn := snd_all (CX := CX) (Φ := Φ) (G := G) (kws := kws) (n := n) m
  have hi' : X.N[i]? = some y := by rw [g.N]; exact hi
  have hl' : X.env.scope.names.lookup y = some .local := by rw [g.sc]; exact lcB_ok hl
  rw [← g.sc] at hsw
  unfold ckSet at h
  split at h
  · rename_i x p i cs
    split at h
    · simp only [Bool.and_eq_true] at h
      obtain ⟨⟨⟨⟨⟨h1, h2⟩, h3⟩, h4⟩, h5⟩, h6⟩ := h
      rw [show evE ⟨run Φ G n, G⟩ (.lc x p i cs) = lcF p (evI ⟨run Φ G n, G⟩ i) (evCs ⟨run Φ G n, G⟩ cs) (evE ⟨run Φ G n, G⟩ x) from by funext ρ M; rw [evE] <;> rfl]
      exact pv_setLc g.calm g.nd hi' hl' g.kind hsw (sn.i g h3) (g.ok h1) (ownOf_ix tc _) (fun s H C cl fp => (ckP_ok (g.blk h1 s H C cl fp) m).1 _ _ h4) (fun s H C cl fp => sn.c (g.blk h1 s H C cl fp) h5) (fun s H C cl fp => (sn.e (g.blk h1 s H C cl fp) h6).1) fun _ => folded_ok h2
    · cases h
  · rename_i x p i p2 i2
    split at h
    · simp only [Bool.and_eq_true] at h
      obtain ⟨⟨⟨⟨⟨⟨⟨h1, h2⟩, h2'⟩, h3⟩, h4⟩, h5⟩, h6⟩, h7⟩ := h
      rw [show evE ⟨run Φ G n, G⟩ (.lc2 x p i p2 i2) = lc2F p (evI ⟨run Φ G n, G⟩ i) p2 (evI ⟨run Φ G n, G⟩ i2) (evE ⟨run Φ G n, G⟩ x) from by funext ρ M; rw [evE] <;> rfl]
      exact pv_setLc2 g.calm g.nd hi' hl' g.kind hsw (sn.i g h3) (g.ok h1) (ownOf_ix tc _) (fun s H C cl fp => (ckP_ok (g.blk h1 s H C cl fp) m).1 _ _ h4) (fun s H C cl fp => sn.i (g.blk h1 s H C cl fp) h5) (fun s H C cl fp => (ckP_ok (g.blk h1 s H C cl fp) m).1 _ _ h6) (fun s H C cl fp => (sn.e (g.blk h1 s H C cl fp) h7).1) (fun _ => folded_ok h2) fun _ _ => folded_ok h2'
    · cases h
  · rename_i x y p i
    split at h
    · simp only [Bool.and_eq_true] at h
      obtain ⟨⟨⟨⟨⟨h1, h2⟩, h3⟩, h4⟩, h5⟩, h6⟩ := h
      rw [show evE ⟨run Φ G n, G⟩ (.dc x y p i) = dcF p (evI ⟨run Φ G n, G⟩ i) (evE ⟨run Φ G n, G⟩ x) (evE ⟨run Φ G n, G⟩ y) from by funext ρ M; rw [evE] <;> rfl]
      exact pv_setDc g.u64 g.calm g.nd hi' hl' g.kind hsw (sn.i g h3) (g.ok h1) (ownOf_ix tc _) (fun s H C cl fp => (ckP_ok (g.blk h1 s H C cl fp) m).1 _ _ h4) (fun s H C cl fp => (sn.e (g.blk h1 s H C cl fp) h5).1) (fun s H C cl fp => (sn.e (g.blk h1 s H C cl fp) h6).1) fun _ => folded_ok h2
    · cases h
  · cases h
theorem ckV_ok (g : Good X CX E Φ G kws n tc) {e : Expr} {i : Nat} {x : Str} (h : ckV tc e i x = true) : ∃ p, e = .Name x p ∧ X.N[i]? = some x ∧ X.env.scope.names.lookup x = some .local := by
  unfold ckV at h
  split at h
  · simp only [Bool.and_eq_true, decide_eq_true_eq] at h
    obtain ⟨⟨rfl, h2⟩, h3⟩ := h
    exact ⟨_, rfl, by rw [g.N]; exact h2, by rw [g.sc]; exact lcB_ok h3⟩
  · cases h
theorem ckPar_ok (g : Good X CX E Φ G kws n tc) {ts vs : List Expr} {names : List Str} {t : LT} {x : Pv.E} {k1 k2 : Nat} {p1 p2 pos : Pos} (hw : swFull tc.sc ts vs = some (some names)) (h : ckPar kws m tc ts vs names t x = true) :
    PS X (.Assign [.Tuple ts k1 p1] (.Tuple vs k2 p2) pos) (tS (rc X) (wE E) (asgF (evE ⟨run Φ G n, G⟩ x) (asgT ⟨run Φ G n, G⟩ t))) := by
  have sn := snd_all (CX := CX) (Φ := Φ) (G := G) (kws := kws) (n := n) m
  rw [← g.sc] at hw
  unfold ckPar at h
  split at h
  · rename_i i j xs
    split at h
    · simp only [Bool.and_eq_true, decide_eq_true_eq] at h
      obtain ⟨⟨⟨h1, h2⟩, h3⟩, h4⟩ := h
      obtain ⟨pa, rfl, a1, a2⟩ := ckV_ok g h1
      obtain ⟨pb, rfl, b1, b2⟩ := ckV_ok g h2
      rw [show evE ⟨run Φ G n, G⟩ (.tup xs) = tupF (evEs ⟨run Φ G n, G⟩ xs) from by funext ρ M; rw [evE] <;> rfl]
      exact pv_par2 g.calm g.nd g.kind a1 b1 h3 a2 b2 (sn.es g h4).1 hw
    · cases h
  · rename_i i j k xs
    split at h
    · simp only [Bool.and_eq_true, decide_eq_true_eq] at h
      obtain ⟨⟨⟨⟨⟨⟨h1, h2⟩, h2'⟩, h3⟩, h3'⟩, h3''⟩, h4⟩ := h
      obtain ⟨pa, rfl, a1, a2⟩ := ckV_ok g h1
      obtain ⟨pb, rfl, b1, b2⟩ := ckV_ok g h2
      obtain ⟨pc, rfl, c1, c2⟩ := ckV_ok g h2'
      rw [show evE ⟨run Φ G n, G⟩ (.tup xs) = tupF (evEs ⟨run Φ G n, G⟩ xs) from by funext ρ M; rw [evE] <;> rfl]
      exact pv_par3 g.calm g.nd g.kind a1 b1 c1 h3 h3' h3'' a2 b2 c2 (sn.es g h4).1 hw
    · cases h
  · cases h
theorem ckAsg_ok (g : Good X CX E Φ G kws n tc) {tg e : Expr} {t : LT} {x : Pv.E} {pos : Pos} (h : ckAsg kws m tc tg e t x = true) : PS X (.Assign [tg] e pos) (tS (rc X) (wE E) (asgF (evE ⟨run Φ G n, G⟩ x) (asgT ⟨run Φ G n, G⟩ t))) := by
  have sn := snd_all (CX := CX) (Φ := Φ) (G := G) (kws := kws) (n := n) m
  unfold ckAsg at h
  split at h
  · rename_i y py
    split at h
    · rename_i i
      simp only [Bool.and_eq_true, decide_eq_true_eq] at h
      obtain ⟨hi, h⟩ := h
      split at h
      · rename_i hsw
        simp only [Bool.and_eq_true] at h
        obtain ⟨hl, h⟩ := h
        split at h
        · rename_i x
          rw [show evE ⟨run Φ G n, G⟩ (.mk x) = mkF (evE ⟨run Φ G n, G⟩ x) from by funext ρ M; rw [evE] <;> rfl]
          exact setN_mk (ckSet_ok g hi hsw hl h)
        · exact setN_val (ckSet_ok g hi hsw hl h)
      · rename_i hsw
        simp only [Bool.and_eq_true] at h
        exact pv_asg (sn.e g h.2).1 (tg_var g.nd (by rw [g.N]; exact hi) (g.lc h.1.1) (g.st h.1.2)) rfl (by rw [sw_comp g.kind, g.sc]; exact congrArg pure (by simpa using hsw)) (sw_no2 rfl)
    · cases h
  · split at h
    · split at h
      · rename_i hw
        simp only [Bool.and_eq_true] at h
        exact pv_asg (sn.e g h.2).1 ((ckLT_ok g m).1 _ _ h.1) rfl (sw_tg rfl) (sw_full g.kind (by rw [g.sc]; exact hw))
      · rename_i names hw
        exact ckPar_ok g hw h
      · cases h
    · rename_i hne
      simp only [Bool.and_eq_true] at h
      refine pv_asg (sn.e g h.2).1 ((ckLT_ok g m).1 _ _ h.1) rfl (sw_tg rfl) (sw_no1 ?_)
      cases e <;> first | rfl | exact absurd rfl (hne _ _ _)
  · simp only [Bool.and_eq_true] at h
    exact pv_asg (sn.e g h.2).1 ((ckLT_ok g m).1 _ _ h.1) rfl (sw_tg rfl) (sw_no2 rfl)
  · cases h
theorem ckS_ok (g : Good X CX E Φ G kws n tc) : ∀ m, (∀ st s, ckS kws m tc st s = true → PS X st (tS (rc X) (wE E) (evS ⟨run Φ G n, G⟩ s))) ∧ ∀ sts ss, ckSs kws m tc sts ss = true → PSs X sts (tS (rc X) (wE E) (evSs ⟨run Φ G n, G⟩ ss)) := by
  intro m
  induction m with
  | zero => exact ⟨fun e t h => (by unfold ckS at h; cases h), fun es ts h => (by unfold ckSs at h; cases h)⟩
  | succ m ih =>
    have sn := snd_all (CX := CX) (Φ := Φ) (G := G) (kws := kws) (n := n) m
    refine ⟨fun st s h => ?_, fun sts ss h => ?_⟩
    · unfold ckS at h
      split at h
      · rw [show evS ⟨run Φ G n, G⟩ .bad = fun _ _ => none from by funext ρ M; rw [evS]]
        exact pv_never
      · rename_i x
        split at h
        · simp only [Bool.and_eq_true] at h
          rw [show evS ⟨run Φ G n, G⟩ (.expr x) = fun ρ M => bndS (evE ⟨run Φ G n, G⟩ x ρ M) ρ fun _ M1 => some (.next ρ, M1) from by funext ρ M; rw [evS]]
          exact pv_sexpr h.1 (sn.e g h.2).1
        · cases h
      · rename_i x y
        split at h
        · simp only [Bool.and_eq_true, decide_eq_true_eq] at h
          obtain ⟨⟨⟨⟨⟨rfl, h2⟩, h3⟩, h4⟩, h5⟩, h6⟩ := h
          rw [show evS ⟨run Φ G n, G⟩ (.app x y) = appF (evE ⟨run Φ G n, G⟩ x) (evE ⟨run Φ G n, G⟩ y) from by funext ρ M; rw [evS] <;> rfl]
          exact pv_app (sn.e g h5).1 (sn.e g h6).1 h2 h3 h4
        · cases h
      · rename_i t x
        split at h
        · rw [show evS ⟨run Φ G n, G⟩ (.asg t x) = asgF (evE ⟨run Φ G n, G⟩ x) (asgT ⟨run Φ G n, G⟩ t) from by funext ρ M; rw [evS] <;> rfl]
          exact ckAsg_ok g h
        · cases h
      · rename_i x as bs
        split at h
        · simp only [Bool.and_eq_true] at h
          rw [show evS ⟨run Φ G n, G⟩ (.iff x as bs) = fun ρ M => bndS (truF (evE ⟨run Φ G n, G⟩ x) ρ M) ρ fun t M1 => if t then evSs ⟨run Φ G n, G⟩ as ρ M1 else evSs ⟨run Φ G n, G⟩ bs ρ M1 from by funext ρ M; rw [evS] <;> rfl]
          exact pv_if (sn.t g h.1.1) (ih.2 _ _ h.1.2) (ih.2 _ _ h.2)
        · cases h
      · rename_i p i b
        split at h
        · simp only [Bool.and_eq_true] at h
          rw [show evS ⟨run Φ G n, G⟩ (.for p i b) = forF p (evI ⟨run Φ G n, G⟩ i) (evSs ⟨run Φ G n, G⟩ b) from by funext ρ M; rw [evS] <;> rfl]
          exact pv_for g.po g.calm (sn.i g h.1.1.2) ((ckP_ok g m).1 _ _ h.1.2) (ih.2 _ _ h.2) fun _ => folded_ok h.1.1.1
        · cases h
      · rename_i x b
        split at h
        · simp only [Bool.and_eq_true] at h
          rw [show evS ⟨run Φ G n, G⟩ (.while x b) = whlF (evE ⟨run Φ G n, G⟩ x) (evSs ⟨run Φ G n, G⟩ b) from by funext ρ M; rw [evS] <;> rfl]
          exact pv_while g.po (sn.t g h.1) (ih.2 _ _ h.2)
        · cases h
      · rename_i x
        split at h
        · rw [show evS ⟨run Φ G n, G⟩ (.ret x) = fun ρ M => bndS (evE ⟨run Φ G n, G⟩ x ρ M) ρ fun d M1 => some (.ret d, M1) from by funext ρ M; rw [evS]]
          exact pv_ret (sn.e g h).1
        · cases h
      · split at h
        · rw [show evS ⟨run Φ G n, G⟩ .retN = fun ρ M => some (.ret .non, M) from by funext ρ M; rw [evS]]
          exact pv_retN
        · cases h
      · split at h
        · rw [show evS ⟨run Φ G n, G⟩ .brk = fun ρ M => some (.brk ρ, M) from by funext ρ M; rw [evS]]
          exact pv_break
        · cases h
      · split at h
        · rw [show evS ⟨run Φ G n, G⟩ .pass = fun ρ M => some (.next ρ, M) from by funext ρ M; rw [evS]]
          exact pv_pass
        · cases h
    · unfold ckSs at h
      split at h
      · rw [show evSs ⟨run Φ G n, G⟩ [] = fun ρ M => some (.next ρ, M) from by funext ρ M; rw [evSs]]
        exact pv_snil
      · rename_i st sts s ss
        simp only [Bool.and_eq_true] at h
        rw [show evSs ⟨run Φ G n, G⟩ (s :: ss) = fun ρ M => seqS (evS ⟨run Φ G n, G⟩ s ρ M) fun ρ' M' => evSs ⟨run Φ G n, G⟩ ss ρ' M' from by funext ρ M; rw [evSs]]
        exact pv_scons (ih.1 _ _ h.1) (ih.2 _ _ h.2)
      · cases h
end
end Pv

end T_PvZe
section T_PvZf
set_option maxRecDepth 100000
set_option maxHeartbeats 4000000
namespace Pv
open PySem PySem.Spec PyProof.Rows L2
/-! ### values without cells, elsewhere -/
section
variable {R : Rc} {ψ ψ' φ φ' φ1 : List Addr} {H H' H1 : Hp} {a p : Addr} {vs : List V} {M : List C}
def KeepF (ψ φ : List Addr) (H : Hp) (ψ' φ' : List Addr) (H' : Hp) : Prop := ∀ (a : Addr) (o : HO), a ∉ ψ → a ∉ φ → H a = some o → a ∉ ψ' ∧ a ∉ φ' ∧ H' a = some o
theorem AtT.flat (k : KeepF ψ φ H ψ' φ' H') (h : AtT R ψ φ H a vs) : AtT R ψ' φ' H' a vs := by
  rcases h with ⟨h1, h2, h3 | ⟨o, h3⟩⟩ | h
  · obtain ⟨q1, q2, q3⟩ := k a _ h1 h2 h3
    exact .inl ⟨q1, q2, .inl q3⟩
  · obtain ⟨q1, q2, q3⟩ := k a _ h1 h2 h3
    exact .inl ⟨q1, q2, .inr ⟨o, q3⟩⟩
  · exact .inr h
theorem AtL.flat (k : KeepF ψ φ H ψ' φ' H') (h : AtL R ψ φ H a vs) : AtL R ψ' φ' H' a vs := by
  rcases h with ⟨h1, h2, h3 | ⟨o, h3⟩⟩ | h
  · obtain ⟨q1, q2, q3⟩ := k a _ h1 h2 h3
    exact .inl ⟨q1, q2, .inl q3⟩
  · obtain ⟨q1, q2, q3⟩ := k a _ h1 h2 h3
    exact .inl ⟨q1, q2, .inr ⟨o, q3⟩⟩
  · exact .inr h
mutual
theorem Rep.flat (k : KeepF ψ φ H ψ' φ' H') : ∀ (d : D) (v : V), flatD d = true → Rep R ψ φ H d v → Rep R ψ' φ' H' d v
  | .non, v, _, h => by rw [Rep] at *; exact h
  | .bl _, v, _, h => by rw [Rep] at *; exact h
  | .int _, v, _, h => by rw [Rep] at *; exact h
  | .str _, v, _, h => by rw [Rep] at *; exact h
  | .tup ds, v, fl, h => by
    rw [flatD] at fl
    rw [Rep] at *
    obtain ⟨a, vs, e, h1, h2⟩ := h
    exact ⟨a, vs, e, h1.flat k, Reps.flat k ds vs fl h2⟩
  | .lst ds, v, fl, h => by
    rw [flatD] at fl
    rw [Rep] at *
    obtain ⟨a, vs, e, h1, h2⟩ := h
    exact ⟨a, vs, e, h1.flat k, Reps.flat k ds vs fl h2⟩
  | .dic ks ws, v, fl, h => by
    rw [flatD, Bool.and_eq_true] at fl
    rw [Rep] at *
    obtain ⟨a, xs, od, kv, vv, e, ⟨h1, h2, h3⟩, h4, h5, h6⟩ := h
    exact ⟨a, xs, od, kv, vv, e, k _ _ h1 h2 h3, Reps.flat k ks kv fl.1 h4, Reps.flat k ws vv fl.2 h5, h6⟩
  | .cell n, v, fl, h => by rw [flatD] at fl; cases fl
  | .fn _, v, _, h => by rw [Rep] at *; exact h
  | .clo _ _, v, _, h => by rw [Rep] at *; exact h
  | .exn _ _ _, v, _, h => by rw [Rep] at *; exact h
theorem Reps.flat (k : KeepF ψ φ H ψ' φ' H') : ∀ (ds : List D) (vs : List V), flatDs ds = true → Reps R ψ φ H ds vs → Reps R ψ' φ' H' ds vs
  | [], vs, _, h => by rw [Reps] at *; exact h
  | d :: ds, vs, fl, h => by
    rw [flatDs, Bool.and_eq_true] at fl
    rw [Reps] at *
    obtain ⟨v, r, e, h1, h2⟩ := h
    exact ⟨v, r, e, Rep.flat k d v fl.1 h1, Reps.flat k ds r fl.2 h2⟩
end
theorem frz_rep {d x : D} {v : V} (hc : Cells R (ψ ++ φ) φ1 H M) (r : Rep R (ψ ++ φ) φ1 H d v) (e : frz M d = some x) : Rep R ψ φ H x v := by
  have k : KeepF (ψ ++ φ) φ1 H ψ φ H := fun a o h1 h2 h3 => ⟨fun m => h1 (List.mem_append_left _ m), fun m => h1 (List.mem_append_right _ m), h3⟩
  unfold frz at e
  simp only at e
  split at e
  · rename_i fl
    cases e
    by_cases hn : ∃ n, d = .cell n
    · obtain ⟨n, rfl⟩ := hn
      rw [Rep] at r
      obtain ⟨a, rfl, ea⟩ := r
      obtain ⟨c, e1, h1⟩ := hc.at ea
      have ap := hc.apart a (List.mem_of_getElem? ea)
      have a1 : a ∉ ψ := fun m => ap (List.mem_append_left _ m)
      have a2 : a ∉ φ := fun m => ap (List.mem_append_right _ m)
      cases c with
      | lst xs =>
        have ed : drf M (.cell n) = .lst xs := by simp only [drf, e1]
        rw [ed] at fl ⊢
        obtain ⟨vs, h1, h2⟩ := h1
        rw [Rep]
        rw [flatD] at fl
        exact ⟨a, vs, rfl, .inl ⟨a1, a2, .inl h1⟩, h2.flat k _ _ fl⟩
      | dic ks ws =>
        have ed : drf M (.cell n) = .dic ks ws := by simp only [drf, e1]
        rw [ed] at fl ⊢
        obtain ⟨xs, od, kv, vv, h1, h2, h3, h4⟩ := h1
        rw [Rep]
        rw [flatD, Bool.and_eq_true] at fl
        exact ⟨a, xs, od, kv, vv, rfl, ⟨a1, a2, h1⟩, h2.flat k _ _ fl.1, h3.flat k _ _ fl.2, h4⟩
    · have hn : ∀ n, d ≠ .cell n := fun n e => hn ⟨n, e⟩
      have ed : drf M d = d := by
        cases d <;> first | rfl | exact absurd rfl (hn _)
      rw [ed] at fl ⊢
      exact Rep.flat k d v fl r
  · cases e
theorem frz_exn {d x : D} {cls : Value} {dx : Option Addr} (r : ExnOk R (ψ ++ φ) φ1 H d cls dx) (e : frz M d = some x) : ExnOk R ψ φ H x cls dx := by
  have k : KeepF (ψ ++ φ) φ1 H ψ φ H := fun a o h1 h2 h3 => ⟨fun m => h1 (List.mem_append_left _ m), fun m => h1 (List.mem_append_right _ m), h3⟩
  unfold frz at e
  simp only at e
  split at e
  · rename_i fl
    cases e
    cases d with
    | exn c ns ds =>
      have ed : drf M (.exn c ns ds) = .exn c ns ds := rfl
      rw [ed] at fl ⊢
      rw [flatD] at fl
      obtain ⟨C, h1, h2, h3⟩ := r
      refine ⟨C, h1, h2, fun ne => ?_⟩
      obtain ⟨d, vs, q1, q2, q3⟩ := h3 ne
      exact ⟨d, vs, q1, q2, q3.flat k _ _ fl⟩
    | _ => exact r.elim
  · cases e
theorem start_ok {ds : List D} (h : Reps R ψ φ H ds vs) (N : List Str) : EnvOk R ψ φ H (startE N.length ds) (L2.start N vs) := by
  have hl := h.length
  refine ⟨by unfold startE L2.start; simp [hl], fun i d e => ?_⟩
  unfold startE at e
  have hi : i < ds.length := by
    by_cases hi : i < ds.length
    · exact hi
    · rw [List.getElem?_append_right (by simp; omega)] at e
      have := List.mem_of_getElem? e
      simp at this
  rw [List.getElem?_append_left (by simpa using hi), List.getElem?_map] at e
  obtain ⟨d', e1, e2⟩ := Option.map_eq_some_iff.mp e
  cases e2
  obtain ⟨v, q1, q2⟩ := h.get e1
  refine ⟨v, ?_, q2⟩
  unfold L2.start
  rw [List.getElem?_append_left (by simp; omega), List.getElem?_map, q1]
  rfl
theorem endF_some {r : SRes} {z : Except D D × List C} (h : endF r = some z) : (∃ ρ M, r = some (.next ρ, M) ∧ z = (.ok .non, M)) ∨ (∃ d M, r = some (.ret d, M) ∧ z = (.ok d, M)) ∨ ∃ x ρ M, r = some (.exc x ρ, M) ∧ z = (.error x, M) := by
  unfold endF at h
  split at h
  · cases h; exact .inl ⟨_, _, rfl, rfl⟩
  · cases h; exact .inr (.inl ⟨_, _, rfl, rfl⟩)
  · cases h; exact .inr (.inr ⟨_, _, _, rfl, rfl⟩)
  · cases h
theorem frzR_some {M : List C} {r : Res D} {z : Except D D × List C} (h : frzR M r = some z) : (∃ d M1 x, r = some (.ok d, M1) ∧ frz M1 d = some x ∧ z = (.ok x, M)) ∨ ∃ d M1 x, r = some (.error d, M1) ∧ frz M1 d = some x ∧ z = (.error x, M) := by
  unfold frzR at h
  split at h
  · split at h
    · cases h; exact .inl ⟨_, _, _, rfl, by assumption, rfl⟩
    · cases h
  · split at h
    · cases h; exact .inr ⟨_, _, _, rfl, by assumption, rfl⟩
    · cases h
  · cases h
/-- the body's reading keeps the def's promise -/
theorem body_ok {Γ : Ctx} {F : Fn} {N : List Str} {E : XK} {Q : VK} {ds : List D} {o : Except D D} {M' : List C} (hN : F.many = N.length) (hc : Cells R ψ φ H M) (r : Reps R ψ φ H ds vs) (e : runB Γ F ds M = some (o, M'))
    (hp : PostX R (wE E) ψ φ H [] (fun d φ' H' => ∀ v, Rep R ψ φ' H' d v → Q v H') o M') : tS R (wE E) (evSs Γ F.body) { nx := fun _ H' => Q .non H', rt := Q } (L2.start N vs) H := by
  unfold runB at e
  rw [hN] at e
  split at e
  · rename_i hpf
    rw [Bool.and_eq_true] at hpf
    have k0 : KeepF ψ φ H (ψ ++ φ) [] H := fun a o h1 h2 h3 => ⟨fun m => (List.mem_append.mp m).elim h1 h2, (fun m => nomatch m), h3⟩
    have c0 : Cells R (ψ ++ φ) [] H [] := ⟨rfl, List.nodup_nil, (fun a m => nomatch m), fun a m => (List.mem_append.mp m).elim (hc.hid a) hc.some, fun n a c h1 => by simp at h1⟩
    have rs := start_ok (r.flat k0 _ _ hpf.2) N
    have back : ∀ {φ' : List Addr} {H' : Hp}, Fr [] H φ' H' → Fr φ H φ H' ∧ Cells R ψ φ H' M := fun {φ' H'} f => by
      have sm : Same H H' := fun b o e => f.keep b o (fun m => nomatch m) e
      exact ⟨.of_same sm, hc.same sm⟩
    rcases frzR_some e with ⟨d, M1, x, e1, e2, e3⟩ | ⟨d, M1, x, e1, e2, e3⟩
    · cases e3
      rcases endF_some e1 with ⟨ρ', M2, q1, q2⟩ | ⟨d', M2, q1, q2⟩ | ⟨y, ρ', M2, q1, q2⟩
      · cases q2
        refine ⟨ψ ++ φ, [], _, [], _, rs, c0, q1, fun σ' φ' H' f c e => ?_⟩
        obtain ⟨b1, b2⟩ := back f
        exact hp φ H' b1 b2 .non (frz_rep c (d := .non) .mkNon e2)
      · cases q2
        refine ⟨ψ ++ φ, [], _, [], _, rs, c0, q1, fun v φ' H' f c e => ?_⟩
        obtain ⟨b1, b2⟩ := back f
        exact hp φ H' b1 b2 v (frz_rep c e e2)
      · cases q2
    · cases e3
      rcases endF_some e1 with ⟨ρ', M2, q1, q2⟩ | ⟨d', M2, q1, q2⟩ | ⟨y, ρ', M2, q1, q2⟩
      · cases q2
      · cases q2
      · cases q2
        refine ⟨ψ ++ φ, [], _, [], _, rs, c0, q1, fun cls dx σ' φ' H' f c e z => ?_⟩
        obtain ⟨b1, b2⟩ := back f
        exact hp cls dx φ H' b1 b2 (frz_exn z e2)
  · have rs := start_ok r N
    rcases endF_some e with ⟨ρ', M2, q1, q2⟩ | ⟨d', M2, q1, q2⟩ | ⟨y, ρ', M2, q1, q2⟩
    · cases q2
      exact ⟨ψ, φ, _, M, _, rs, hc, q1, fun σ' φ' H' f c e => hp φ' H' f c .non .mkNon⟩
    · cases q2
      exact ⟨ψ, φ, _, M, _, rs, hc, q1, fun v φ' H' f c e => hp φ' H' f c v e⟩
    · cases q2
      exact ⟨ψ, φ, _, M, _, rs, hc, q1, fun cls dx σ' φ' H' f c e z => hp cls dx φ' H' f c z⟩
end
/-! ### all defs of the text -/
section
variable {P : Program} {w : World} {K : PySem.W.Frag} {mg : Str → Option Value} {base : Heap} {Φ : Str → Option Fn} {G : Str → Option D} {kws : List (Str × Nat × List Str)}
theorem passAny {X : Cx} {E : XK} : Passes CX0 X E := fun _ _ _ _ _ _ _ h => h.elim
/-- a def of the text and its syntax -/
def DefOk (K : PySem.W.Frag) (mg : Str → Option Value) (kws : List (Str × Nat × List Str)) (m : Nat) (x : Str) (F : Fn) : Prop :=
  ∃ qual st f fd N, mg x = some (.ref f) ∧ FunD K x qual (defArgs st) (defBody st) (defScope st) [] [] f fd ∧ FnScope N F.ps (defScope st) ∧ F.many = N.length ∧ Binds K fd F.ps [] ∧
    (∀ j kn, (x, j, kn) ∈ kws → kn ≠ [] → j < F.ps.length ∧ F.ps.drop j = kn ∧ KBinds K fd F.ps kn (gK .none F.ps.length j) (gK .non F.ps.length j)) ∧
    ckSs kws m ⟨N, defScope st, fun _ => true⟩ (defBody st) F.body = true
theorem tab_ok {m : Nat} (hall : ∀ x F, Φ x = some F → DefOk K mg kws m x F) (hglob : ∀ x d, G x = some d → ∃ u v, mg x = some u ∧ RelV v u ∧ ∀ ψ φ H M, Cells ⟨P, w, K, mg⟩ ψ φ H M → Rep ⟨P, w, K, mg⟩ ψ φ H d v)
    (hblt : ∀ x ∈ bltNames, mg x = none) (hdom : ∀ p ∈ kws, p.1 ≠ "combinations" → ∃ F, Φ p.1 = some F) (hco : (("combinations" : Str), 0, ([] : List Str)) ∈ kws → mg "combinations" = some (.type "itertools.combinations")) : ∀ n, Tab P w K mg base CX0 Φ G kws n := by
  intro n
  induction n with
  | zero =>
    refine ⟨fun x F hF => ?_, hglob, hblt, fun _ => passAny, hdom, hco⟩
    obtain ⟨qual, st, f, fd, N, h1, h2, h3, h4, h5, h6, h7⟩ := hall x F hF
    have no : ∀ vs H Q E, ¬ spF ⟨P, w, K, mg⟩ Φ G 0 x F.ps.length vs H Q E := fun vs H Q E ⟨ψ, φ, M, ds, o, M', _, _, _, e, _⟩ => by cases e
    exact ⟨f, fd, h1, h2.kp, h5, h6, fun vs H Q E h => absurd h (no _ _ _ _), fun A outer s H args us vs Q E _ _ _ _ h => absurd h (no _ _ _ _)⟩
  | succ n ih =>
    refine ⟨fun x F hF => ?_, hglob, hblt, fun _ => passAny, hdom, hco⟩
    obtain ⟨qual, st, f, fd, N, h1, h2, h3, h4, h5, h6, h7⟩ := hall x F hF
    refine ⟨f, fd, h1, h2.kp, h5, h6, ?_⟩
    refine FunD.ok h2 h3 (fun vs H Q E ⟨ψ, φ, M, ds, o, M', _, r, l, _, _⟩ => by rw [r.length, l]) fun cdv A outer s H vs Q E hr ⟨ψ, φ, M, ds, o, M', hc, r, l, e, hp⟩ => ?_
    have g : Good (cxOf CX0 P w K mg base N qual (defScope st) f cdv A outer s H E).nox CX0 E Φ G kws n ⟨N, defScope st, fun _ => true⟩ :=
      ⟨rfl, h3.nd, rfl, h3.kind, fun _ _ => rfl, rfl, hr, PassesOwn.never, passAny, ih⟩
    refine ⟨_, PSs.nox ((ckS_ok g m).2 _ _ h7), ?_⟩
    rw [runA, hF] at e
    exact body_ok (R := ⟨P, w, K, mg⟩) h4 hc r e hp
theorem fn_at {m n : Nat} {x qual : Str} {F : Fn} {st : Stmt} {f : Addr} {fd : FuncData} {N : List Str} (T : Tab P w K mg base CX0 Φ G kws n) (hF : Φ x = some F) (h2 : FunD K x qual (defArgs st) (defBody st) (defScope st) [] [] f fd) (h3 : FnScope N F.ps (defScope st)) (h4 : F.many = N.length)
    (h7 : ckSs kws m ⟨N, defScope st, fun _ => true⟩ (defBody st) F.body = true) : FnOk P w K mg base CX0 (n + 1) f fd F.ps (spF ⟨P, w, K, mg⟩ Φ G (n + 1) x F.ps.length) := by
  refine FunD.ok h2 h3 (fun vs H Q E ⟨ψ, φ, M, ds, o, M', _, r, l, _, _⟩ => by rw [r.length, l]) fun cdv A outer s H vs Q E hr ⟨ψ, φ, M, ds, o, M', hc, r, l, e, hp⟩ => ?_
  have g : Good (cxOf CX0 P w K mg base N qual (defScope st) f cdv A outer s H E).nox CX0 E Φ G kws n ⟨N, defScope st, fun _ => true⟩ :=
    ⟨rfl, h3.nd, rfl, h3.kind, fun _ _ => rfl, rfl, hr, PassesOwn.never, passAny, T⟩
  refine ⟨_, PSs.nox ((ckS_ok g m).2 _ _ h7), ?_⟩
  rw [runA, hF] at e
  exact body_ok (R := ⟨P, w, K, mg⟩) h4 hc r e hp
/-- the scope, told -/
def fscB (N P : List Str) (sc : Scope) : Bool := (match sc.kind with | .function => true | _ => false) && !sc.isCoroutine && !sc.isGenerator && decide N.Nodup && decide (N.take P.length = P) && (P.all fun x => locB sc x) && sc.names.all fun y => (match y.2 with | .free => false | _ => true)
theorem fscB_ok {N P : List Str} {sc : Scope} (h : fscB N P sc = true) : FnScope N P sc := by
  unfold fscB at h
  simp only [Bool.and_eq_true, decide_eq_true_eq, List.all_eq_true, Bool.not_eq_true'] at h
  obtain ⟨⟨⟨⟨⟨⟨h1, h2⟩, h3⟩, h4⟩, h5⟩, h6⟩, h7⟩ := h
  refine ⟨?_, h2, h3, h4, h5, fun x hx => locB_ok (h6 x hx), fun y hy e => ?_⟩
  · split at h1
    · assumption
    · cases h1
  · have := h7 y hy
    rw [e] at this
    cases this
/-- how the arguments bind, told -/
def BindS (x qual : Str) (st : Stmt) (ps : List Str) : Prop := ∀ (kV doc pm : Value) (an : Option Addr) (cdv ct : Value) (us : List Value), us.length = ps.length → bindArgs (PySem.W.fnOf x qual (defArgs st) (defBody st) (defScope st) .none kV doc pm an cdv ct) ⟨us, []⟩ = pure (ps.zip us)
def BindK (x qual : Str) (st : Stmt) (ps : List Str) (j : Nat) (kn : List Str) : Prop := ∀ (kV doc pm : Value) (an : Option Addr) (cdv ct : Value) (us ws : List Value), us.length = j → ws.length = kn.length → bindArgs (PySem.W.fnOf x qual (defArgs st) (defBody st) (defScope st) .none kV doc pm an cdv ct) ⟨us, kn.zip ws⟩ = pure (ps.zip (us ++ ws))
theorem gK_rel {m j : Nat} {vs zs : List V} {us ws : List Value} (r : Vals vs us) (q : Vals zs ws) : Vals (gK .non m j vs zs) (gK .none m j us ws) := by
  unfold gK
  rw [r.length, q.length]
  split
  · exact r.append q
  · generalize m + 1 = k
    induction k with
    | zero => exact .nil
    | succ k ih => exact .cons rfl ih
theorem bindK_ok {x qual : Str} {st : Stmt} {ps kn : List Str} {j : Nat} {f : Addr} {fd : FuncData} (F : FunD K x qual (defArgs st) (defBody st) (defScope st) [] [] f fd) (h : BindK x qual st ps j kn) (hk : kn.length + j = ps.length) : KBinds K fd ps kn (gK .none ps.length j) (gK .non ps.length j) := by
  obtain ⟨oc, od, dV, kV, doc, pm, an, cdv, ct, osl, rfl, lk, hcd, hD, _⟩ := F.ex
  have e : dV = .none := by
    rcases hD with ⟨_, e⟩ | ⟨e, _⟩
    · exact e
    · exact absurd rfl e
  subst e
  refine ⟨fun s us ws _ hl => ?_, gK_rel⟩
  by_cases c : us.length = j ∧ j + ws.length = ps.length
  · have eg : gK Value.none ps.length j us ws = us ++ ws := by unfold gK; rw [if_pos c]
    rw [eg]
    exact .of_eq (h kV doc pm an cdv ct us ws c.1 (by omega))
  · have eg : gK Value.none ps.length j us ws = List.replicate (ps.length + 1) .none := by unfold gK; rw [if_neg c]
    rw [eg] at hl
    simp at hl
/-- one def of the text, told -/
structure DefT where
  x : Str
  st : Stmt
  N : List Str
  F : Fn
structure DefT.Ok (d : DefT) (kws : List (Str × Nat × List Str)) (m : Nat) : Prop where
  sc : fscB d.N d.F.ps (defScope d.st) = true
  many : d.F.many = d.N.length
  bind : BindS d.x d.x d.st d.F.ps
  bindK : ∀ j kn, (d.x, j, kn) ∈ kws → kn ≠ [] → j < d.F.ps.length ∧ d.F.ps.drop j = kn ∧ BindK d.x d.x d.st d.F.ps j kn
  ck : ckSs kws m ⟨d.N, defScope d.st, fun _ => true⟩ (defBody d.st) d.F.body = true
theorem DefT.defOk {d : DefT} {m : Nat} {f : Addr} {fd : FuncData} (h : d.Ok kws m) (hm : mg d.x = some (.ref f)) (F : FunD K d.x d.x (defArgs d.st) (defBody d.st) (defScope d.st) [] [] f fd) : DefOk K mg kws m d.x d.F := by
  refine ⟨d.x, d.st, f, fd, d.N, hm, F, fscB_ok h.sc, h.many, FunD.bindsN F (fun kV doc pm an cdv ct us hl => h.bind kV doc pm an cdv ct us hl), fun j kn hj hne => ?_, h.ck⟩
  obtain ⟨q1, q2, q3⟩ := h.bindK j kn hj hne
  refine ⟨q1, q2, bindK_ok F q3 ?_⟩
  rw [← q2, List.length_drop]
  omega
end
end Pv

end T_PvZf
section T_PvZg
set_option maxHeartbeats 0
/-! PvZg: the hook, with the fact that the name combinations stands for the type. -/
namespace Pv
open PySem PySem.Spec PyProof.Rows L2
def coB (K : PySem.W.Frag) : Bool := He.eqO (PySem.W.nsIn K mainGlobals "combinations") (some (some (.type "itertools.combinations")))
abbrev AlC : Type := He.AlD × Bool
def obsC (co : Bool) (n : Nat) (fa : List He.Fa) (fn : List He.DefD) (g : Addr → Option Obj) : AlC := (He.obsDG n fa fn g, !co || coB (He.frG g (He.asD g n)))
def hookC (co : Bool) (n : Nat) (fa : List He.Fa) (fn : List He.DefD) : PySem.W.Hook where
  α := AlC
  obs := fun s => obsC co n fa fn s.heap.get?
  val := fun _ => (He.valD fn, true)
  says := fun _ h => ∃ K : PySem.W.Frag, K.In h ∧ He.SaysD fa fn K ∧ (!co || coB K) = true
  of := fun _ _ e => ⟨_, He.frG_in, congrArg (fun z : AlC => z.1) e, congrArg (fun z : AlC => z.2) e⟩
  keeps := fun _ _ _ ⟨K, hK, c⟩ k => ⟨K, PySem.W.Frag.In.keeps hK k, c⟩
theorem obsC_eq {co : Bool} {n : Nat} {fa : List He.Fa} {fn : List He.DefD} {g : Addr → Option Obj} {s : Shared} (h : ∀ a, g a = s.heap.get? a) : obsC co n fa fn g = (hookC co n fa fn).obs s := by
  have e : g = s.heap.get? := funext h
  rw [e] <;> rfl
theorem co_mg {K : PySem.W.Frag} {h : Heap} {mg : Str → Option Value} (X : K.In h) (Gn : h.Ns mainGlobals mg) (c : (!true || coB K) = true) : mg "combinations" = some (.type "itertools.combinations") :=
  PySem.W.mg_of X Gn (He.eqO_ok c)
end Pv

end T_PvZg
section T_KA
set_option maxRecDepth 100000
namespace PvK
open PySem Pv
def b_is_whole : List S := [.ret (.and (.isi (.var 0) .int) (.not (.isi (.var 0) .bool)))]
def f_is_whole : Fn := ⟨["value"], 1, b_is_whole, true⟩
def n_is_whole : List Str := ["value"]
def b_is_number : List S := [.iff (.or (.not (.call "is_whole" [.var 0] [] [])) (.and (.cmp .notNone (.var 1) (.lit .non)) (.cmp .lt (.var 0) (.var 1)))) [.ret (.lit (.bl false))] [], .ret (.or (.cmp .isNone (.var 2) (.lit .non)) (.cmp .le (.var 0) (.var 2)))]
def f_is_number : Fn := ⟨["value", "low", "high"], 3, b_is_number, true⟩
def n_is_number : List Str := ["value", "low", "high"]
def b_is_tuple_of : List S := [.ret (.and (.isi (.var 0) .tuple) (.cmp .eq (.blt .len [.var 0]) (.var 1)))]
def f_is_tuple_of : Fn := ⟨["value", "many"], 2, b_is_tuple_of, true⟩
def n_is_tuple_of : List Str := ["value", "many"]
def b_is_floor_form : List S := [.iff (.or (.not (.isi (.var 0) .tuple)) (.not (.chain .le .le (.lit (.int 1)) (.blt .len [.var 0]) (.glob "MOST_ROWS")))) [.ret (.lit (.bl false))] [], .iff (.not (.blt .all [.lc (.and (.isi (.var 1) .tuple) (.chain .le .le (.lit (.int 1)) (.blt .len [.var 1]) (.glob "MOST_WIDE"))) (.var 1) (.ex (.var 0)) []])) [.ret (.lit (.bl false))] [], .iff (.or (.not (.blt .all [.lc (.cmp .eq (.blt .len [.var 1]) (.blt .len [.ix (.var 0) (.lit (.int 0))])) (.var 1) (.ex (.var 0)) []])) (.cmp .gt (.bin .mul (.blt .len [.var 0]) (.blt .len [.ix (.var 0) (.lit (.int 0))])) (.glob "MOST_TILES"))) [.ret (.lit (.bl false))] [], .ret (.blt .all [.lc2 (.call "is_number" [.var 2, .lit (.int 0), .glob "MOST_NEED"] [] []) (.var 1) (.ex (.var 0)) (.var 2) (.ex (.var 1))])]
def f_is_floor_form : Fn := ⟨["value"], 3, b_is_floor_form, true⟩
def n_is_floor_form : List Str := ["value", "row", "need"]
def b_is_tile_of : List S := [.ret (.and (.call "is_tuple_of" [.var 2, .lit (.int 2)] [] []) (.and (.call "is_number" [.ix (.var 2) (.lit (.int 0)), .lit (.int 0), .bin .sub (.var 0) (.lit (.int 1))] [] []) (.call "is_number" [.ix (.var 2) (.lit (.int 1)), .lit (.int 0), .bin .sub (.var 1) (.lit (.int 1))] [] [])))]
def f_is_tile_of : Fn := ⟨["high", "wide", "value"], 3, b_is_tile_of, true⟩
def n_is_tile_of : List Str := ["high", "wide", "value"]
def b_is_tile : List S := [.ret (.call "is_tile_of" [.blt .len [.var 0], .blt .len [.ix (.var 0) (.lit (.int 0))], .var 1] [] [])]
def f_is_tile : Fn := ⟨["floor", "value"], 2, b_is_tile, true⟩
def n_is_tile : List Str := ["floor", "value"]
def b_tiles_of : List S := [.ret (.blt .tuple [.lc2 (.tup [.var 1, .var 2]) (.var 1) (.range [.blt .len [.var 0]]) (.var 2) (.range [.blt .len [.ix (.var 0) (.lit (.int 0))]])])]
def f_tiles_of : Fn := ⟨["floor"], 3, b_tiles_of, true⟩
def n_tiles_of : List Str := ["floor", "row", "place"]
def b_need_in : List S := [.ret (.ix (.ix (.var 0) (.ix (.var 1) (.lit (.int 0)))) (.ix (.var 1) (.lit (.int 1))))]
def f_need_in : Fn := ⟨["floor", "tile"], 2, b_need_in, true⟩
def n_need_in : List Str := ["floor", "tile"]
def b_beside_of : List S := [.asg (.tup [.var 3, .var 4]) (.var 1), .asg (.var 2) (.lst [.tup [.bin .sub (.var 3) (.lit (.int 1)), .var 4], .tup [.var 3, .bin .sub (.var 4) (.lit (.int 1))], .tup [.var 3, .bin .add (.var 4) (.lit (.int 1))], .tup [.bin .add (.var 3) (.lit (.int 1)), .var 4]]), .ret (.lc (.var 5) (.var 5) (.ex (.var 2)) [.call "is_tile" [.var 0, .var 5] [] []])]
def f_beside_of : Fn := ⟨["floor", "tile"], 6, b_beside_of, true⟩
def n_beside_of : List Str := ["floor", "tile", "spots", "row", "place", "spot"]
def b_web_of : List S := [.ret (.dc (.var 1) (.tup [.call "need_in" [.var 0, .var 1] [] [], .call "beside_of" [.var 0, .var 1] [] []]) (.var 1) (.ex (.call "tiles_of" [.var 0] [] [])))]
def f_web_of : Fn := ⟨["floor"], 2, b_web_of, true⟩
def n_web_of : List Str := ["floor", "tile"]
def l_damp_by_0 : List S := [.asg (.ix (.var 4) (.var 6)) (.bin .add (.ix (.var 4) (.var 6)) (.lit (.int 1))), .iff (.and (.cmp .notin (.var 6) (.var 3)) (.cmp .ge (.ix (.var 4) (.var 6)) (.ix (.ix (.var 0) (.var 6)) (.lit (.int 0))))) [.asg (.ix (.var 3) (.var 6)) (.lit (.bl true)), .app (.var 2) (.var 6)] []]
def l_damp_by_1 : List S := [.for (.var 6) (.ex (.ix (.ix (.var 0) (.ix (.var 2) (.var 5))) (.lit (.int 1)))) l_damp_by_0, .asg (.var 5) (.bin .add (.var 5) (.lit (.int 1)))]
def b_damp_by : List S := [.asg (.var 2) (.mk (.cat (.blt .list [.var 1]) (.lc (.var 7) (.tup [.var 7, .tup [.var 8, .var 9]]) (.items (.var 0)) [.and (.cmp .eq (.var 8) (.lit (.int 0))) (.cmp .notin (.var 7) (.var 1))]))), .asg (.tup [.var 3, .var 4, .var 5]) (.tup [.mk (.dc (.var 7) (.lit (.bl true)) (.var 7) (.ex (.var 2))), .mk (.dc (.var 7) (.lit (.int 0)) (.var 7) (.ex (.var 0))), .lit (.int 0)]), .while (.cmp .lt (.var 5) (.blt .len [.var 2])) l_damp_by_1, .ret (.var 3)]
def f_damp_by : Fn := ⟨["web", "first"], 10, b_damp_by, true⟩
def n_damp_by : List Str := ["web", "first", "line", "found", "counts", "at", "other", "tile", "need", "_"]
def b_check_number : List S := [.iff (.not (.call "is_number" [.var 0, .var 1, .var 2] [] [])) [.bad] []]
def f_check_number : Fn := ⟨["value", "low", "high"], 3, b_check_number, true⟩
def n_check_number : List Str := ["value", "low", "high"]
def b_check_many : List S := [.expr (.call "check_number" [.var 1, .lit (.int 0), .lit .non] [] []), .iff (.cmp .gt (.var 1) (.bin .mul (.blt .len [.var 0]) (.blt .len [.ix (.var 0) (.lit (.int 0))]))) [.bad] []]
def f_check_many : Fn := ⟨["floor", "many"], 2, b_check_many, true⟩
def n_check_many : List Str := ["floor", "many"]
def b_check_floor : List S := [.iff (.not (.call "is_floor_form" [.var 0] [] [])) [.bad] []]
def f_check_floor : Fn := ⟨["value"], 1, b_check_floor, true⟩
def n_check_floor : List Str := ["value"]
def b_check_few : List S := [.asg (.var 1) (.bin .mul (.blt .len [.var 0]) (.blt .len [.ix (.var 0) (.lit (.int 0))])), .iff (.cmp .gt (.var 1) (.glob "FEW_TILES")) [.bad] []]
def f_check_few : Fn := ⟨["floor"], 2, b_check_few, true⟩
def n_check_few : List Str := ["floor", "many"]
def b_check_crowd : List S := [.expr (.call "check_floor" [.var 0] [] []), .expr (.call "check_many" [.var 0, .var 1] [] []), .expr (.call "check_few" [.var 0] [] [])]
def f_check_crowd : Fn := ⟨["floor", "many"], 2, b_check_crowd, true⟩
def n_check_crowd : List Str := ["floor", "many"]
def b_crowds_in : List S := [.asg (.var 2) (.call "web_of" [.var 0] [] []), .ret (.lc (.tup [.var 3, .call "damp_by" [.var 2, .var 3] [] []]) (.var 3) (.combos [.call "tiles_of" [.var 0] [] [], .var 1]) [])]
def f_crowds_in : Fn := ⟨["floor", "many"], 4, b_crowds_in, true⟩
def n_crowds_in : List Str := ["floor", "many", "web", "lot"]
def b_driest_in : List S := [.asg (.var 2) (.lc (.tup [.bin .sub (.lit (.int 0)) (.blt .len [.var 6]), .var 5]) (.tup [.var 5, .var 6]) (.ex (.call "crowds_in" [.var 0, .var 1] [] [])) []), .asg (.var 3) (.blt .max1 [.lc (.var 7) (.tup [.var 7, .var 8]) (.ex (.var 2)) []]), .asg (.var 4) (.lc (.var 5) (.tup [.var 7, .var 5]) (.ex (.var 2)) [.cmp .eq (.var 7) (.var 3)]), .ret (.tup [.bin .add (.blt .len [.call "tiles_of" [.var 0] [] []]) (.var 3), .blt .min1 [.var 4]])]
def f_driest_in : Fn := ⟨["floor", "many"], 9, b_driest_in, true⟩
def n_driest_in : List Str := ["floor", "many", "found", "least", "lots", "lot", "damp", "number", "_"]
def b_most_dry : List S := [.expr (.call "check_crowd" [.var 0, .var 1] [] []), .ret (.ix (.call "driest_in" [.var 0, .var 1] [] []) (.lit (.int 0)))]
def f_most_dry : Fn := ⟨["floor", "many"], 2, b_most_dry, true⟩
def n_most_dry : List Str := ["floor", "many"]
def b_driest_lot : List S := [.expr (.call "check_crowd" [.var 0, .var 1] [] []), .ret (.ix (.call "driest_in" [.var 0, .var 1] [] []) (.lit (.int 1)))]
def f_driest_lot : Fn := ⟨["floor", "many"], 2, b_driest_lot, true⟩
def n_driest_lot : List Str := ["floor", "many"]
def b_surely_by : List S := [.expr (.call "check_crowd" [.var 0, .var 1] [] []), .asg (.var 2) (.lc (.var 4) (.tup [.var 3, .var 4]) (.ex (.call "crowds_in" [.var 0, .var 1] [] [])) []), .ret (.blt .tuple [.lc (.var 5) (.var 5) (.ex (.call "tiles_of" [.var 0] [] [])) [.blt .all [.lc (.cmp .isin (.var 5) (.var 4)) (.var 4) (.ex (.var 2)) []]]])]
def f_surely_by : Fn := ⟨["floor", "many"], 6, b_surely_by, true⟩
def n_surely_by : List Str := ["floor", "many", "ends", "_", "damp", "tile"]
def l__law_well_0 : List S := [.asg (.var 2) (.bin .mod (.blt .int [.bin .add (.bin .add (.bin .mul (.var 2) (.lit (.int 45281))) (.bin .mod (.blt .int [.var 3]) (.lit (.int 2147483549)))) (.lit (.int 19))]) (.lit (.int 2147483563)))]
def b__law_well : List S := [.asg (.var 2) (.bin .add (.lit (.int 130577)) (.bin .mul (.lit (.int 7013)) (.var 1))), .for (.var 3) (.ex (.slice (.var 0) false (.lit .non) true (.lit (.int 12)))) l__law_well_0, .asg (.var 4) (.ite (.cmp .lt (.var 1) (.blt .len [.var 0])) (.blt .int [.ix (.var 0) (.var 1)]) (.lit (.int 0))), .asg (.var 2) (.bin .mod (.blt .int [.bin .add (.bin .add (.bin .mul (.var 2) (.lit (.int 41))) (.bin .mul (.bin .mod (.blt .int [.var 4]) (.lit (.int 2147483549))) (.lit (.int 15031)))) (.lit (.int 5))]) (.lit (.int 2147483563))), .ret (.mk (.lst [.ite (.or (.cmp .lt (.var 4) (.lit (.int 0))) (.cmp .ge (.var 4) (.bin .pow (.lit (.int 10)) (.lit (.int 15))))) (.blt .abs [.var 4]) (.lit (.int 0)), .var 2, .lit (.int 0)]))]
def f__law_well : Fn := ⟨["script", "lap"], 5, b__law_well, false⟩
def n__law_well : List Str := ["script", "lap", "stirred", "cell", "own"]
def b__law_draw : List S := [.iff (.cmp .gt (.ix (.var 0) (.lit (.int 0))) (.lit (.int 0))) [.asg (.tup [.ix (.var 0) (.lit (.int 0)), .var 3]) (.blt .divmod [.ix (.var 0) (.lit (.int 0)), .var 1]), .ret (.var 3)] [], .asg (.ix (.var 0) (.lit (.int 2))) (.bin .add (.ix (.var 0) (.lit (.int 2))) (.lit (.int 1))), .asg (.var 2) (.bin .mod (.blt .int [.bin .add (.bin .add (.bin .mul (.ix (.var 0) (.lit (.int 1))) (.lit (.int 40037))) (.bin .mul (.lit (.int 13001)) (.ix (.var 0) (.lit (.int 2))))) (.lit (.int 7))]) (.lit (.int 2147483563))), .asg (.ix (.var 0) (.lit (.int 1))) (.bin .mod (.blt .int [.bin .add (.bin .mul (.var 2) (.bin .add (.bin .mod (.blt .int [.var 2]) (.lit (.int 5009))) (.lit (.int 20023)))) (.ix (.var 0) (.lit (.int 2)))]) (.lit (.int 2147483563))), .ret (.bin .mod (.blt .int [.bin .fdiv (.ix (.var 0) (.lit (.int 1))) (.lit (.int 1013))]) (.var 1))]
def f__law_draw : Fn := ⟨["well", "limit"], 4, b__law_draw, true⟩
def n__law_draw : List Str := ["well", "limit", "stir", "digit"]
def b__law_of : List S := [.ret (.ix (.var 1) (.call "_law_draw" [.var 0, .blt .len [.var 1]] [] []))]
def f__law_of : Fn := ⟨["well", "some"], 2, b__law_of, true⟩
def n__law_of : List Str := ["well", "some"]
def b__law_same : List S := [.iff (.and (.isi (.var 0) .tuple) (.isi (.var 1) .tuple)) [.ret (.and (.cmp .eq (.blt .len [.var 0]) (.blt .len [.var 1])) (.blt .all [.lc (.call "_law_same" [.ix (.var 0) (.var 2), .ix (.var 1) (.var 2)] [] []) (.var 2) (.range [.blt .len [.var 0]]) []]))] [], .iff (.or (.cmp .ne (.isi (.var 0) .bool) (.isi (.var 1) .bool)) (.cmp .ne (.isi (.var 0) .int) (.isi (.var 1) .int))) [.ret (.lit (.bl false))] [], .ret (.and (.cmp .eq (.isi (.var 0) .tuple) (.isi (.var 1) .tuple)) (.cmp .eq (.var 0) (.var 1)))]
def f__law_same : Fn := ⟨["one", "two"], 3, b__law_same, true⟩
def n__law_same : List Str := ["one", "two", "k"]
def l__law_sets_0 : List S := [.asg (.var 1) (.bin .add (.var 1) (.lc (.bin .add (.var 4) (.tup [.var 2])) (.var 4) (.ex (.var 1)) []))]
def b__law_sets : List S := [.asg (.var 1) (.lst [.tup []]), .for (.var 2) (.ex (.var 0)) l__law_sets_0, .ret (.lc (.var 4) (.tup [.var 3, .var 4]) (.ex (.blt .sorted [.lc (.tup [.blt .len [.var 4], .var 4]) (.var 4) (.ex (.var 1)) []])) [])]
def f__law_sets : Fn := ⟨["things"], 5, b__law_sets, true⟩
def n__law_sets : List Str := ["things", "found", "each", "many", "some"]
def b__law_sized : List S := [.asg (.var 3) (.call "_law_of" [.var 0, .tup [.tup [.lit (.int 1), .lit (.int 2), .lit (.int 2), .lit (.int 3)], .tup [.lit (.int 1), .lit (.int 2), .lit (.int 3)], .tup [.lit (.int 0), .lit (.int 1), .lit (.int 2), .lit (.int 3), .lit (.int 4), .lit (.int 5)], .tup [.lit (.int 2)], .tup [.lit (.int 1), .lit (.int 1), .lit (.int 2), .lit (.int 4)], .tup [.lit (.int 3), .lit (.int 2)]]] [] []), .ret (.blt .tuple [.lc (.blt .tuple [.lc (.call "_law_of" [.var 0, .var 3] [] []) (.var 5) (.range [.var 2]) []]) (.var 4) (.range [.var 1]) []])]
def f__law_sized : Fn := ⟨["well", "high", "wide"], 6, b__law_sized, true⟩
def n__law_sized : List Str := ["well", "high", "wide", "menu", "row", "place"]
def b__law_floor : List S := [.asg (.var 2) (.bin .add (.lit (.int 1)) (.call "_law_draw" [.var 0, .blt .min2 [.lit (.int 6), .var 1]] [] [])), .asg (.var 3) (.bin .add (.lit (.int 1)) (.call "_law_draw" [.var 0, .blt .min2 [.lit (.int 6), .bin .fdiv (.var 1) (.var 2)]] [] [])), .ret (.call "_law_sized" [.var 0, .var 2, .var 3] [] [])]
def f__law_floor : Fn := ⟨["well", "most"], 4, b__law_floor, true⟩
def n__law_floor : List Str := ["well", "most", "high", "wide"]
def l__law_tiles_0 : List S := [.asg (.var 1) (.bin .add (.var 1) (.lc (.tup [.var 2, .var 3]) (.var 3) (.range [.blt .len [.ix (.var 0) (.lit (.int 0))]]) []))]
def b__law_tiles : List S := [.asg (.var 1) (.lst []), .for (.var 2) (.range [.blt .len [.var 0]]) l__law_tiles_0, .ret (.blt .tuple [.var 1])]
def f__law_tiles : Fn := ⟨["floor"], 4, b__law_tiles, true⟩
def n__law_tiles : List Str := ["floor", "found", "row", "place"]
def b__law_near : List S := [.asg (.tup [.var 3, .var 4]) (.var 1), .asg (.var 2) (.tup [.tup [.bin .sub (.var 3) (.lit (.int 1)), .var 4], .tup [.var 3, .bin .sub (.var 4) (.lit (.int 1))], .tup [.var 3, .bin .add (.var 4) (.lit (.int 1))], .tup [.bin .add (.var 3) (.lit (.int 1)), .var 4]]), .ret (.lc (.tup [.var 5, .var 6]) (.tup [.var 5, .var 6]) (.ex (.var 2)) [.and (.chain .le .lt (.lit (.int 0)) (.var 5) (.blt .len [.var 0])) (.chain .le .lt (.lit (.int 0)) (.var 6) (.blt .len [.ix (.var 0) (.lit (.int 0))]))])]
def f__law_near : Fn := ⟨["floor", "tile"], 7, b__law_near, true⟩
def n__law_near : List Str := ["floor", "tile", "some", "row", "place", "a", "b"]
def b__law_damp_beside : List S := [.ret (.blt .len [.lc (.var 3) (.var 3) (.ex (.call "_law_near" [.var 0, .var 2] [] [])) [.cmp .isin (.var 3) (.var 1)]])]
def f__law_damp_beside : Fn := ⟨["floor", "damp", "tile"], 4, b__law_damp_beside, true⟩
def n__law_damp_beside : List Str := ["floor", "damp", "tile", "each"]
def b__law_can : List S := [.ret (.and (.cmp .notin (.var 2) (.var 1)) (.cmp .ge (.call "_law_damp_beside" [.var 0, .var 1, .var 2] [] []) (.ix (.ix (.var 0) (.ix (.var 2) (.lit (.int 0)))) (.ix (.var 2) (.lit (.int 1))))))]
def f__law_can : Fn := ⟨["floor", "damp", "tile"], 3, b__law_can, true⟩
def n__law_can : List Str := ["floor", "damp", "tile"]
def l__law_rounds_0 : List S := [.asg (.var 4) (.lc (.var 5) (.var 5) (.ex (.call "_law_tiles" [.var 0] [] [])) [.call "_law_can" [.var 0, .ix (.var 2) (.neg (.lit (.int 1))), .var 5] [] []]), .iff (.cmp .eq (.var 4) (.lst [])) [.brk] [], .app (.var 2) (.blt .tuple [.blt .sorted [.bin .add (.ix (.var 2) (.neg (.lit (.int 1)))) (.blt .tuple [.var 4])]])]
def b__law_rounds : List S := [.asg (.var 2) (.mk (.lst [.blt .tuple [.blt .sorted [.var 1]]])), .for (.var 3) (.range [.bin .mul (.blt .len [.var 0]) (.blt .len [.ix (.var 0) (.lit (.int 0))])]) l__law_rounds_0, .ret (.var 2)]
def f__law_rounds : Fn := ⟨["floor", "first"], 6, b__law_rounds, true⟩
def n__law_rounds : List Str := ["floor", "first", "found", "lap", "new", "tile"]
def b__law_end : List S := [.ret (.ix (.call "_law_rounds" [.var 0, .var 1] [] []) (.neg (.lit (.int 1))))]
def f__law_end : Fn := ⟨["floor", "first"], 2, b__law_end, true⟩
def n__law_end : List Str := ["floor", "first"]
def l__law_right_0 : List S := [.asg (.var 4) (.lc (.var 10) (.var 10) (.ex (.call "_law_sets" [.var 2] [] [])) [.cmp .eq (.blt .len [.var 10]) (.var 3)]), .asg (.var 5) (.lc (.call "_law_end" [.var 1, .var 10] [] []) (.var 10) (.ex (.var 4)) []), .asg (.var 6) (.lc (.bin .sub (.blt .len [.var 2]) (.blt .len [.var 11])) (.var 11) (.ex (.var 5)) []), .asg (.var 7) (.blt .max1 [.var 6]), .asg (.var 8) (.blt .tuple [.lc (.var 12) (.var 12) (.ex (.var 2)) [.cmp .eq (.lc (.var 11) (.var 11) (.ex (.var 5)) [.cmp .notin (.var 12) (.var 11)]) (.lst [])]]), .asg (.var 9) (.ix (.blt .sorted [.lc (.ix (.var 4) (.var 13)) (.var 13) (.range [.blt .len [.var 4]]) [.cmp .eq (.ix (.var 6) (.var 13)) (.var 7)]]) (.lit (.int 0))), .iff (.not (.call "_law_same" [.tup [.call "most_dry" [.var 1, .var 3] [] [], .call "most_dry" [.var 1] ["many"] [.var 3]], .tup [.var 7, .var 7]] [] [])) [.ret (.lit (.bl false))] [], .iff (.not (.call "_law_same" [.tup [.call "driest_lot" [.var 1, .var 3] [] [], .call "driest_lot" [.var 1] ["many"] [.var 3]], .tup [.var 9, .var 9]] [] [])) [.ret (.lit (.bl false))] [], .iff (.not (.call "_law_same" [.tup [.call "surely_by" [.var 1, .var 3] [] [], .call "surely_by" [.var 1] ["many"] [.var 3]], .tup [.var 8, .var 8]] [] [])) [.ret (.lit (.bl false))] []]
def b__law_right : List S := [.asg (.var 1) (.call "_law_floor" [.var 0, .lit (.int 8)] [] []), .asg (.var 2) (.call "_law_tiles" [.var 1] [] []), .for (.var 3) (.range [.bin .add (.blt .len [.var 2]) (.lit (.int 1))]) l__law_right_0, .ret (.lit (.bl true))]
def f__law_right : Fn := ⟨["well"], 14, b__law_right, true⟩
def n__law_right : List Str := ["well", "floor", "every", "many", "lots", "ends", "dries", "most", "sure", "first", "lot", "end", "tile", "k"]
def b_law : List S := [.asg (.var 1) (.lc (.call "_law_well" [.var 0, .var 2] [] []) (.var 2) (.range [.lit (.int 2)]) []), .ret (.blt .all [.lc (.call "_law_right" [.ix (.var 1) (.bin .mod (.blt .int [.var 3]) (.lit (.int 2)))] [] []) (.var 3) (.range [.lit (.int 6)]) []])]
def f_law : Fn := ⟨["script"], 4, b_law, true⟩
def n_law : List Str := ["script", "wells", "lap", "k"]

def tabF : List (Str × Fn) := [(("is_whole" : Str), f_is_whole), (("is_number" : Str), f_is_number), (("is_tuple_of" : Str), f_is_tuple_of), (("is_floor_form" : Str), f_is_floor_form), (("is_tile_of" : Str), f_is_tile_of), (("is_tile" : Str), f_is_tile), (("tiles_of" : Str), f_tiles_of), (("need_in" : Str), f_need_in), (("beside_of" : Str), f_beside_of), (("web_of" : Str), f_web_of), (("damp_by" : Str), f_damp_by), (("check_number" : Str), f_check_number), (("check_many" : Str), f_check_many), (("check_floor" : Str), f_check_floor), (("check_few" : Str), f_check_few), (("check_crowd" : Str), f_check_crowd), (("crowds_in" : Str), f_crowds_in), (("driest_in" : Str), f_driest_in), (("most_dry" : Str), f_most_dry), (("driest_lot" : Str), f_driest_lot), (("surely_by" : Str), f_surely_by), (("_law_well" : Str), f__law_well), (("_law_draw" : Str), f__law_draw), (("_law_of" : Str), f__law_of), (("_law_same" : Str), f__law_same), (("_law_sets" : Str), f__law_sets), (("_law_sized" : Str), f__law_sized), (("_law_floor" : Str), f__law_floor), (("_law_tiles" : Str), f__law_tiles), (("_law_near" : Str), f__law_near), (("_law_damp_beside" : Str), f__law_damp_beside), (("_law_can" : Str), f__law_can), (("_law_rounds" : Str), f__law_rounds), (("_law_end" : Str), f__law_end), (("_law_right" : Str), f__law_right), (("law" : Str), f_law)]
def Φ : Str → Option Fn := fun x => tabF.lookup x
def G : Str → Option D := fun x => ([(("MOST_ROWS" : Str), D.int 6), (("MOST_WIDE" : Str), D.int 6), (("MOST_TILES" : Str), D.int 24), (("MOST_NEED" : Str), D.int 5), (("FEW_TILES" : Str), D.int 12)] : List (Str × D)).lookup x
theorem F_is_whole : Φ "is_whole" = some f_is_whole := by rfl
theorem F_is_number : Φ "is_number" = some f_is_number := by rfl
theorem F_is_tuple_of : Φ "is_tuple_of" = some f_is_tuple_of := by rfl
theorem F_is_floor_form : Φ "is_floor_form" = some f_is_floor_form := by rfl
theorem F_is_tile_of : Φ "is_tile_of" = some f_is_tile_of := by rfl
theorem F_is_tile : Φ "is_tile" = some f_is_tile := by rfl
theorem F_tiles_of : Φ "tiles_of" = some f_tiles_of := by rfl
theorem F_need_in : Φ "need_in" = some f_need_in := by rfl
theorem F_beside_of : Φ "beside_of" = some f_beside_of := by rfl
theorem F_web_of : Φ "web_of" = some f_web_of := by rfl
theorem F_damp_by : Φ "damp_by" = some f_damp_by := by rfl
theorem F_check_number : Φ "check_number" = some f_check_number := by rfl
theorem F_check_many : Φ "check_many" = some f_check_many := by rfl
theorem F_check_floor : Φ "check_floor" = some f_check_floor := by rfl
theorem F_check_few : Φ "check_few" = some f_check_few := by rfl
theorem F_check_crowd : Φ "check_crowd" = some f_check_crowd := by rfl
theorem F_crowds_in : Φ "crowds_in" = some f_crowds_in := by rfl
theorem F_driest_in : Φ "driest_in" = some f_driest_in := by rfl
theorem F_most_dry : Φ "most_dry" = some f_most_dry := by rfl
theorem F_driest_lot : Φ "driest_lot" = some f_driest_lot := by rfl
theorem F_surely_by : Φ "surely_by" = some f_surely_by := by rfl
theorem F__law_well : Φ "_law_well" = some f__law_well := by rfl
theorem F__law_draw : Φ "_law_draw" = some f__law_draw := by rfl
theorem F__law_of : Φ "_law_of" = some f__law_of := by rfl
theorem F__law_same : Φ "_law_same" = some f__law_same := by rfl
theorem F__law_sets : Φ "_law_sets" = some f__law_sets := by rfl
theorem F__law_sized : Φ "_law_sized" = some f__law_sized := by rfl
theorem F__law_floor : Φ "_law_floor" = some f__law_floor := by rfl
theorem F__law_tiles : Φ "_law_tiles" = some f__law_tiles := by rfl
theorem F__law_near : Φ "_law_near" = some f__law_near := by rfl
theorem F__law_damp_beside : Φ "_law_damp_beside" = some f__law_damp_beside := by rfl
theorem F__law_can : Φ "_law_can" = some f__law_can := by rfl
theorem F__law_rounds : Φ "_law_rounds" = some f__law_rounds := by rfl
theorem F__law_end : Φ "_law_end" = some f__law_end := by rfl
theorem F__law_right : Φ "_law_right" = some f__law_right := by rfl
theorem F_law : Φ "law" = some f_law := by rfl
theorem G_MOST_ROWS : G "MOST_ROWS" = some (.int 6) := by rfl
theorem G_MOST_WIDE : G "MOST_WIDE" = some (.int 6) := by rfl
theorem G_MOST_TILES : G "MOST_TILES" = some (.int 24) := by rfl
theorem G_MOST_NEED : G "MOST_NEED" = some (.int 5) := by rfl
theorem G_FEW_TILES : G "FEW_TILES" = some (.int 12) := by rfl
end PvK

end T_KA
section T_Ka
set_option maxRecDepth 100000
set_option maxHeartbeats 0
namespace PvK
open PySem PySem.Spec PyProof.Rows L2 Pv
def kws : List (Str × Nat × List Str) := [(("_law_can" : Str), 3, ([] : List Str)), (("_law_damp_beside" : Str), 3, ([] : List Str)), (("_law_draw" : Str), 2, ([] : List Str)), (("_law_end" : Str), 2, ([] : List Str)), (("_law_floor" : Str), 2, ([] : List Str)), (("_law_near" : Str), 2, ([] : List Str)), (("_law_of" : Str), 2, ([] : List Str)), (("_law_right" : Str), 1, ([] : List Str)), (("_law_rounds" : Str), 2, ([] : List Str)), (("_law_same" : Str), 2, ([] : List Str)), (("_law_sets" : Str), 1, ([] : List Str)), (("_law_sized" : Str), 3, ([] : List Str)), (("_law_tiles" : Str), 1, ([] : List Str)), (("_law_well" : Str), 2, ([] : List Str)), (("beside_of" : Str), 2, ([] : List Str)), (("check_crowd" : Str), 2, ([] : List Str)), (("check_few" : Str), 1, ([] : List Str)), (("check_floor" : Str), 1, ([] : List Str)), (("check_many" : Str), 2, ([] : List Str)), (("check_number" : Str), 3, ([] : List Str)), (("combinations" : Str), 0, ([] : List Str)), (("crowds_in" : Str), 2, ([] : List Str)), (("damp_by" : Str), 2, ([] : List Str)), (("driest_in" : Str), 2, ([] : List Str)), (("driest_lot" : Str), 1, (["many"] : List Str)), (("driest_lot" : Str), 2, ([] : List Str)), (("is_floor_form" : Str), 1, ([] : List Str)), (("is_number" : Str), 3, ([] : List Str)), (("is_tile" : Str), 2, ([] : List Str)), (("is_tile_of" : Str), 3, ([] : List Str)), (("is_tuple_of" : Str), 2, ([] : List Str)), (("is_whole" : Str), 1, ([] : List Str)), (("most_dry" : Str), 1, (["many"] : List Str)), (("most_dry" : Str), 2, ([] : List Str)), (("need_in" : Str), 2, ([] : List Str)), (("surely_by" : Str), 1, (["many"] : List Str)), (("surely_by" : Str), 2, ([] : List Str)), (("tiles_of" : Str), 1, ([] : List Str)), (("web_of" : Str), 1, ([] : List Str))]
def st (i : Nat) : Stmt := PySem.Challenge.pw_damptiles_k75_whole_crowds.main.body.getD i (.Pass ⟨0, 0, 0, 0⟩)

theorem ck_is_whole : ckSs kws 60 ⟨n_is_whole, defScope (st 8), fun _ => true⟩ (defBody (st 8)) b_is_whole = true := by decide +kernel
theorem ck_is_number : ckSs kws 60 ⟨n_is_number, defScope (st 9), fun _ => true⟩ (defBody (st 9)) b_is_number = true := by decide +kernel
theorem ck_is_tuple_of : ckSs kws 60 ⟨n_is_tuple_of, defScope (st 10), fun _ => true⟩ (defBody (st 10)) b_is_tuple_of = true := by decide +kernel
theorem ck_is_floor_form : ckSs kws 60 ⟨n_is_floor_form, defScope (st 17), fun _ => true⟩ (defBody (st 17)) b_is_floor_form = true := by decide +kernel
theorem ck_is_tile_of : ckSs kws 60 ⟨n_is_tile_of, defScope (st 18), fun _ => true⟩ (defBody (st 18)) b_is_tile_of = true := by decide +kernel
theorem ck_is_tile : ckSs kws 60 ⟨n_is_tile, defScope (st 19), fun _ => true⟩ (defBody (st 19)) b_is_tile = true := by decide +kernel
theorem ck_tiles_of : ckSs kws 60 ⟨n_tiles_of, defScope (st 20), fun _ => true⟩ (defBody (st 20)) b_tiles_of = true := by decide +kernel
theorem ck_need_in : ckSs kws 60 ⟨n_need_in, defScope (st 21), fun _ => true⟩ (defBody (st 21)) b_need_in = true := by decide +kernel
theorem ck_beside_of : ckSs kws 60 ⟨n_beside_of, defScope (st 22), fun _ => true⟩ (defBody (st 22)) b_beside_of = true := by decide +kernel
theorem ck_web_of : ckSs kws 60 ⟨n_web_of, defScope (st 23), fun _ => true⟩ (defBody (st 23)) b_web_of = true := by decide +kernel
theorem ck_damp_by : ckSs kws 60 ⟨n_damp_by, defScope (st 24), fun _ => true⟩ (defBody (st 24)) b_damp_by = true := by decide +kernel
theorem ck_check_number : ckSs kws 60 ⟨n_check_number, defScope (st 26), fun _ => true⟩ (defBody (st 26)) b_check_number = true := by decide +kernel
theorem ck_check_many : ckSs kws 60 ⟨n_check_many, defScope (st 27), fun _ => true⟩ (defBody (st 27)) b_check_many = true := by decide +kernel
theorem ck_check_floor : ckSs kws 60 ⟨n_check_floor, defScope (st 28), fun _ => true⟩ (defBody (st 28)) b_check_floor = true := by decide +kernel
theorem ck_check_few : ckSs kws 60 ⟨n_check_few, defScope (st 29), fun _ => true⟩ (defBody (st 29)) b_check_few = true := by decide +kernel
theorem ck_check_crowd : ckSs kws 60 ⟨n_check_crowd, defScope (st 31), fun _ => true⟩ (defBody (st 31)) b_check_crowd = true := by decide +kernel
theorem ck_crowds_in : ckSs kws 60 ⟨n_crowds_in, defScope (st 32), fun _ => true⟩ (defBody (st 32)) b_crowds_in = true := by decide +kernel
theorem ck_driest_in : ckSs kws 60 ⟨n_driest_in, defScope (st 33), fun _ => true⟩ (defBody (st 33)) b_driest_in = true := by decide +kernel
theorem ck_most_dry : ckSs kws 60 ⟨n_most_dry, defScope (st 34), fun _ => true⟩ (defBody (st 34)) b_most_dry = true := by decide +kernel
theorem ck_driest_lot : ckSs kws 60 ⟨n_driest_lot, defScope (st 35), fun _ => true⟩ (defBody (st 35)) b_driest_lot = true := by decide +kernel
theorem ck_surely_by : ckSs kws 60 ⟨n_surely_by, defScope (st 36), fun _ => true⟩ (defBody (st 36)) b_surely_by = true := by decide +kernel
theorem ck__law_well : ckSs kws 60 ⟨n__law_well, defScope (st 38), fun _ => true⟩ (defBody (st 38)) b__law_well = true := by decide +kernel
theorem ck__law_draw : ckSs kws 60 ⟨n__law_draw, defScope (st 39), fun _ => true⟩ (defBody (st 39)) b__law_draw = true := by decide +kernel
theorem ck__law_of : ckSs kws 60 ⟨n__law_of, defScope (st 40), fun _ => true⟩ (defBody (st 40)) b__law_of = true := by decide +kernel
theorem ck__law_same : ckSs kws 60 ⟨n__law_same, defScope (st 41), fun _ => true⟩ (defBody (st 41)) b__law_same = true := by decide +kernel
theorem ck__law_sets : ckSs kws 60 ⟨n__law_sets, defScope (st 42), fun _ => true⟩ (defBody (st 42)) b__law_sets = true := by decide +kernel
theorem ck__law_sized : ckSs kws 60 ⟨n__law_sized, defScope (st 43), fun _ => true⟩ (defBody (st 43)) b__law_sized = true := by decide +kernel
theorem ck__law_floor : ckSs kws 60 ⟨n__law_floor, defScope (st 44), fun _ => true⟩ (defBody (st 44)) b__law_floor = true := by decide +kernel
theorem ck__law_tiles : ckSs kws 60 ⟨n__law_tiles, defScope (st 45), fun _ => true⟩ (defBody (st 45)) b__law_tiles = true := by decide +kernel
theorem ck__law_near : ckSs kws 60 ⟨n__law_near, defScope (st 46), fun _ => true⟩ (defBody (st 46)) b__law_near = true := by decide +kernel
theorem ck__law_damp_beside : ckSs kws 60 ⟨n__law_damp_beside, defScope (st 47), fun _ => true⟩ (defBody (st 47)) b__law_damp_beside = true := by decide +kernel
theorem ck__law_can : ckSs kws 60 ⟨n__law_can, defScope (st 48), fun _ => true⟩ (defBody (st 48)) b__law_can = true := by decide +kernel
theorem ck__law_rounds : ckSs kws 60 ⟨n__law_rounds, defScope (st 49), fun _ => true⟩ (defBody (st 49)) b__law_rounds = true := by decide +kernel
theorem ck__law_end : ckSs kws 60 ⟨n__law_end, defScope (st 50), fun _ => true⟩ (defBody (st 50)) b__law_end = true := by decide +kernel
theorem ck__law_right : ckSs kws 60 ⟨n__law_right, defScope (st 51), fun _ => true⟩ (defBody (st 51)) b__law_right = true := by decide +kernel
theorem ck_law : ckSs kws 60 ⟨n_law, defScope (st 52), fun _ => true⟩ (defBody (st 52)) b_law = true := by decide +kernel
end PvK

end T_Ka
section T_Kb
set_option maxRecDepth 100000
set_option maxHeartbeats 0
namespace PvK
open PySem PySem.Spec PyProof.Rows L2 Pv
def d_is_whole : DefT := ⟨"is_whole", st 8, n_is_whole, f_is_whole⟩
def d_is_number : DefT := ⟨"is_number", st 9, n_is_number, f_is_number⟩
def d_is_tuple_of : DefT := ⟨"is_tuple_of", st 10, n_is_tuple_of, f_is_tuple_of⟩
def d_is_floor_form : DefT := ⟨"is_floor_form", st 17, n_is_floor_form, f_is_floor_form⟩
def d_is_tile_of : DefT := ⟨"is_tile_of", st 18, n_is_tile_of, f_is_tile_of⟩
def d_is_tile : DefT := ⟨"is_tile", st 19, n_is_tile, f_is_tile⟩
def d_tiles_of : DefT := ⟨"tiles_of", st 20, n_tiles_of, f_tiles_of⟩
def d_need_in : DefT := ⟨"need_in", st 21, n_need_in, f_need_in⟩
def d_beside_of : DefT := ⟨"beside_of", st 22, n_beside_of, f_beside_of⟩
def d_web_of : DefT := ⟨"web_of", st 23, n_web_of, f_web_of⟩
def d_damp_by : DefT := ⟨"damp_by", st 24, n_damp_by, f_damp_by⟩
def d_check_number : DefT := ⟨"check_number", st 26, n_check_number, f_check_number⟩
def d_check_many : DefT := ⟨"check_many", st 27, n_check_many, f_check_many⟩
def d_check_floor : DefT := ⟨"check_floor", st 28, n_check_floor, f_check_floor⟩
def d_check_few : DefT := ⟨"check_few", st 29, n_check_few, f_check_few⟩
def d_check_crowd : DefT := ⟨"check_crowd", st 31, n_check_crowd, f_check_crowd⟩
def d_crowds_in : DefT := ⟨"crowds_in", st 32, n_crowds_in, f_crowds_in⟩
def d_driest_in : DefT := ⟨"driest_in", st 33, n_driest_in, f_driest_in⟩
def d_most_dry : DefT := ⟨"most_dry", st 34, n_most_dry, f_most_dry⟩
def d_driest_lot : DefT := ⟨"driest_lot", st 35, n_driest_lot, f_driest_lot⟩
def d_surely_by : DefT := ⟨"surely_by", st 36, n_surely_by, f_surely_by⟩
def d__law_well : DefT := ⟨"_law_well", st 38, n__law_well, f__law_well⟩
def d__law_draw : DefT := ⟨"_law_draw", st 39, n__law_draw, f__law_draw⟩
def d__law_of : DefT := ⟨"_law_of", st 40, n__law_of, f__law_of⟩
def d__law_same : DefT := ⟨"_law_same", st 41, n__law_same, f__law_same⟩
def d__law_sets : DefT := ⟨"_law_sets", st 42, n__law_sets, f__law_sets⟩
def d__law_sized : DefT := ⟨"_law_sized", st 43, n__law_sized, f__law_sized⟩
def d__law_floor : DefT := ⟨"_law_floor", st 44, n__law_floor, f__law_floor⟩
def d__law_tiles : DefT := ⟨"_law_tiles", st 45, n__law_tiles, f__law_tiles⟩
def d__law_near : DefT := ⟨"_law_near", st 46, n__law_near, f__law_near⟩
def d__law_damp_beside : DefT := ⟨"_law_damp_beside", st 47, n__law_damp_beside, f__law_damp_beside⟩
def d__law_can : DefT := ⟨"_law_can", st 48, n__law_can, f__law_can⟩
def d__law_rounds : DefT := ⟨"_law_rounds", st 49, n__law_rounds, f__law_rounds⟩
def d__law_end : DefT := ⟨"_law_end", st 50, n__law_end, f__law_end⟩
def d__law_right : DefT := ⟨"_law_right", st 51, n__law_right, f__law_right⟩
def d_law : DefT := ⟨"law", st 52, n_law, f_law⟩
def dts : List DefT := [d_is_whole, d_is_number, d_is_tuple_of, d_is_floor_form, d_is_tile_of, d_is_tile, d_tiles_of, d_need_in, d_beside_of, d_web_of, d_damp_by, d_check_number, d_check_many, d_check_floor, d_check_few, d_check_crowd, d_crowds_in, d_driest_in, d_most_dry, d_driest_lot, d_surely_by, d__law_well, d__law_draw, d__law_of, d__law_same, d__law_sets, d__law_sized, d__law_floor, d__law_tiles, d__law_near, d__law_damp_beside, d__law_can, d__law_rounds, d__law_end, d__law_right, d_law]
theorem Φ_eq (x : Str) : Φ x = (dts.map fun d => (d.x, d.F)).lookup x := rfl
theorem bi_is_whole : BindS "is_whole" "is_whole" (st 8) f_is_whole.ps := fun _ _ _ _ _ _ us hl => match us, hl with | [_], _ => rfl
theorem ok_is_whole : DefT.Ok d_is_whole kws 60 := by
  refine ⟨by decide +kernel, rfl, bi_is_whole, fun j kn h hne => ?_, ck_is_whole⟩
  have h2 : (j, kn) ∈ (kws.filter fun p => p.1 == ("is_whole" : Str) && !p.2.2.isEmpty).map (·.2) := List.mem_map.mpr ⟨_, List.mem_filter.mpr ⟨h, by cases kn with | nil => exact absurd rfl hne | cons _ _ => rfl⟩, rfl⟩
  rw [show (kws.filter fun p => p.1 == ("is_whole" : Str) && !p.2.2.isEmpty).map (·.2) = ([] : List (Nat × List Str)) from by decide +kernel] at h2
  cases h2
theorem bi_is_number : BindS "is_number" "is_number" (st 9) f_is_number.ps := fun _ _ _ _ _ _ us hl => match us, hl with | [_, _, _], _ => rfl
theorem ok_is_number : DefT.Ok d_is_number kws 60 := by
  refine ⟨by decide +kernel, rfl, bi_is_number, fun j kn h hne => ?_, ck_is_number⟩
  have h2 : (j, kn) ∈ (kws.filter fun p => p.1 == ("is_number" : Str) && !p.2.2.isEmpty).map (·.2) := List.mem_map.mpr ⟨_, List.mem_filter.mpr ⟨h, by cases kn with | nil => exact absurd rfl hne | cons _ _ => rfl⟩, rfl⟩
  rw [show (kws.filter fun p => p.1 == ("is_number" : Str) && !p.2.2.isEmpty).map (·.2) = ([] : List (Nat × List Str)) from by decide +kernel] at h2
  cases h2
theorem bi_is_tuple_of : BindS "is_tuple_of" "is_tuple_of" (st 10) f_is_tuple_of.ps := fun _ _ _ _ _ _ us hl => match us, hl with | [_, _], _ => rfl
theorem ok_is_tuple_of : DefT.Ok d_is_tuple_of kws 60 := by
  refine ⟨by decide +kernel, rfl, bi_is_tuple_of, fun j kn h hne => ?_, ck_is_tuple_of⟩
  have h2 : (j, kn) ∈ (kws.filter fun p => p.1 == ("is_tuple_of" : Str) && !p.2.2.isEmpty).map (·.2) := List.mem_map.mpr ⟨_, List.mem_filter.mpr ⟨h, by cases kn with | nil => exact absurd rfl hne | cons _ _ => rfl⟩, rfl⟩
  rw [show (kws.filter fun p => p.1 == ("is_tuple_of" : Str) && !p.2.2.isEmpty).map (·.2) = ([] : List (Nat × List Str)) from by decide +kernel] at h2
  cases h2
theorem bi_is_floor_form : BindS "is_floor_form" "is_floor_form" (st 17) f_is_floor_form.ps := fun _ _ _ _ _ _ us hl => match us, hl with | [_], _ => rfl
theorem ok_is_floor_form : DefT.Ok d_is_floor_form kws 60 := by
  refine ⟨by decide +kernel, rfl, bi_is_floor_form, fun j kn h hne => ?_, ck_is_floor_form⟩
  have h2 : (j, kn) ∈ (kws.filter fun p => p.1 == ("is_floor_form" : Str) && !p.2.2.isEmpty).map (·.2) := List.mem_map.mpr ⟨_, List.mem_filter.mpr ⟨h, by cases kn with | nil => exact absurd rfl hne | cons _ _ => rfl⟩, rfl⟩
  rw [show (kws.filter fun p => p.1 == ("is_floor_form" : Str) && !p.2.2.isEmpty).map (·.2) = ([] : List (Nat × List Str)) from by decide +kernel] at h2
  cases h2
theorem bi_is_tile_of : BindS "is_tile_of" "is_tile_of" (st 18) f_is_tile_of.ps := fun _ _ _ _ _ _ us hl => match us, hl with | [_, _, _], _ => rfl
theorem ok_is_tile_of : DefT.Ok d_is_tile_of kws 60 := by
  refine ⟨by decide +kernel, rfl, bi_is_tile_of, fun j kn h hne => ?_, ck_is_tile_of⟩
  have h2 : (j, kn) ∈ (kws.filter fun p => p.1 == ("is_tile_of" : Str) && !p.2.2.isEmpty).map (·.2) := List.mem_map.mpr ⟨_, List.mem_filter.mpr ⟨h, by cases kn with | nil => exact absurd rfl hne | cons _ _ => rfl⟩, rfl⟩
  rw [show (kws.filter fun p => p.1 == ("is_tile_of" : Str) && !p.2.2.isEmpty).map (·.2) = ([] : List (Nat × List Str)) from by decide +kernel] at h2
  cases h2
theorem bi_is_tile : BindS "is_tile" "is_tile" (st 19) f_is_tile.ps := fun _ _ _ _ _ _ us hl => match us, hl with | [_, _], _ => rfl
theorem ok_is_tile : DefT.Ok d_is_tile kws 60 := by
  refine ⟨by decide +kernel, rfl, bi_is_tile, fun j kn h hne => ?_, ck_is_tile⟩
  have h2 : (j, kn) ∈ (kws.filter fun p => p.1 == ("is_tile" : Str) && !p.2.2.isEmpty).map (·.2) := List.mem_map.mpr ⟨_, List.mem_filter.mpr ⟨h, by cases kn with | nil => exact absurd rfl hne | cons _ _ => rfl⟩, rfl⟩
  rw [show (kws.filter fun p => p.1 == ("is_tile" : Str) && !p.2.2.isEmpty).map (·.2) = ([] : List (Nat × List Str)) from by decide +kernel] at h2
  cases h2
theorem bi_tiles_of : BindS "tiles_of" "tiles_of" (st 20) f_tiles_of.ps := fun _ _ _ _ _ _ us hl => match us, hl with | [_], _ => rfl
theorem ok_tiles_of : DefT.Ok d_tiles_of kws 60 := by
  refine ⟨by decide +kernel, rfl, bi_tiles_of, fun j kn h hne => ?_, ck_tiles_of⟩
  have h2 : (j, kn) ∈ (kws.filter fun p => p.1 == ("tiles_of" : Str) && !p.2.2.isEmpty).map (·.2) := List.mem_map.mpr ⟨_, List.mem_filter.mpr ⟨h, by cases kn with | nil => exact absurd rfl hne | cons _ _ => rfl⟩, rfl⟩
  rw [show (kws.filter fun p => p.1 == ("tiles_of" : Str) && !p.2.2.isEmpty).map (·.2) = ([] : List (Nat × List Str)) from by decide +kernel] at h2
  cases h2
theorem bi_need_in : BindS "need_in" "need_in" (st 21) f_need_in.ps := fun _ _ _ _ _ _ us hl => match us, hl with | [_, _], _ => rfl
theorem ok_need_in : DefT.Ok d_need_in kws 60 := by
  refine ⟨by decide +kernel, rfl, bi_need_in, fun j kn h hne => ?_, ck_need_in⟩
  have h2 : (j, kn) ∈ (kws.filter fun p => p.1 == ("need_in" : Str) && !p.2.2.isEmpty).map (·.2) := List.mem_map.mpr ⟨_, List.mem_filter.mpr ⟨h, by cases kn with | nil => exact absurd rfl hne | cons _ _ => rfl⟩, rfl⟩
  rw [show (kws.filter fun p => p.1 == ("need_in" : Str) && !p.2.2.isEmpty).map (·.2) = ([] : List (Nat × List Str)) from by decide +kernel] at h2
  cases h2
theorem bi_beside_of : BindS "beside_of" "beside_of" (st 22) f_beside_of.ps := fun _ _ _ _ _ _ us hl => match us, hl with | [_, _], _ => rfl
theorem ok_beside_of : DefT.Ok d_beside_of kws 60 := by
  refine ⟨by decide +kernel, rfl, bi_beside_of, fun j kn h hne => ?_, ck_beside_of⟩
  have h2 : (j, kn) ∈ (kws.filter fun p => p.1 == ("beside_of" : Str) && !p.2.2.isEmpty).map (·.2) := List.mem_map.mpr ⟨_, List.mem_filter.mpr ⟨h, by cases kn with | nil => exact absurd rfl hne | cons _ _ => rfl⟩, rfl⟩
  rw [show (kws.filter fun p => p.1 == ("beside_of" : Str) && !p.2.2.isEmpty).map (·.2) = ([] : List (Nat × List Str)) from by decide +kernel] at h2
  cases h2
theorem bi_web_of : BindS "web_of" "web_of" (st 23) f_web_of.ps := fun _ _ _ _ _ _ us hl => match us, hl with | [_], _ => rfl
theorem ok_web_of : DefT.Ok d_web_of kws 60 := by
  refine ⟨by decide +kernel, rfl, bi_web_of, fun j kn h hne => ?_, ck_web_of⟩
  have h2 : (j, kn) ∈ (kws.filter fun p => p.1 == ("web_of" : Str) && !p.2.2.isEmpty).map (·.2) := List.mem_map.mpr ⟨_, List.mem_filter.mpr ⟨h, by cases kn with | nil => exact absurd rfl hne | cons _ _ => rfl⟩, rfl⟩
  rw [show (kws.filter fun p => p.1 == ("web_of" : Str) && !p.2.2.isEmpty).map (·.2) = ([] : List (Nat × List Str)) from by decide +kernel] at h2
  cases h2
theorem bi_damp_by : BindS "damp_by" "damp_by" (st 24) f_damp_by.ps := fun _ _ _ _ _ _ us hl => match us, hl with | [_, _], _ => rfl
theorem ok_damp_by : DefT.Ok d_damp_by kws 60 := by
  refine ⟨by decide +kernel, rfl, bi_damp_by, fun j kn h hne => ?_, ck_damp_by⟩
  have h2 : (j, kn) ∈ (kws.filter fun p => p.1 == ("damp_by" : Str) && !p.2.2.isEmpty).map (·.2) := List.mem_map.mpr ⟨_, List.mem_filter.mpr ⟨h, by cases kn with | nil => exact absurd rfl hne | cons _ _ => rfl⟩, rfl⟩
  rw [show (kws.filter fun p => p.1 == ("damp_by" : Str) && !p.2.2.isEmpty).map (·.2) = ([] : List (Nat × List Str)) from by decide +kernel] at h2
  cases h2
theorem bi_check_number : BindS "check_number" "check_number" (st 26) f_check_number.ps := fun _ _ _ _ _ _ us hl => match us, hl with | [_, _, _], _ => rfl
theorem ok_check_number : DefT.Ok d_check_number kws 60 := by
  refine ⟨by decide +kernel, rfl, bi_check_number, fun j kn h hne => ?_, ck_check_number⟩
  have h2 : (j, kn) ∈ (kws.filter fun p => p.1 == ("check_number" : Str) && !p.2.2.isEmpty).map (·.2) := List.mem_map.mpr ⟨_, List.mem_filter.mpr ⟨h, by cases kn with | nil => exact absurd rfl hne | cons _ _ => rfl⟩, rfl⟩
  rw [show (kws.filter fun p => p.1 == ("check_number" : Str) && !p.2.2.isEmpty).map (·.2) = ([] : List (Nat × List Str)) from by decide +kernel] at h2
  cases h2
theorem bi_check_many : BindS "check_many" "check_many" (st 27) f_check_many.ps := fun _ _ _ _ _ _ us hl => match us, hl with | [_, _], _ => rfl
theorem ok_check_many : DefT.Ok d_check_many kws 60 := by
  refine ⟨by decide +kernel, rfl, bi_check_many, fun j kn h hne => ?_, ck_check_many⟩
  have h2 : (j, kn) ∈ (kws.filter fun p => p.1 == ("check_many" : Str) && !p.2.2.isEmpty).map (·.2) := List.mem_map.mpr ⟨_, List.mem_filter.mpr ⟨h, by cases kn with | nil => exact absurd rfl hne | cons _ _ => rfl⟩, rfl⟩
  rw [show (kws.filter fun p => p.1 == ("check_many" : Str) && !p.2.2.isEmpty).map (·.2) = ([] : List (Nat × List Str)) from by decide +kernel] at h2
  cases h2
theorem bi_check_floor : BindS "check_floor" "check_floor" (st 28) f_check_floor.ps := fun _ _ _ _ _ _ us hl => match us, hl with | [_], _ => rfl
theorem ok_check_floor : DefT.Ok d_check_floor kws 60 := by
  refine ⟨by decide +kernel, rfl, bi_check_floor, fun j kn h hne => ?_, ck_check_floor⟩
  have h2 : (j, kn) ∈ (kws.filter fun p => p.1 == ("check_floor" : Str) && !p.2.2.isEmpty).map (·.2) := List.mem_map.mpr ⟨_, List.mem_filter.mpr ⟨h, by cases kn with | nil => exact absurd rfl hne | cons _ _ => rfl⟩, rfl⟩
  rw [show (kws.filter fun p => p.1 == ("check_floor" : Str) && !p.2.2.isEmpty).map (·.2) = ([] : List (Nat × List Str)) from by decide +kernel] at h2
  cases h2
theorem bi_check_few : BindS "check_few" "check_few" (st 29) f_check_few.ps := fun _ _ _ _ _ _ us hl => match us, hl with | [_], _ => rfl
theorem ok_check_few : DefT.Ok d_check_few kws 60 := by
  refine ⟨by decide +kernel, rfl, bi_check_few, fun j kn h hne => ?_, ck_check_few⟩
  have h2 : (j, kn) ∈ (kws.filter fun p => p.1 == ("check_few" : Str) && !p.2.2.isEmpty).map (·.2) := List.mem_map.mpr ⟨_, List.mem_filter.mpr ⟨h, by cases kn with | nil => exact absurd rfl hne | cons _ _ => rfl⟩, rfl⟩
  rw [show (kws.filter fun p => p.1 == ("check_few" : Str) && !p.2.2.isEmpty).map (·.2) = ([] : List (Nat × List Str)) from by decide +kernel] at h2
  cases h2
theorem bi_check_crowd : BindS "check_crowd" "check_crowd" (st 31) f_check_crowd.ps := fun _ _ _ _ _ _ us hl => match us, hl with | [_, _], _ => rfl
theorem ok_check_crowd : DefT.Ok d_check_crowd kws 60 := by
  refine ⟨by decide +kernel, rfl, bi_check_crowd, fun j kn h hne => ?_, ck_check_crowd⟩
  have h2 : (j, kn) ∈ (kws.filter fun p => p.1 == ("check_crowd" : Str) && !p.2.2.isEmpty).map (·.2) := List.mem_map.mpr ⟨_, List.mem_filter.mpr ⟨h, by cases kn with | nil => exact absurd rfl hne | cons _ _ => rfl⟩, rfl⟩
  rw [show (kws.filter fun p => p.1 == ("check_crowd" : Str) && !p.2.2.isEmpty).map (·.2) = ([] : List (Nat × List Str)) from by decide +kernel] at h2
  cases h2
theorem bi_crowds_in : BindS "crowds_in" "crowds_in" (st 32) f_crowds_in.ps := fun _ _ _ _ _ _ us hl => match us, hl with | [_, _], _ => rfl
theorem ok_crowds_in : DefT.Ok d_crowds_in kws 60 := by
  refine ⟨by decide +kernel, rfl, bi_crowds_in, fun j kn h hne => ?_, ck_crowds_in⟩
  have h2 : (j, kn) ∈ (kws.filter fun p => p.1 == ("crowds_in" : Str) && !p.2.2.isEmpty).map (·.2) := List.mem_map.mpr ⟨_, List.mem_filter.mpr ⟨h, by cases kn with | nil => exact absurd rfl hne | cons _ _ => rfl⟩, rfl⟩
  rw [show (kws.filter fun p => p.1 == ("crowds_in" : Str) && !p.2.2.isEmpty).map (·.2) = ([] : List (Nat × List Str)) from by decide +kernel] at h2
  cases h2
theorem bi_driest_in : BindS "driest_in" "driest_in" (st 33) f_driest_in.ps := fun _ _ _ _ _ _ us hl => match us, hl with | [_, _], _ => rfl
theorem ok_driest_in : DefT.Ok d_driest_in kws 60 := by
  refine ⟨by decide +kernel, rfl, bi_driest_in, fun j kn h hne => ?_, ck_driest_in⟩
  have h2 : (j, kn) ∈ (kws.filter fun p => p.1 == ("driest_in" : Str) && !p.2.2.isEmpty).map (·.2) := List.mem_map.mpr ⟨_, List.mem_filter.mpr ⟨h, by cases kn with | nil => exact absurd rfl hne | cons _ _ => rfl⟩, rfl⟩
  rw [show (kws.filter fun p => p.1 == ("driest_in" : Str) && !p.2.2.isEmpty).map (·.2) = ([] : List (Nat × List Str)) from by decide +kernel] at h2
  cases h2
theorem bi_most_dry : BindS "most_dry" "most_dry" (st 34) f_most_dry.ps := fun _ _ _ _ _ _ us hl => match us, hl with | [_, _], _ => rfl
theorem bk_most_dry_1 : BindK "most_dry" "most_dry" (st 34) f_most_dry.ps 1 ["many"] := fun _ _ _ _ _ _ us ws hl hw => match us, ws, hl, hw with | [_], [_], _, _ => rfl
theorem ok_most_dry : DefT.Ok d_most_dry kws 60 := by
  refine ⟨by decide +kernel, rfl, bi_most_dry, fun j kn h hne => ?_, ck_most_dry⟩
  have h2 : (j, kn) ∈ (kws.filter fun p => p.1 == ("most_dry" : Str) && !p.2.2.isEmpty).map (·.2) := List.mem_map.mpr ⟨_, List.mem_filter.mpr ⟨h, by cases kn with | nil => exact absurd rfl hne | cons _ _ => rfl⟩, rfl⟩
  rw [show (kws.filter fun p => p.1 == ("most_dry" : Str) && !p.2.2.isEmpty).map (·.2) = ([(1, ["many"])] : List (Nat × List Str)) from by decide +kernel] at h2
  have e := List.mem_singleton.mp h2
  cases e
  exact ⟨by decide, rfl, bk_most_dry_1⟩
theorem bi_driest_lot : BindS "driest_lot" "driest_lot" (st 35) f_driest_lot.ps := fun _ _ _ _ _ _ us hl => match us, hl with | [_, _], _ => rfl
theorem bk_driest_lot_1 : BindK "driest_lot" "driest_lot" (st 35) f_driest_lot.ps 1 ["many"] := fun _ _ _ _ _ _ us ws hl hw => match us, ws, hl, hw with | [_], [_], _, _ => rfl
theorem ok_driest_lot : DefT.Ok d_driest_lot kws 60 := by
  refine ⟨by decide +kernel, rfl, bi_driest_lot, fun j kn h hne => ?_, ck_driest_lot⟩
  have h2 : (j, kn) ∈ (kws.filter fun p => p.1 == ("driest_lot" : Str) && !p.2.2.isEmpty).map (·.2) := List.mem_map.mpr ⟨_, List.mem_filter.mpr ⟨h, by cases kn with | nil => exact absurd rfl hne | cons _ _ => rfl⟩, rfl⟩
  rw [show (kws.filter fun p => p.1 == ("driest_lot" : Str) && !p.2.2.isEmpty).map (·.2) = ([(1, ["many"])] : List (Nat × List Str)) from by decide +kernel] at h2
  have e := List.mem_singleton.mp h2
  cases e
  exact ⟨by decide, rfl, bk_driest_lot_1⟩
theorem bi_surely_by : BindS "surely_by" "surely_by" (st 36) f_surely_by.ps := fun _ _ _ _ _ _ us hl => match us, hl with | [_, _], _ => rfl
theorem bk_surely_by_1 : BindK "surely_by" "surely_by" (st 36) f_surely_by.ps 1 ["many"] := fun _ _ _ _ _ _ us ws hl hw => match us, ws, hl, hw with | [_], [_], _, _ => rfl
theorem ok_surely_by : DefT.Ok d_surely_by kws 60 := by
  refine ⟨by decide +kernel, rfl, bi_surely_by, fun j kn h hne => ?_, ck_surely_by⟩
  have h2 : (j, kn) ∈ (kws.filter fun p => p.1 == ("surely_by" : Str) && !p.2.2.isEmpty).map (·.2) := List.mem_map.mpr ⟨_, List.mem_filter.mpr ⟨h, by cases kn with | nil => exact absurd rfl hne | cons _ _ => rfl⟩, rfl⟩
  rw [show (kws.filter fun p => p.1 == ("surely_by" : Str) && !p.2.2.isEmpty).map (·.2) = ([(1, ["many"])] : List (Nat × List Str)) from by decide +kernel] at h2
  have e := List.mem_singleton.mp h2
  cases e
  exact ⟨by decide, rfl, bk_surely_by_1⟩
theorem bi__law_well : BindS "_law_well" "_law_well" (st 38) f__law_well.ps := fun _ _ _ _ _ _ us hl => match us, hl with | [_, _], _ => rfl
theorem ok__law_well : DefT.Ok d__law_well kws 60 := by
  refine ⟨by decide +kernel, rfl, bi__law_well, fun j kn h hne => ?_, ck__law_well⟩
  have h2 : (j, kn) ∈ (kws.filter fun p => p.1 == ("_law_well" : Str) && !p.2.2.isEmpty).map (·.2) := List.mem_map.mpr ⟨_, List.mem_filter.mpr ⟨h, by cases kn with | nil => exact absurd rfl hne | cons _ _ => rfl⟩, rfl⟩
  rw [show (kws.filter fun p => p.1 == ("_law_well" : Str) && !p.2.2.isEmpty).map (·.2) = ([] : List (Nat × List Str)) from by decide +kernel] at h2
  cases h2
theorem bi__law_draw : BindS "_law_draw" "_law_draw" (st 39) f__law_draw.ps := fun _ _ _ _ _ _ us hl => match us, hl with | [_, _], _ => rfl
theorem ok__law_draw : DefT.Ok d__law_draw kws 60 := by
  refine ⟨by decide +kernel, rfl, bi__law_draw, fun j kn h hne => ?_, ck__law_draw⟩
  have h2 : (j, kn) ∈ (kws.filter fun p => p.1 == ("_law_draw" : Str) && !p.2.2.isEmpty).map (·.2) := List.mem_map.mpr ⟨_, List.mem_filter.mpr ⟨h, by cases kn with | nil => exact absurd rfl hne | cons _ _ => rfl⟩, rfl⟩
  rw [show (kws.filter fun p => p.1 == ("_law_draw" : Str) && !p.2.2.isEmpty).map (·.2) = ([] : List (Nat × List Str)) from by decide +kernel] at h2
  cases h2
theorem bi__law_of : BindS "_law_of" "_law_of" (st 40) f__law_of.ps := fun _ _ _ _ _ _ us hl => match us, hl with | [_, _], _ => rfl
theorem ok__law_of : DefT.Ok d__law_of kws 60 := by
  refine ⟨by decide +kernel, rfl, bi__law_of, fun j kn h hne => ?_, ck__law_of⟩
  have h2 : (j, kn) ∈ (kws.filter fun p => p.1 == ("_law_of" : Str) && !p.2.2.isEmpty).map (·.2) := List.mem_map.mpr ⟨_, List.mem_filter.mpr ⟨h, by cases kn with | nil => exact absurd rfl hne | cons _ _ => rfl⟩, rfl⟩
  rw [show (kws.filter fun p => p.1 == ("_law_of" : Str) && !p.2.2.isEmpty).map (·.2) = ([] : List (Nat × List Str)) from by decide +kernel] at h2
  cases h2
theorem bi__law_same : BindS "_law_same" "_law_same" (st 41) f__law_same.ps := fun _ _ _ _ _ _ us hl => match us, hl with | [_, _], _ => rfl
theorem ok__law_same : DefT.Ok d__law_same kws 60 := by
  refine ⟨by decide +kernel, rfl, bi__law_same, fun j kn h hne => ?_, ck__law_same⟩
  have h2 : (j, kn) ∈ (kws.filter fun p => p.1 == ("_law_same" : Str) && !p.2.2.isEmpty).map (·.2) := List.mem_map.mpr ⟨_, List.mem_filter.mpr ⟨h, by cases kn with | nil => exact absurd rfl hne | cons _ _ => rfl⟩, rfl⟩
  rw [show (kws.filter fun p => p.1 == ("_law_same" : Str) && !p.2.2.isEmpty).map (·.2) = ([] : List (Nat × List Str)) from by decide +kernel] at h2
  cases h2
theorem bi__law_sets : BindS "_law_sets" "_law_sets" (st 42) f__law_sets.ps := fun _ _ _ _ _ _ us hl => match us, hl with | [_], _ => rfl
theorem ok__law_sets : DefT.Ok d__law_sets kws 60 := by
  refine ⟨by decide +kernel, rfl, bi__law_sets, fun j kn h hne => ?_, ck__law_sets⟩
  have h2 : (j, kn) ∈ (kws.filter fun p => p.1 == ("_law_sets" : Str) && !p.2.2.isEmpty).map (·.2) := List.mem_map.mpr ⟨_, List.mem_filter.mpr ⟨h, by cases kn with | nil => exact absurd rfl hne | cons _ _ => rfl⟩, rfl⟩
  rw [show (kws.filter fun p => p.1 == ("_law_sets" : Str) && !p.2.2.isEmpty).map (·.2) = ([] : List (Nat × List Str)) from by decide +kernel] at h2
  cases h2
theorem bi__law_sized : BindS "_law_sized" "_law_sized" (st 43) f__law_sized.ps := fun _ _ _ _ _ _ us hl => match us, hl with | [_, _, _], _ => rfl
theorem ok__law_sized : DefT.Ok d__law_sized kws 60 := by
  refine ⟨by decide +kernel, rfl, bi__law_sized, fun j kn h hne => ?_, ck__law_sized⟩
  have h2 : (j, kn) ∈ (kws.filter fun p => p.1 == ("_law_sized" : Str) && !p.2.2.isEmpty).map (·.2) := List.mem_map.mpr ⟨_, List.mem_filter.mpr ⟨h, by cases kn with | nil => exact absurd rfl hne | cons _ _ => rfl⟩, rfl⟩
  rw [show (kws.filter fun p => p.1 == ("_law_sized" : Str) && !p.2.2.isEmpty).map (·.2) = ([] : List (Nat × List Str)) from by decide +kernel] at h2
  cases h2
theorem bi__law_floor : BindS "_law_floor" "_law_floor" (st 44) f__law_floor.ps := fun _ _ _ _ _ _ us hl => match us, hl with | [_, _], _ => rfl
theorem ok__law_floor : DefT.Ok d__law_floor kws 60 := by
  refine ⟨by decide +kernel, rfl, bi__law_floor, fun j kn h hne => ?_, ck__law_floor⟩
  have h2 : (j, kn) ∈ (kws.filter fun p => p.1 == ("_law_floor" : Str) && !p.2.2.isEmpty).map (·.2) := List.mem_map.mpr ⟨_, List.mem_filter.mpr ⟨h, by cases kn with | nil => exact absurd rfl hne | cons _ _ => rfl⟩, rfl⟩
  rw [show (kws.filter fun p => p.1 == ("_law_floor" : Str) && !p.2.2.isEmpty).map (·.2) = ([] : List (Nat × List Str)) from by decide +kernel] at h2
  cases h2
theorem bi__law_tiles : BindS "_law_tiles" "_law_tiles" (st 45) f__law_tiles.ps := fun _ _ _ _ _ _ us hl => match us, hl with | [_], _ => rfl
theorem ok__law_tiles : DefT.Ok d__law_tiles kws 60 := by
  refine ⟨by decide +kernel, rfl, bi__law_tiles, fun j kn h hne => ?_, ck__law_tiles⟩
  have h2 : (j, kn) ∈ (kws.filter fun p => p.1 == ("_law_tiles" : Str) && !p.2.2.isEmpty).map (·.2) := List.mem_map.mpr ⟨_, List.mem_filter.mpr ⟨h, by cases kn with | nil => exact absurd rfl hne | cons _ _ => rfl⟩, rfl⟩
  rw [show (kws.filter fun p => p.1 == ("_law_tiles" : Str) && !p.2.2.isEmpty).map (·.2) = ([] : List (Nat × List Str)) from by decide +kernel] at h2
  cases h2
theorem bi__law_near : BindS "_law_near" "_law_near" (st 46) f__law_near.ps := fun _ _ _ _ _ _ us hl => match us, hl with | [_, _], _ => rfl
theorem ok__law_near : DefT.Ok d__law_near kws 60 := by
  refine ⟨by decide +kernel, rfl, bi__law_near, fun j kn h hne => ?_, ck__law_near⟩
  have h2 : (j, kn) ∈ (kws.filter fun p => p.1 == ("_law_near" : Str) && !p.2.2.isEmpty).map (·.2) := List.mem_map.mpr ⟨_, List.mem_filter.mpr ⟨h, by cases kn with | nil => exact absurd rfl hne | cons _ _ => rfl⟩, rfl⟩
  rw [show (kws.filter fun p => p.1 == ("_law_near" : Str) && !p.2.2.isEmpty).map (·.2) = ([] : List (Nat × List Str)) from by decide +kernel] at h2
  cases h2
theorem bi__law_damp_beside : BindS "_law_damp_beside" "_law_damp_beside" (st 47) f__law_damp_beside.ps := fun _ _ _ _ _ _ us hl => match us, hl with | [_, _, _], _ => rfl
theorem ok__law_damp_beside : DefT.Ok d__law_damp_beside kws 60 := by
  refine ⟨by decide +kernel, rfl, bi__law_damp_beside, fun j kn h hne => ?_, ck__law_damp_beside⟩
  have h2 : (j, kn) ∈ (kws.filter fun p => p.1 == ("_law_damp_beside" : Str) && !p.2.2.isEmpty).map (·.2) := List.mem_map.mpr ⟨_, List.mem_filter.mpr ⟨h, by cases kn with | nil => exact absurd rfl hne | cons _ _ => rfl⟩, rfl⟩
  rw [show (kws.filter fun p => p.1 == ("_law_damp_beside" : Str) && !p.2.2.isEmpty).map (·.2) = ([] : List (Nat × List Str)) from by decide +kernel] at h2
  cases h2
theorem bi__law_can : BindS "_law_can" "_law_can" (st 48) f__law_can.ps := fun _ _ _ _ _ _ us hl => match us, hl with | [_, _, _], _ => rfl
theorem ok__law_can : DefT.Ok d__law_can kws 60 := by
  refine ⟨by decide +kernel, rfl, bi__law_can, fun j kn h hne => ?_, ck__law_can⟩
  have h2 : (j, kn) ∈ (kws.filter fun p => p.1 == ("_law_can" : Str) && !p.2.2.isEmpty).map (·.2) := List.mem_map.mpr ⟨_, List.mem_filter.mpr ⟨h, by cases kn with | nil => exact absurd rfl hne | cons _ _ => rfl⟩, rfl⟩
  rw [show (kws.filter fun p => p.1 == ("_law_can" : Str) && !p.2.2.isEmpty).map (·.2) = ([] : List (Nat × List Str)) from by decide +kernel] at h2
  cases h2
theorem bi__law_rounds : BindS "_law_rounds" "_law_rounds" (st 49) f__law_rounds.ps := fun _ _ _ _ _ _ us hl => match us, hl with | [_, _], _ => rfl
theorem ok__law_rounds : DefT.Ok d__law_rounds kws 60 := by
  refine ⟨by decide +kernel, rfl, bi__law_rounds, fun j kn h hne => ?_, ck__law_rounds⟩
  have h2 : (j, kn) ∈ (kws.filter fun p => p.1 == ("_law_rounds" : Str) && !p.2.2.isEmpty).map (·.2) := List.mem_map.mpr ⟨_, List.mem_filter.mpr ⟨h, by cases kn with | nil => exact absurd rfl hne | cons _ _ => rfl⟩, rfl⟩
  rw [show (kws.filter fun p => p.1 == ("_law_rounds" : Str) && !p.2.2.isEmpty).map (·.2) = ([] : List (Nat × List Str)) from by decide +kernel] at h2
  cases h2
theorem bi__law_end : BindS "_law_end" "_law_end" (st 50) f__law_end.ps := fun _ _ _ _ _ _ us hl => match us, hl with | [_, _], _ => rfl
theorem ok__law_end : DefT.Ok d__law_end kws 60 := by
  refine ⟨by decide +kernel, rfl, bi__law_end, fun j kn h hne => ?_, ck__law_end⟩
  have h2 : (j, kn) ∈ (kws.filter fun p => p.1 == ("_law_end" : Str) && !p.2.2.isEmpty).map (·.2) := List.mem_map.mpr ⟨_, List.mem_filter.mpr ⟨h, by cases kn with | nil => exact absurd rfl hne | cons _ _ => rfl⟩, rfl⟩
  rw [show (kws.filter fun p => p.1 == ("_law_end" : Str) && !p.2.2.isEmpty).map (·.2) = ([] : List (Nat × List Str)) from by decide +kernel] at h2
  cases h2
theorem bi__law_right : BindS "_law_right" "_law_right" (st 51) f__law_right.ps := fun _ _ _ _ _ _ us hl => match us, hl with | [_], _ => rfl
theorem ok__law_right : DefT.Ok d__law_right kws 60 := by
  refine ⟨by decide +kernel, rfl, bi__law_right, fun j kn h hne => ?_, ck__law_right⟩
  have h2 : (j, kn) ∈ (kws.filter fun p => p.1 == ("_law_right" : Str) && !p.2.2.isEmpty).map (·.2) := List.mem_map.mpr ⟨_, List.mem_filter.mpr ⟨h, by cases kn with | nil => exact absurd rfl hne | cons _ _ => rfl⟩, rfl⟩
  rw [show (kws.filter fun p => p.1 == ("_law_right" : Str) && !p.2.2.isEmpty).map (·.2) = ([] : List (Nat × List Str)) from by decide +kernel] at h2
  cases h2
theorem bi_law : BindS "law" "law" (st 52) f_law.ps := fun _ _ _ _ _ _ us hl => match us, hl with | [_], _ => rfl
theorem ok_law : DefT.Ok d_law kws 60 := by
  refine ⟨by decide +kernel, rfl, bi_law, fun j kn h hne => ?_, ck_law⟩
  have h2 : (j, kn) ∈ (kws.filter fun p => p.1 == ("law" : Str) && !p.2.2.isEmpty).map (·.2) := List.mem_map.mpr ⟨_, List.mem_filter.mpr ⟨h, by cases kn with | nil => exact absurd rfl hne | cons _ _ => rfl⟩, rfl⟩
  rw [show (kws.filter fun p => p.1 == ("law" : Str) && !p.2.2.isEmpty).map (·.2) = ([] : List (Nat × List Str)) from by decide +kernel] at h2
  cases h2
def fa0 : List He.Fa := [.glo "is_whole", .glo "is_number", .glo "is_tuple_of", .glo "is_floor_form", .glo "is_tile_of", .glo "is_tile", .glo "tiles_of", .glo "need_in", .glo "beside_of", .glo "web_of", .glo "damp_by", .glo "check_number", .glo "check_many", .glo "check_floor", .glo "check_few", .glo "check_crowd", .glo "crowds_in", .glo "driest_in", .glo "most_dry", .glo "driest_lot", .glo "surely_by", .glo "_law_well", .glo "_law_draw", .glo "_law_of", .glo "_law_same", .glo "_law_sets", .glo "_law_sized", .glo "_law_floor", .glo "_law_tiles", .glo "_law_near"]
def fa1 : List He.Fa := [.glo "_law_damp_beside", .glo "_law_can", .glo "_law_rounds", .glo "_law_end", .glo "_law_right", .glo "law", .int "MOST_ROWS" 6, .int "MOST_WIDE" 6, .int "MOST_TILES" 24, .int "MOST_NEED" 5, .int "FEW_TILES" 12, .free "len", .free "tuple", .free "list", .free "sorted", .free "min", .free "max", .free "all", .free "any", .free "sum", .free "abs", .free "int", .free "divmod", .free "range", .free "zip", .free "enumerate", .free "isinstance", .free "bool", .free "str", .free "dict"]
def fa : List He.Fa := fa0 ++ fa1
def e_is_whole : He.DefD := ⟨("is_whole", none), "is_whole", "is_whole", defArgs (st 8), defBody (st 8), defScope (st 8), [], []⟩
def e_is_number : He.DefD := ⟨("is_number", none), "is_number", "is_number", defArgs (st 9), defBody (st 9), defScope (st 9), [], []⟩
def e_is_tuple_of : He.DefD := ⟨("is_tuple_of", none), "is_tuple_of", "is_tuple_of", defArgs (st 10), defBody (st 10), defScope (st 10), [], []⟩
def e_is_floor_form : He.DefD := ⟨("is_floor_form", none), "is_floor_form", "is_floor_form", defArgs (st 17), defBody (st 17), defScope (st 17), [], []⟩
def e_is_tile_of : He.DefD := ⟨("is_tile_of", none), "is_tile_of", "is_tile_of", defArgs (st 18), defBody (st 18), defScope (st 18), [], []⟩
def e_is_tile : He.DefD := ⟨("is_tile", none), "is_tile", "is_tile", defArgs (st 19), defBody (st 19), defScope (st 19), [], []⟩
def e_tiles_of : He.DefD := ⟨("tiles_of", none), "tiles_of", "tiles_of", defArgs (st 20), defBody (st 20), defScope (st 20), [], []⟩
def e_need_in : He.DefD := ⟨("need_in", none), "need_in", "need_in", defArgs (st 21), defBody (st 21), defScope (st 21), [], []⟩
def e_beside_of : He.DefD := ⟨("beside_of", none), "beside_of", "beside_of", defArgs (st 22), defBody (st 22), defScope (st 22), [], []⟩
def e_web_of : He.DefD := ⟨("web_of", none), "web_of", "web_of", defArgs (st 23), defBody (st 23), defScope (st 23), [], []⟩
def e_damp_by : He.DefD := ⟨("damp_by", none), "damp_by", "damp_by", defArgs (st 24), defBody (st 24), defScope (st 24), [], []⟩
def e_check_number : He.DefD := ⟨("check_number", none), "check_number", "check_number", defArgs (st 26), defBody (st 26), defScope (st 26), [], []⟩
def e_check_many : He.DefD := ⟨("check_many", none), "check_many", "check_many", defArgs (st 27), defBody (st 27), defScope (st 27), [], []⟩
def e_check_floor : He.DefD := ⟨("check_floor", none), "check_floor", "check_floor", defArgs (st 28), defBody (st 28), defScope (st 28), [], []⟩
def e_check_few : He.DefD := ⟨("check_few", none), "check_few", "check_few", defArgs (st 29), defBody (st 29), defScope (st 29), [], []⟩
def e_check_crowd : He.DefD := ⟨("check_crowd", none), "check_crowd", "check_crowd", defArgs (st 31), defBody (st 31), defScope (st 31), [], []⟩
def e_crowds_in : He.DefD := ⟨("crowds_in", none), "crowds_in", "crowds_in", defArgs (st 32), defBody (st 32), defScope (st 32), [], []⟩
def e_driest_in : He.DefD := ⟨("driest_in", none), "driest_in", "driest_in", defArgs (st 33), defBody (st 33), defScope (st 33), [], []⟩
def e_most_dry : He.DefD := ⟨("most_dry", none), "most_dry", "most_dry", defArgs (st 34), defBody (st 34), defScope (st 34), [], []⟩
def e_driest_lot : He.DefD := ⟨("driest_lot", none), "driest_lot", "driest_lot", defArgs (st 35), defBody (st 35), defScope (st 35), [], []⟩
def e_surely_by : He.DefD := ⟨("surely_by", none), "surely_by", "surely_by", defArgs (st 36), defBody (st 36), defScope (st 36), [], []⟩
def e__law_well : He.DefD := ⟨("_law_well", none), "_law_well", "_law_well", defArgs (st 38), defBody (st 38), defScope (st 38), [], []⟩
def e__law_draw : He.DefD := ⟨("_law_draw", none), "_law_draw", "_law_draw", defArgs (st 39), defBody (st 39), defScope (st 39), [], []⟩
def e__law_of : He.DefD := ⟨("_law_of", none), "_law_of", "_law_of", defArgs (st 40), defBody (st 40), defScope (st 40), [], []⟩
def e__law_same : He.DefD := ⟨("_law_same", none), "_law_same", "_law_same", defArgs (st 41), defBody (st 41), defScope (st 41), [], []⟩
def e__law_sets : He.DefD := ⟨("_law_sets", none), "_law_sets", "_law_sets", defArgs (st 42), defBody (st 42), defScope (st 42), [], []⟩
def e__law_sized : He.DefD := ⟨("_law_sized", none), "_law_sized", "_law_sized", defArgs (st 43), defBody (st 43), defScope (st 43), [], []⟩
def e__law_floor : He.DefD := ⟨("_law_floor", none), "_law_floor", "_law_floor", defArgs (st 44), defBody (st 44), defScope (st 44), [], []⟩
def e__law_tiles : He.DefD := ⟨("_law_tiles", none), "_law_tiles", "_law_tiles", defArgs (st 45), defBody (st 45), defScope (st 45), [], []⟩
def e__law_near : He.DefD := ⟨("_law_near", none), "_law_near", "_law_near", defArgs (st 46), defBody (st 46), defScope (st 46), [], []⟩
def e__law_damp_beside : He.DefD := ⟨("_law_damp_beside", none), "_law_damp_beside", "_law_damp_beside", defArgs (st 47), defBody (st 47), defScope (st 47), [], []⟩
def e__law_can : He.DefD := ⟨("_law_can", none), "_law_can", "_law_can", defArgs (st 48), defBody (st 48), defScope (st 48), [], []⟩
def e__law_rounds : He.DefD := ⟨("_law_rounds", none), "_law_rounds", "_law_rounds", defArgs (st 49), defBody (st 49), defScope (st 49), [], []⟩
def e__law_end : He.DefD := ⟨("_law_end", none), "_law_end", "_law_end", defArgs (st 50), defBody (st 50), defScope (st 50), [], []⟩
def e__law_right : He.DefD := ⟨("_law_right", none), "_law_right", "_law_right", defArgs (st 51), defBody (st 51), defScope (st 51), [], []⟩
def e_law : He.DefD := ⟨("law", none), "law", "law", defArgs (st 52), defBody (st 52), defScope (st 52), [], []⟩
def fn0 : List He.DefD := [e_is_whole, e_is_number, e_is_tuple_of, e_is_floor_form, e_is_tile_of, e_is_tile, e_tiles_of, e_need_in, e_beside_of, e_web_of, e_damp_by, e_check_number, e_check_many, e_check_floor, e_check_few, e_check_crowd, e_crowds_in, e_driest_in, e_most_dry, e_driest_lot, e_surely_by, e__law_well, e__law_draw, e__law_of, e__law_same, e__law_sets, e__law_sized, e__law_floor, e__law_tiles, e__law_near]
def fn1 : List He.DefD := [e__law_damp_beside, e__law_can, e__law_rounds, e__law_end, e__law_right, e_law]
def fn : List He.DefD := fn0 ++ fn1
def lo0 : List PySem.Str := ["is_whole", "is_number", "is_tuple_of", "is_floor_form", "is_tile_of", "is_tile", "tiles_of", "need_in", "beside_of", "web_of", "damp_by", "check_number", "check_many", "check_floor", "check_few", "check_crowd", "crowds_in", "driest_in", "most_dry", "driest_lot", "surely_by", "_law_well", "_law_draw", "_law_of", "_law_same", "_law_sets", "_law_sized", "_law_floor", "_law_tiles", "_law_near"]
def lo1 : List PySem.Str := ["_law_damp_beside", "_law_can", "_law_rounds", "_law_end", "_law_right", "DampError", "InvalidFloor", "InvalidNumber", "OutOfRange", "TooMany", "MOST_ROWS", "MOST_WIDE", "MOST_TILES", "MOST_NEED", "FEW_TILES"]
def lo : List PySem.Str := lo0 ++ lo1
abbrev R : PySem.W.OpenRow := PySem.W.OpenLaw.row PySem.Challenge.rw_damptiles_k75_whole_crowds
abbrev hk : PySem.W.Hook := Pv.hookC true 4 fa fn
def ob (s : PySem.W.SharedT) : Pv.AlC := Pv.obsC true 4 fa fn (HandSHeadRun.getT s)
theorem ob_eq (s : PySem.W.SharedT) : ob s = hk.obs s.abs := Pv.obsC_eq (HandSHeadRun.getT_eq s)

theorem run (w : World) : HandSHeadRun.RunEqI R (PySem.W.view R.prog [0, 52]) hk ob 6000 lo w := by
  unfold HandSHeadRun.RunEqI
  kernel_rfl
end PvK

end T_Kb
section T_Ma
/-! Ma: data of ints and tuples: ==, in, <. -/
namespace Pv
open PySem
def itD : Nat → D → Bool
  | _, .int _ => true
  | n + 1, .tup xs => xs.all (itD n)
  | _, _ => false
theorem itD_tup {n : Nat} {xs : List D} : itD (n + 1) (.tup xs) = xs.all (itD n) := by rw [itD]
theorem toPys_of {n : Nat} (ih : ∀ a : D, itD n a = true → ∃ p, toPy a = some p ∧ p.depth ≤ n) : ∀ xs : List D, xs.all (itD n) = true → ∃ ps, toPys xs = some ps ∧ PyData.depthAll ps ≤ n
  | [], _ => ⟨[], rfl, Nat.zero_le _⟩
  | x :: xs, h => by
    simp only [List.all_cons, Bool.and_eq_true] at h
    obtain ⟨p, e, l⟩ := ih x h.1
    obtain ⟨ps, e2, l2⟩ := toPys_of ih xs h.2
    exact ⟨p :: ps, by rw [toPys, e, e2], by rw [PyData.depthAll]; exact Nat.max_le.mpr ⟨l, l2⟩⟩
theorem toPy_of : ∀ (n : Nat) (a : D), itD n a = true → ∃ p, toPy a = some p ∧ p.depth ≤ n := fun n => by
  induction n with
  | zero =>
    intro a h
    cases a with
    | int i => exact ⟨.int i, rfl, Nat.le_refl _⟩
    | _ => cases h
  | succ n ih =>
    intro a h
    cases a with
    | int i => exact ⟨.int i, rfl, Nat.zero_le _⟩
    | tup xs =>
      rw [itD_tup] at h
      obtain ⟨ps, e, l⟩ := toPys_of ih xs h
      exact ⟨.tuple ps, by rw [toPy, e]; rfl, by rw [PyData.depth]; omega⟩
    | _ => cases h
theorem eqvs_of {n : Nat} (ih : ∀ (a b : D) (p q : PyData), itD n a = true → itD n b = true → toPy a = some p → toPy b = some q → p.eqv q = decide (a = b)) : ∀ (xs ys : List D) (ps qs : List PyData), xs.all (itD n) = true → ys.all (itD n) = true → toPys xs = some ps → toPys ys = some qs → PyData.eqvAll ps qs = decide (xs = ys)
  | [], ys, ps, qs, _, _, e, e2 => by
    cases e
    cases ys with
    | nil => cases e2; rfl
    | cons y ys =>
      rw [toPys] at e2
      split at e2
      · cases e2; simp [PyData.eqvAll]
      · cases e2
  | x :: xs, ys, ps, qs, h, h2, e, e2 => by
    rw [toPys] at e
    split at e
    · rename_i p ps' ep eps
      cases e
      cases ys with
      | nil => cases e2; simp [PyData.eqvAll]
      | cons y ys =>
        rw [toPys] at e2
        split at e2
        · rename_i q qs' eq eqs
          cases e2
          simp only [List.all_cons, Bool.and_eq_true] at h h2
          rw [PyData.eqvAll, ih x y p q h.1 h2.1 ep eq, eqvs_of ih xs ys ps' qs' h.2 h2.2 eps eqs]
          rw [Bool.eq_iff_iff]
          simp
        · cases e2
    · cases e
theorem eqv_of : ∀ (n : Nat) (a b : D) (p q : PyData), itD n a = true → itD n b = true → toPy a = some p → toPy b = some q → p.eqv q = decide (a = b) := fun n => by
  induction n with
  | zero =>
    intro a b p q h h2 e e2
    cases a with
    | int i =>
      cases b with
      | int j => cases e; cases e2; rw [Bool.eq_iff_iff]; simp [PyData.eqv]
      | _ => cases h2
    | _ => cases h
  | succ n ih =>
    intro a b p q h h2 e e2
    cases a with
    | int i =>
      cases b with
      | int j => cases e; cases e2; rw [Bool.eq_iff_iff]; simp [PyData.eqv]
      | tup ys =>
        rw [itD_tup] at h2
        rw [toPy] at e2
        cases e
        cases z : toPys ys with
        | none => rw [z] at e2; cases e2
        | some qs => rw [z] at e2; cases e2; simp [PyData.eqv]
      | _ => cases h2
    | tup xs =>
      rw [itD_tup] at h
      rw [toPy] at e
      cases z : toPys xs with
      | none => rw [z] at e; cases e
      | some ps =>
        rw [z] at e
        cases e
        cases b with
        | int j => cases e2; simp [PyData.eqv]
        | tup ys =>
          rw [itD_tup] at h2
          rw [toPy] at e2
          cases z2 : toPys ys with
          | none => rw [z2] at e2; cases e2
          | some qs =>
            rw [z2] at e2
            cases e2
            rw [PyData.eqv, eqvs_of ih xs ys ps qs h h2 z z2, Bool.eq_iff_iff]
            simp
        | _ => cases h2
    | _ => cases h
theorem eqD_it {n : Nat} {a b : D} (hn : n ≤ 60) (h : itD n a = true) (h2 : itD n b = true) : eqD a b = some (decide (a = b)) := by
  obtain ⟨p, e, l⟩ := toPy_of n a h
  obtain ⟨q, e2, l2⟩ := toPy_of n b h2
  unfold eqD
  split
  · simp
  · rw [e, e2]
    dsimp only
    rw [if_pos (show p.depth ≤ DEEP from Nat.le_trans l hn), eqv_of n a b p q h h2 e e2]
theorem any_of {n : Nat} {x : D} {p : PyData} (h : itD n x = true) (e : toPy x = some p) : ∀ (ys : List D) (qs : List PyData), ys.all (itD n) = true → toPys ys = some qs → (qs.any fun q => q.eqv p) = decide (x ∈ ys)
  | [], qs, _, e2 => by cases e2; simp
  | y :: ys, qs, h2, e2 => by
    rw [toPys] at e2
    split at e2
    · rename_i q qs' eq eqs
      cases e2
      simp only [List.all_cons, Bool.and_eq_true] at h2
      rw [List.any_cons, any_of h e ys qs' h2.2 eqs, eqv_of n y x q p h2.1 h eq e, Bool.eq_iff_iff]
      rw [Bool.or_eq_true, decide_eq_true_iff, decide_eq_true_iff, decide_eq_true_iff, List.mem_cons]
      exact or_congr eq_comm Iff.rfl
    · cases e2
theorem inD_tup {n : Nat} {x : D} {ys : List D} (hn : n ≤ 60) (h : itD n x = true) (h2 : ys.all (itD n) = true) : inD x (.tup ys) = some (decide (x ∈ ys)) := by
  obtain ⟨p, e, l⟩ := toPy_of n x h
  obtain ⟨qs, e2, _⟩ := toPys_of (toPy_of n) ys h2
  unfold inD
  dsimp only
  rw [e, e2]
  dsimp only
  rw [if_pos (show p.depth ≤ DEEP from Nat.le_trans l hn), any_of h e ys qs h2 e2]
theorem inD_lst {n : Nat} {x : D} {ys : List D} (hn : n ≤ 60) (h : itD n x = true) (h2 : ys.all (itD n) = true) : inD x (.lst ys) = some (decide (x ∈ ys)) := by
  obtain ⟨p, e, l⟩ := toPy_of n x h
  obtain ⟨qs, e2, _⟩ := toPys_of (toPy_of n) ys h2
  unfold inD
  dsimp only
  rw [e, e2]
  dsimp only
  rw [if_pos (show p.depth ≤ DEEP from Nat.le_trans l hn), any_of h e ys qs h2 e2]
end Pv

end T_Ma
section T_Mb
/-! Mb: data of one shape: <, sorted, min, max. -/
namespace Pv
open PySem
inductive Sh where
  | int | seq (s : Sh) | two (a b : Sh)
def Sh.dep : Sh → Nat
  | .int => 0
  | .seq s => s.dep + 1
  | .two a b => max a.dep b.dep + 1
def hasSh : Sh → D → Bool
  | .int => fun d => match d with
    | .int _ => true
    | _ => false
  | .seq s => fun d => match d with
    | .tup xs => xs.all (hasSh s)
    | _ => false
  | .two a b => fun d => match d with
    | .tup [x, y] => hasSh a x && hasSh b y
    | _ => false
theorem sh_int {d : D} (h : hasSh .int d = true) : ∃ i, d = .int i := by
  unfold hasSh at h
  split at h
  · exact ⟨_, rfl⟩
  · cases h
theorem sh_seq {s : Sh} {d : D} (h : hasSh (.seq s) d = true) : ∃ xs, d = .tup xs ∧ xs.all (hasSh s) = true := by
  unfold hasSh at h
  split at h
  · exact ⟨_, rfl, h⟩
  · cases h
theorem sh_two {s t : Sh} {d : D} (h : hasSh (.two s t) d = true) : ∃ x y, d = .tup [x, y] ∧ hasSh s x = true ∧ hasSh t y = true := by
  unfold hasSh at h
  split at h
  · rw [Bool.and_eq_true] at h
    exact ⟨_, _, rfl, h⟩
  · cases h
theorem itD_mono : ∀ {n m : Nat} {a : D}, n ≤ m → itD n a = true → itD m a = true := fun {n} => by
  induction n with
  | zero =>
    intro m a l h
    cases a with
    | int i => cases m <;> rfl
    | _ => cases h
  | succ n ih =>
    intro m a l h
    cases m with
    | zero => omega
    | succ m =>
      cases a with
      | int i => rfl
      | tup xs =>
        rw [itD_tup] at h ⊢
        exact List.all_eq_true.mpr fun x hx => ih (by omega) (List.all_eq_true.mp h x hx)
      | _ => cases h
theorem sh_it : ∀ (s : Sh) (a : D), hasSh s a = true → itD s.dep a = true := fun s => by
  induction s with
  | int =>
    intro a h
    obtain ⟨i, rfl⟩ := sh_int h
    rfl
  | seq s ih =>
    intro a h
    obtain ⟨xs, rfl, h⟩ := sh_seq h
    rw [Sh.dep, itD_tup]
    exact List.all_eq_true.mpr fun x hx => ih x (List.all_eq_true.mp h x hx)
  | two s t ih ih2 =>
    intro a h
    obtain ⟨x, y, rfl, h1, h2⟩ := sh_two h
    rw [Sh.dep, itD_tup]
    simp only [List.all_cons, List.all_nil, Bool.and_true, Bool.and_eq_true]
    exact ⟨itD_mono (Nat.le_max_left _ _) (ih _ h1), itD_mono (Nat.le_max_right _ _) (ih2 _ h2)⟩
theorem alikes_of {s : Sh} (ih : ∀ (a b : D) (p q : PyData), hasSh s a = true → hasSh s b = true → toPy a = some p → toPy b = some q → W.alike p q = true) : ∀ (xs ys : List D) (ps qs : List PyData), xs.all (hasSh s) = true → ys.all (hasSh s) = true → toPys xs = some ps → toPys ys = some qs → W.alikeAll ps qs = true
  | [], ys, ps, qs, _, _, e, e2 => by
    cases e
    cases qs <;> rfl
  | x :: xs, [], ps, qs, _, _, e, e2 => by
    cases e2
    cases ps <;> rfl
  | x :: xs, y :: ys, ps, qs, h, h2, e, e2 => by
    rw [toPys] at e e2
    split at e
    · rename_i p ps' ep eps
      cases e
      split at e2
      · rename_i q qs' eq eqs
        cases e2
        simp only [List.all_cons, Bool.and_eq_true] at h h2
        rw [W.alikeAll, ih x y p q h.1 h2.1 ep eq, alikes_of ih xs ys ps' qs' h.2 h2.2 eps eqs]
        rfl
      · cases e2
    · cases e
theorem toPy_tup {xs : List D} {p : PyData} (e : toPy (.tup xs) = some p) : ∃ ps, toPys xs = some ps ∧ p = .tuple ps := by
  rw [toPy] at e
  cases z : toPys xs with
  | none => rw [z] at e; cases e
  | some ps => rw [z] at e; cases e; exact ⟨ps, rfl, rfl⟩
theorem toPys_cons {x : D} {xs : List D} {l : List PyData} (e : toPys (x :: xs) = some l) : ∃ p ps, toPy x = some p ∧ toPys xs = some ps ∧ l = p :: ps := by
  rw [toPys] at e
  split at e
  · rename_i p ps e1 e2
    cases e
    exact ⟨p, ps, e1, e2, rfl⟩
  · cases e
theorem alike_of : ∀ (s : Sh) (a b : D) (p q : PyData), hasSh s a = true → hasSh s b = true → toPy a = some p → toPy b = some q → W.alike p q = true := fun s => by
  induction s with
  | int =>
    intro a b p q h h2 e e2
    obtain ⟨i, rfl⟩ := sh_int h
    obtain ⟨j, rfl⟩ := sh_int h2
    cases e; cases e2; rfl
  | seq s ih =>
    intro a b p q h h2 e e2
    obtain ⟨xs, rfl, h⟩ := sh_seq h
    obtain ⟨ys, rfl, h2⟩ := sh_seq h2
    obtain ⟨ps, z, rfl⟩ := toPy_tup e
    obtain ⟨qs, z2, rfl⟩ := toPy_tup e2
    rw [W.alike]
    exact alikes_of ih xs ys ps qs h h2 z z2
  | two s t ih ih2 =>
    intro a b p q h h2 e e2
    obtain ⟨x, y, rfl, h, h'⟩ := sh_two h
    obtain ⟨u, v, rfl, h2, h2'⟩ := sh_two h2
    obtain ⟨ps, z, rfl⟩ := toPy_tup e
    obtain ⟨qs, z2, rfl⟩ := toPy_tup e2
    obtain ⟨p1, ps1, a1, w1, rfl⟩ := toPys_cons z
    obtain ⟨p2, ps2, a2, w2, rfl⟩ := toPys_cons w1
    cases w2
    obtain ⟨q1, qs1, b1, w3, rfl⟩ := toPys_cons z2
    obtain ⟨q2, qs2, b2, w4, rfl⟩ := toPys_cons w3
    cases w4
    rw [W.alike, W.alikeAll, W.alikeAll, W.alikeAll, ih x u p1 q1 h h2 a1 b1, ih2 y v p2 q2 h' h2' a2 b2]
    rfl
/-- a < b, for data of one shape -/
def lt (a b : D) : Bool := W.dataLt (pyD a) (pyD b)
theorem lt_irrefl (a : D) : lt a a = false := PyProof.Rows.lex_irrefl _
theorem lt_trans {a b c : D} : lt a b = true → lt b c = true → lt a c = true := PyProof.Rows.lex_trans _ _ _
theorem lt_neg {a b c : D} : lt a c = true → lt a b = true ∨ lt b c = true := PyProof.Rows.lex_negTrans _ _ _
theorem toks_ne {p q : PyData} (h : W.alike p q = true) (e : W.keyToks p = W.keyToks q) : p.eqv q = true := by
  cases z : p.eqv q with
  | true => rfl
  | false =>
    have t := (W.toks_eqv p q h).2 z [] [.inl 0]
    have t2 := (W.toks_eqv p q h).2 z [] []
    rw [e, W.lex_pre] at t t2
    rw [← t2] at t
    exact absurd t (by decide)
theorem lt_total {s : Sh} {a b : D} (h : hasSh s a = true) (h2 : hasSh s b = true) (l : lt a b = false) (l2 : lt b a = false) : a = b := by
  obtain ⟨p, e, _⟩ := toPy_of _ a (sh_it s a h)
  obtain ⟨q, e2, _⟩ := toPy_of _ b (sh_it s b h2)
  unfold lt W.dataLt pyD at l l2
  rw [e, e2] at l l2
  have t := toks_ne (alike_of s a b p q h h2 e e2) (PyProof.Rows.lex_total _ _ l l2)
  rw [eqv_of _ a b p q (sh_it s a h) (sh_it s b h2) e e2] at t
  exact of_decide_eq_true t
end Pv

end T_Mb
section T_Mc
/-! Mc: sorted, min, max on data of one shape. -/
namespace Pv
open PySem
theorem mem_toPys : ∀ {xs : List D} {ps : List PyData}, toPys xs = some ps → ∀ p ∈ ps, ∃ x ∈ xs, toPy x = some p
  | [], _, e, p, h => by cases e; cases h
  | x :: xs, _, e, p, h => by
    obtain ⟨q, qs, e1, e2, rfl⟩ := toPys_cons e
    rcases List.mem_cons.mp h with rfl | h
    · exact ⟨x, List.mem_cons_self, e1⟩
    · obtain ⟨y, hy, e3⟩ := mem_toPys e2 p h
      exact ⟨y, List.mem_cons_of_mem _ hy, e3⟩
theorem alikeD_of {s : Sh} {xs : List D} {ps : List PyData} (h : xs.all (hasSh s) = true) (e : toPys xs = some ps) : alikeD ps = true := by
  cases ps with
  | nil => rfl
  | cons p ps =>
    unfold alikeD
    refine List.all_eq_true.mpr fun q hq => List.all_eq_true.mpr fun r hr => ?_
    obtain ⟨x, hx, e1⟩ := mem_toPys e q hq
    obtain ⟨y, hy, e2⟩ := mem_toPys e r hr
    exact alike_of s x y q r (List.all_eq_true.mp h x hx) (List.all_eq_true.mp h y hy) e1 e2
theorem dep_of {s : Sh} {xs : List D} {ps : List PyData} (h : xs.all (hasSh s) = true) (e : toPys xs = some ps) (l : s.dep ≤ 60) : ∀ p ∈ ps, p.depth ≤ DEEP := fun p hp => by
  obtain ⟨x, hx, e1⟩ := mem_toPys e p hp
  obtain ⟨q, e2, l2⟩ := toPy_of _ x (sh_it s x (List.all_eq_true.mp h x hx))
  cases e1.symm.trans e2
  exact Nat.le_trans l2 l
def full : D → Bool
  | .tup (_ :: _) => true
  | .int _ => true
  | _ => false
theorem sortD_sh {s : Sh} {xs : List D} (h : xs.all (hasSh s) = true) (l : s.dep ≤ 60) (hf : (s = .int ∨ xs.all full = true) ∨ xs.length ≤ 1) : sortD xs = some (xs.mergeSort leD) := by
  obtain ⟨ps, e, _⟩ := toPys_of (toPy_of s.dep) xs (List.all_eq_true.mpr fun x hx => sh_it s x (List.all_eq_true.mp h x hx))
  have short : xs.length ≤ 1 → xs = xs.mergeSort leD := fun h1 => by
    match xs, h1 with
    | [], _ => exact (List.mergeSort_nil).symm
    | [x], _ => exact (List.mergeSort_singleton x).symm
  unfold sortD
  rw [e]
  dsimp only
  split
  · rfl
  · rename_i hn
    rcases hf with hf | hf
    · refine absurd ?_ hn
      unfold sortOkD
      rw [alikeD_of h e, Bool.true_and, Bool.and_eq_true]
      refine ⟨?_, List.all_eq_true.mpr fun p hp => decide_eq_true (dep_of h e l p hp)⟩
      rw [Bool.or_eq_true]
      cases s with
      | int =>
        refine .inr (List.all_eq_true.mpr fun p hp => ?_)
        obtain ⟨x, hx, e1⟩ := mem_toPys e p hp
        obtain ⟨i, rfl⟩ := sh_int (List.all_eq_true.mp h x hx)
        cases e1; rfl
      | _ =>
        have hf := hf.resolve_left (by intro z; cases z)
        refine .inl (List.all_eq_true.mpr fun p hp => ?_)
        obtain ⟨x, hx, e1⟩ := mem_toPys e p hp
        have hx2 := List.all_eq_true.mp hf x hx
        have hs := List.all_eq_true.mp h x hx
        first
        | obtain ⟨ys, rfl, _⟩ := sh_seq hs
          cases ys with
          | nil => cases hx2
          | cons y ys =>
            obtain ⟨qs, z, rfl⟩ := toPy_tup e1
            obtain ⟨_, _, _, _, rfl⟩ := toPys_cons z
            rfl
        | obtain ⟨a, b, rfl, _⟩ := sh_two hs
          obtain ⟨qs, z, rfl⟩ := toPy_tup e1
          obtain ⟨_, _, _, _, rfl⟩ := toPys_cons z
          rfl
    · rw [if_pos hf, ← short hf]
theorem leD_eq (a b : D) : leD a b = !lt b a := rfl
theorem leD_trans (a b c : D) (h : leD a b = true) (h2 : leD b c = true) : leD a c = true := by
  rw [leD_eq, Bool.not_eq_true'] at h h2 ⊢
  cases z : lt c a with
  | false => rfl
  | true =>
    rcases lt_neg (b := b) z with z | z
    · rw [z] at h2; cases h2
    · rw [z] at h; cases h
theorem leD_total (a b : D) : (leD a b || leD b a) = true := by
  rw [leD_eq, leD_eq]
  cases z : lt b a with
  | false => rfl
  | true =>
    cases z2 : lt a b with
    | false => rfl
    | true => have := lt_trans z z2; rw [lt_irrefl] at this; cases this
theorem sort_perm (xs : List D) : List.Perm (xs.mergeSort leD) xs := List.mergeSort_perm xs leD
theorem sort_sorted (xs : List D) : (xs.mergeSort leD).Pairwise fun a b => leD a b = true := List.pairwise_mergeSort leD_trans leD_total xs
/-- the least one -/
def IsMin (x : D) (xs : List D) : Prop := x ∈ xs ∧ ∀ y ∈ xs, leD x y = true
theorem isMin_unique {s : Sh} {xs ys : List D} {a b : D} (h : xs.all (hasSh s) = true) (h1 : IsMin a xs) (h2 : IsMin b ys) (m : ∀ z, z ∈ xs ↔ z ∈ ys) : a = b := by
  have l1 := h1.2 b ((m b).mpr h2.1)
  have l2 := h2.2 a ((m a).mp h1.1)
  rw [leD_eq, Bool.not_eq_true'] at l1 l2
  exact lt_total (List.all_eq_true.mp h a h1.1) (List.all_eq_true.mp h b ((m b).mpr h2.1)) l2 l1
theorem sort_min {xs : List D} {y : D} {ys : List D} (e : xs.mergeSort leD = y :: ys) : IsMin y xs := by
  have p := sort_perm xs
  have s := sort_sorted xs
  rw [e] at p s
  refine ⟨p.mem_iff.mp List.mem_cons_self, fun z hz => ?_⟩
  rcases List.mem_cons.mp (p.mem_iff.mpr hz) with rfl | hz
  · rw [leD_eq, lt_irrefl]; rfl
  · exact (List.pairwise_cons.mp s).1 z hz
theorem foldMin : ∀ (xs : List D) (x : D), IsMin (xs.foldl (fun a b => if lt b a = true then b else a) x) (x :: xs)
  | [], x => ⟨List.mem_cons_self, fun y hy => by rw [List.mem_singleton.mp hy, List.foldl_nil, leD_eq, lt_irrefl]; rfl⟩
  | y :: ys, x => by
    rw [List.foldl_cons]
    obtain ⟨m, l⟩ := foldMin ys (if lt y x = true then y else x)
    refine ⟨?_, ?_⟩
    · rcases List.mem_cons.mp m with e | m
      · rw [e]
        split
        · exact List.mem_cons_of_mem _ List.mem_cons_self
        · exact List.mem_cons_self
      · exact List.mem_cons_of_mem _ (List.mem_cons_of_mem _ m)
    · have l0 := l _ List.mem_cons_self
      have lx : leD (if lt y x = true then y else x) x = true ∧ leD (if lt y x = true then y else x) y = true := by
        split
        · rename_i c
          refine ⟨?_, by rw [leD_eq, lt_irrefl]; rfl⟩
          rw [leD_eq, Bool.not_eq_true']
          cases z : lt x y with
          | false => rfl
          | true => have := lt_trans c z; rw [lt_irrefl] at this; cases this
        · rename_i c
          exact ⟨by rw [leD_eq, lt_irrefl]; rfl, by rw [leD_eq, Bool.eq_false_iff.mpr c]; rfl⟩
      intro z hz
      rcases List.mem_cons.mp hz with rfl | hz
      · exact leD_trans _ _ _ l0 lx.1
      · rcases List.mem_cons.mp hz with rfl | hz
        · exact leD_trans _ _ _ l0 lx.2
        · exact l z (List.mem_cons_of_mem _ hz)
theorem minD_sh {s : Sh} {xs : List D} (h : xs.all (hasSh s) = true) (l : s.dep ≤ 60) (ne : xs ≠ []) : ∃ y, minD xs = some y ∧ IsMin y xs := by
  cases xs with
  | nil => exact absurd rfl ne
  | cons x xs =>
    obtain ⟨ps, e, _⟩ := toPys_of (toPy_of s.dep) (x :: xs) (List.all_eq_true.mpr fun x hx => sh_it s x (List.all_eq_true.mp h x hx))
    refine ⟨_, ?_, foldMin xs x⟩
    unfold minD
    dsimp only
    rw [e]
    dsimp only
    rw [if_pos]
    · rfl
    · rw [alikeD_of h e, Bool.true_and]
      refine List.all_eq_true.mpr fun p hp => ?_
      rw [Bool.and_eq_true]
      refine ⟨?_, decide_eq_true (dep_of h e l p hp)⟩
      obtain ⟨z, hz, e1⟩ := mem_toPys e p hp
      have hs := List.all_eq_true.mp h z hz
      cases s with
      | int => obtain ⟨i, rfl⟩ := sh_int hs; cases e1; rfl
      | seq s => obtain ⟨i, rfl, _⟩ := sh_seq hs; obtain ⟨_, _, rfl⟩ := toPy_tup e1; rfl
      | two s t => obtain ⟨x, y, rfl, _⟩ := sh_two hs; obtain ⟨_, _, rfl⟩ := toPy_tup e1; rfl
end Pv

end T_Mc
section T_Md
/-! Md: the evaluator, step by step, for simp. -/
namespace Pv
open PySem
section
variable {M M' : List C} {d : D} {ρ : Env}
@[simp] theorem drf_non : drf M .non = .non := rfl
@[simp] theorem drf_bl {b : Bool} : drf M (.bl b) = .bl b := rfl
@[simp] theorem drf_int {i : Int} : drf M (.int i) = .int i := rfl
@[simp] theorem drf_tup {xs : List D} : drf M (.tup xs) = .tup xs := rfl
@[simp] theorem drf_lst {xs : List D} : drf M (.lst xs) = .lst xs := rfl
@[simp] theorem drf_dic {xs ys : List D} : drf M (.dic xs ys) = .dic xs ys := rfl
@[simp] theorem truD_bl {b : Bool} : truD (.bl b) = some b := rfl
@[simp] theorem eqD_int {i j : Int} : eqD (.int i) (.int j) = some (decide (i = j)) := rfl
@[simp] theorem ltD_int {i j : Int} : ltD (.int i) (.int j) = some (decide (i < j)) := rfl
@[simp] theorem cmp_eq {a b : D} : cmpD .eq a b = eqD a b := rfl
@[simp] theorem cmp_ne {a b : D} : cmpD .ne a b = (eqD a b).map (!·) := rfl
@[simp] theorem cmp_lt {a b : D} : cmpD .lt a b = ltD a b := rfl
@[simp] theorem cmp_gt {a b : D} : cmpD .gt a b = ltD b a := rfl
@[simp] theorem cmp_le {a b : D} : cmpD .le a b = (ltD b a).map (!·) := rfl
@[simp] theorem cmp_ge {a b : D} : cmpD .ge a b = (ltD a b).map (!·) := rfl
@[simp] theorem cmp_in {a b : D} : cmpD .isin a b = inD a b := rfl
@[simp] theorem cmp_notin {a b : D} : cmpD .notin a b = (inD a b).map (!·) := rfl
@[simp] theorem cmp_isNone {a : D} : cmpD .isNone a .non = some (decide (a = .non)) := rfl
@[simp] theorem cmp_notNone {a : D} : cmpD .notNone a .non = some (decide (a ≠ .non)) := rfl
@[simp] theorem flat_int {i : Int} : flatD (.int i) = true := rfl
@[simp] theorem flat_bl {i : Bool} : flatD (.bl i) = true := rfl
@[simp] theorem flat_non : flatD .non = true := rfl
@[simp] theorem flat_tup {xs : List D} : flatD (.tup xs) = flatDs xs := rfl
@[simp] theorem flat_lst {xs : List D} : flatD (.lst xs) = flatDs xs := rfl
@[simp] theorem flat_dic {xs ys : List D} : flatD (.dic xs ys) = (flatDs xs && flatDs ys) := rfl
@[simp] theorem flats_nil : flatDs [] = true := rfl
@[simp] theorem flats_cons {x : D} {xs : List D} : flatDs (x :: xs) = (flatD x && flatDs xs) := rfl
theorem flats_all : ∀ xs : List D, flatDs xs = xs.all flatD
  | [] => rfl
  | x :: xs => by rw [flats_cons, flats_all xs, List.all_cons]
@[simp] theorem bndS_if {α : Type} {c : Prop} [Decidable c] {a b : Res α} {k : α → List C → SRes} : bndS (if c then a else b) ρ k = if c then bndS a ρ k else bndS b ρ k := by split <;> rfl
@[simp] theorem bnd_if {α β : Type} {c : Prop} [Decidable c] {a b : Res α} {k : α → List C → Res β} : bnd (if c then a else b) k = if c then bnd a k else bnd b k := by split <;> rfl
@[simp] theorem bndN_if {α β : Type} {c : Prop} [Decidable c] {a b : Res α} {k : α → List C → Res β} : bndN (if c then a else b) k = if c then bndN a k else bndN b k := by split <;> rfl
@[simp] theorem seqS_if {c : Prop} [Decidable c] {a b : SRes} {k : Env → List C → SRes} : seqS (if c then a else b) k = if c then seqS a k else seqS b k := by split <;> rfl
@[simp] theorem endF_if {c : Prop} [Decidable c] {a b : SRes} : endF (if c then a else b) = if c then endF a else endF b := by split <;> rfl
@[simp] theorem endF_ret : endF (some (.ret d, M)) = some (.ok d, M) := rfl
@[simp] theorem endF_next : endF (some (.next ρ, M)) = some (.ok .non, M) := rfl
theorem frz_flat (h : flatD d = true) : frz M d = some d := by
  have e : drf M d = d := by
    cases d with
    | cell n => cases h
    | _ => rfl
  unfold frz
  rw [e]
  dsimp only
  rw [if_pos h]
theorem run_pure {Φ : Str → Option Fn} {G : Str → Option D} {n : Nat} {x : Str} {f : Fn} {ds as : List D} {kw : List (Str × D)} (h : Φ x = some f) (hb : bindA f.ps ds kw = some as) (hp : f.pure = true) (hf : flatDs as = true)
    (e : endF (evSs ⟨run Φ G n, G⟩ f.body (startE f.many as) []) = some (.ok d, M')) (hd : flatD d = true) : run Φ G (n + 1) x ds kw M = some (.ok d, M) := by
  rw [run, h]
  dsimp only
  rw [hb]
  dsimp only
  rw [runB, hp, hf]
  rw [if_pos (show (true && true) = true from rfl), e, frzR, frz_flat hd]
end
end Pv

end T_Md
section T_Me
/-! Me: loops. -/
namespace Pv
open PySem
theorem lcLoop_map {M0 M : List C} {g : Option Nat} {body : D → List C → Res (Option D)} {f : D → Option D} (hg : same g M0 M = true) : ∀ (ds acc : List D), (∀ d ∈ ds, body d M = some (.ok (f d), M)) → lcLoop g M0 body ds acc M = some (.ok (acc ++ ds.filterMap f), M)
  | [], acc, _ => by rw [lcLoop, if_pos hg, List.filterMap_nil, List.append_nil]
  | d :: ds, acc, h => by
    rw [lcLoop, if_pos hg, h d List.mem_cons_self, bndN_ok, lcLoop_map hg ds _ fun x hx => h x (List.mem_cons_of_mem _ hx)]
    cases e : f d with
    | none => rw [List.filterMap_cons_none e]
    | some r => rw [List.filterMap_cons_some e]; simp
theorem lcLoop_all {M0 M : List C} {g : Option Nat} {body : D → List C → Res (Option D)} {f : D → D} (hg : same g M0 M = true) (ds acc : List D) (h : ∀ d ∈ ds, body d M = some (.ok (some (f d)), M)) : lcLoop g M0 body ds acc M = some (.ok (acc ++ ds.map f), M) := by
  rw [lcLoop_map (f := fun d => some (f d)) hg ds acc h]
  have : ds.filterMap (fun d => some (f d)) = ds.map f := by
    induction ds with
    | nil => rfl
    | cons d ds ih => rw [List.filterMap_cons_some (f := fun d => some (f d)) (b := f d) rfl, List.map_cons, ih fun x hx => h x (List.mem_cons_of_mem _ hx)]
  rw [this]
theorem lcLoop2_map {M0 M : List C} {g : Option Nat} {body : D → List D → List C → Res (List D)} {f : D → List D} (hg : same g M0 M = true) : ∀ (ds acc : List D), (∀ d ∈ ds, ∀ acc, body d acc M = some (.ok (acc ++ f d), M)) → lcLoop2 g M0 body ds acc M = some (.ok (acc ++ ds.flatMap f), M)
  | [], acc, _ => by rw [lcLoop2, if_pos hg, List.flatMap_nil, List.append_nil]
  | d :: ds, acc, h => by
    rw [lcLoop2, if_pos hg, h d List.mem_cons_self, bndN_ok, lcLoop2_map hg ds _ fun x hx => h x (List.mem_cons_of_mem _ hx)]
    simp
theorem dputV_new : ∀ {ks vs : List D} {k v : D}, k ∉ ks → ks.length = vs.length → dputV ks vs k v = vs ++ [v]
  | [], [], k, v, _, _ => rfl
  | [], _ :: _, k, v, _, h => by simp at h
  | _ :: _, [], k, v, _, h => by simp at h
  | x :: ks, y :: vs, k, v, hn, hl => by
    have : k ≠ x := fun e => hn (by rw [e]; exact List.mem_cons_self)
    rw [dputV, if_neg this, dputV_new (fun e => hn (List.mem_cons_of_mem _ e)) (by simpa using hl)]
    rfl
theorem keyOk_of {ks : List D} {k : D} (h : keyKind k = some true) (hs : ∀ x ∈ ks, keyKind x = some true) : keyOk ks k = true := by
  cases ks with
  | nil => rw [keyOk, h]; rfl
  | cons x ks => rw [keyOk, h, hs x List.mem_cons_self]; rfl
theorem dcLoop_map {M0 M : List C} {g : Option Nat} {body : D → List C → Res (D × D)} {f : D → D} (hg : same g M0 M = true) : ∀ (ds ks vs : List D), (∀ d ∈ ds, body d M = some (.ok (d, f d), M)) → (ks ++ ds).Nodup → (∀ d ∈ ks ++ ds, keyKind d = some true) → ks.length = vs.length → dcLoop g M0 body ds ks vs M = some (.ok (ks ++ ds, vs ++ ds.map f), M)
  | [], ks, vs, _, _, _, _ => by rw [dcLoop, if_pos hg, List.map_nil, List.append_nil, List.append_nil]
  | d :: ds, ks, vs, h, hn, hk, hl => by
    have hd : d ∉ ks := fun m => (List.nodup_append.mp hn).2.2 d m d List.mem_cons_self rfl
    rw [dcLoop, if_pos hg, h d List.mem_cons_self, bndN_ok, if_pos (keyOk_of (hk d (by simp)) fun x hx => hk x (by simp [hx])), dputK, if_neg hd, dputV_new hd hl]
    have := dcLoop_map (f := f) hg ds (ks ++ [d]) (vs ++ [f d]) (fun x hx => h x (List.mem_cons_of_mem _ hx)) (by simpa using hn) (by simpa using hk) (by simp [hl])
    rw [this]
    simp
theorem rangeD_nat (n : Nat) : rangeD 0 n = (List.range n).map fun (i : Nat) => D.int i := by
  unfold rangeD
  simp
end Pv

end T_Me
section T_Mf
/-! Mf: floors, tiles, lots as data. -/
namespace Pv
open PySem
abbrev Tl := Int × Int
def T (t : Tl) : D := .tup [.int t.1, .int t.2]
def Ts (ts : List Tl) : D := .tup (ts.map T)
def FL (fl : List (List Int)) : D := .tup (fl.map fun r => .tup (r.map .int))
structure OkF (h w : Nat) (fl : List (List Int)) : Prop where
  len : fl.length = h
  row : ∀ r ∈ fl, r.length = w
  h1 : 1 ≤ h
  w1 : 1 ≤ w
  h6 : h ≤ 6
  w6 : w ≤ 6
  few : h * w ≤ 24
  need : ∀ r ∈ fl, ∀ n ∈ r, 0 ≤ n ∧ n ≤ 5
def tilesN (h w : Nat) : List Tl := (List.range h).flatMap fun (r : Nat) => (List.range w).map fun (c : Nat) => ((r : Int), (c : Int))
@[simp] theorem tup_T {ts : List Tl} : D.tup (ts.map T) = Ts ts := rfl
theorem T_inj {a b : Tl} (h : T a = T b) : a = b := by
  unfold T at h
  injection h with h
  injection h with h h2
  injection h2 with h2 h3
  injection h with h
  injection h2 with h2
  exact Prod.ext h h2
theorem shT (t : Tl) : hasSh (.two .int .int) (T t) = true := rfl
theorem shTs (ts : List Tl) : hasSh (.seq (.two .int .int)) (Ts ts) = true := List.all_eq_true.mpr fun x hx => by
  obtain ⟨t, _, rfl⟩ := List.mem_map.mp hx
  rfl
theorem flatT (t : Tl) : flatD (T t) = true := rfl
theorem flatTs (ts : List Tl) : flatD (Ts ts) = true := by
  rw [Ts, flat_tup, flats_all]
  exact List.all_eq_true.mpr fun x hx => by
    obtain ⟨t, _, rfl⟩ := List.mem_map.mp hx
    rfl
theorem flatFL (fl : List (List Int)) : flatD (FL fl) = true := by
  rw [FL, flat_tup, flats_all]
  refine List.all_eq_true.mpr fun x hx => ?_
  obtain ⟨t, _, rfl⟩ := List.mem_map.mp hx
  rw [flat_tup, flats_all]
  refine List.all_eq_true.mpr fun x hx => ?_
  obtain ⟨t, _, rfl⟩ := List.mem_map.mp hx
  rfl
theorem keyT (t : Tl) : keyKind (T t) = some true := rfl
theorem inTs {t : Tl} {ts : List Tl} : inD (T t) (Ts ts) = some (decide (t ∈ ts)) := by
  rw [Ts, inD_tup (n := 1) (by omega) rfl (List.all_eq_true.mpr fun x hx => by
    obtain ⟨t, _, rfl⟩ := List.mem_map.mp hx
    rfl)]
  congr 1
  rw [Bool.eq_iff_iff, decide_eq_true_iff, decide_eq_true_iff, List.mem_map]
  exact ⟨fun ⟨u, hu, e⟩ => T_inj e ▸ hu, fun h => ⟨t, h, rfl⟩⟩
theorem mem_tilesN {h w : Nat} {t : Tl} : t ∈ tilesN h w ↔ 0 ≤ t.1 ∧ t.1 < h ∧ 0 ≤ t.2 ∧ t.2 < w := by
  obtain ⟨a, b⟩ := t
  simp only [tilesN, List.mem_flatMap, List.mem_map, List.mem_range, Prod.mk.injEq]
  constructor
  · rintro ⟨r, hr, c, hc, rfl, rfl⟩
    omega
  · rintro ⟨h1, h2, h3, h4⟩
    exact ⟨a.toNat, by omega, b.toNat, by omega, by omega, by omega⟩
theorem nodup_tilesN {h w : Nat} : (tilesN h w).Nodup := by
  unfold tilesN
  rw [List.nodup_iff_pairwise_ne, List.pairwise_flatMap]
  refine ⟨fun r _ => ?_, ?_⟩
  · rw [List.pairwise_map]
    refine List.nodup_range.imp ?_
    intro a b hab e
    injection e with _ e
    exact hab (by omega)
  · refine List.nodup_range.imp ?_
    intro a b hab x hx y hy e
    obtain ⟨c, _, rfl⟩ := List.mem_map.mp hx
    obtain ⟨d, _, rfl⟩ := List.mem_map.mp hy
    injection e with e _
    exact hab (by omega)
end Pv

end T_Mf
section T_Mg
/-! Mg: what simp needs of floors. -/
namespace Pv
open PySem
@[simp] theorem drf_FL {M : List C} {fl : List (List Int)} : drf M (FL fl) = FL fl := rfl
@[simp] theorem drf_T {M : List C} {t : Tl} : drf M (T t) = T t := rfl
@[simp] theorem drf_Ts {M : List C} {t : List Tl} : drf M (Ts t) = Ts t := rfl
@[simp] theorem len_tup {xs : List D} : evB .len [.tup xs] = some (.int xs.length) := rfl
@[simp] theorem len_lst {xs : List D} : evB .len [.lst xs] = some (.int xs.length) := rfl
@[simp] theorem len_dic {xs ys : List D} : evB .len [.dic xs ys] = some (.int xs.length) := rfl
@[simp] theorem len_FL {fl : List (List Int)} : evB .len [FL fl] = some (.int fl.length) := by simp [FL]
@[simp] theorem len_Ts {fl : List Tl} : evB .len [Ts fl] = some (.int fl.length) := by unfold Ts; simp [-tup_T]
@[simp] theorem tup_lst {xs : List D} : evB .tuple [.lst xs] = some (.tup xs) := rfl
@[simp] theorem tup_tup {xs : List D} : evB .tuple [.tup xs] = some (.tup xs) := rfl
theorem atI_nat {xs : List D} {n : Nat} {d : D} (h : xs[n]? = some d) : L2.atI xs (n : Int) = some d := by
  have l : n < xs.length := by
    rcases Nat.lt_or_ge n xs.length with l | l
    · exact l
    · rw [List.getElem?_eq_none l] at h; cases h
  unfold L2.atI L2.ixN
  rw [if_pos (by omega), if_pos (by omega), Option.bind_some]
  simpa using h
theorem ix_FL {fl : List (List Int)} {n : Nat} {r : List Int} (h : fl[n]? = some r) : ixD (FL fl) (.int n) = some (.tup (r.map .int)) := by
  unfold FL ixD
  dsimp only
  exact atI_nat (by rw [List.getElem?_map, h]; rfl)
theorem ix_row {r : List Int} {n : Nat} {i : Int} (h : r[n]? = some i) : ixD (.tup (r.map .int)) (.int n) = some (.int i) := by
  unfold ixD
  dsimp only
  exact atI_nat (by rw [List.getElem?_map, h]; rfl)
@[simp] theorem ix_T0 {t : Tl} : ixD (T t) (.int 0) = some (.int t.1) := rfl
@[simp] theorem ix_T1 {t : Tl} : ixD (T t) (.int 1) = some (.int t.2) := rfl
theorem OkF.row0 {h w : Nat} {fl : List (List Int)} (ok : OkF h w fl) : ∃ r, fl[0]? = some r ∧ r.length = w := by
  have l : 0 < fl.length := by have := ok.len; have := ok.h1; omega
  exact ⟨fl[0], List.getElem?_eq_getElem l, ok.row _ (List.getElem_mem l)⟩
theorem OkF.ix0 {h w : Nat} {fl : List (List Int)} (ok : OkF h w fl) : ∃ xs, ixD (FL fl) (.int 0) = some (.tup xs) ∧ xs.length = w := by
  obtain ⟨r, e, l⟩ := ok.row0
  exact ⟨_, ix_FL e, by rw [List.length_map, l]⟩
theorem sz_of {n : Nat} (h : n ≤ 1000) : n ≤ SZ := by unfold SZ; omega
theorem rOk {n : Nat} (h : n ≤ 1000) : -R62 ≤ (n : Int) ∧ (n : Int) < R62 := by unfold R62; omega
theorem flatMap_tiles {h w : Nat} : ((List.range h).map fun (i : Nat) => D.int i).flatMap (fun d => ((List.range w).map fun (i : Nat) => D.int i).map fun d2 => D.tup [d, d2]) = (tilesN h w).map T := by
  unfold tilesN
  rw [List.flatMap_map, List.map_flatMap]
  congr 1
  funext r
  rw [List.map_map, List.map_map]
  rfl
theorem len_tilesN {h w : Nat} : (tilesN h w).length = h * w := by
  unfold tilesN
  rw [List.length_flatMap]
  simp only [List.length_map, List.length_range]
  induction h with
  | zero => simp
  | succ n ih => rw [List.range_succ, List.map_append, List.sum_append, ih, Nat.succ_mul]; simp
end Pv

end T_Mg
section T_Mh
/-! Mh: while and for by invariants. -/
namespace Pv
open PySem
theorem while_inv {c : Pv.Env → List C → Res Bool} {body : Pv.Env → List C → SRes} (I Q : Pv.Env → List C → Prop) (μ : Pv.Env → List C → Nat)
    (hs : ∀ ρ M, I ρ M → (c ρ M = some (.ok false, M) ∧ Q ρ M) ∨ (c ρ M = some (.ok true, M) ∧ ∃ ρ' M', body ρ M = some (.next ρ', M') ∧ I ρ' M' ∧ μ ρ' M' < μ ρ M)) :
    ∀ (n : Nat) ρ M, I ρ M → μ ρ M < n → ∃ ρ' M', whileLoop c body n ρ M = some (.next ρ', M') ∧ I ρ' M' ∧ Q ρ' M' := fun n => by
  induction n with
  | zero => intro ρ M _ h; omega
  | succ n ih =>
    intro ρ M hi hm
    rw [whileLoop]
    rcases hs ρ M hi with ⟨e, q⟩ | ⟨e, ρ', M', e2, i2, m2⟩
    · rw [e]
      exact ⟨ρ, M, rfl, hi, q⟩
    · rw [e, bndS_ok, if_pos rfl, e2, turnS_next]
      exact ih ρ' M' i2 (by omega)
/-- for: the invariant speaks of what is done and what is to do -/
theorem for_inv {g : Option Nat} {M0 : List C} {p : P} {body : Pv.Env → List C → SRes} (I : List D → List D → Pv.Env → List C → Prop)
    (hg : ∀ xs ys ρ M, I xs ys ρ M → same g M0 M = true)
    (hs : ∀ xs y ys ρ M, I xs (y :: ys) ρ M → ∃ ρ1 ρ' M', bindP p y ρ = some ρ1 ∧ body ρ1 M = some (.next ρ', M') ∧ I (xs ++ [y]) ys ρ' M') :
    ∀ (ys xs : List D) ρ M, I xs ys ρ M → ∃ ρ' M', forLoop g M0 p body ys ρ M = some (.next ρ', M') ∧ I (xs ++ ys) [] ρ' M'
  | [], xs, ρ, M, h => ⟨ρ, M, by rw [forLoop, if_pos (hg _ _ _ _ h)], by rw [List.append_nil]; exact h⟩
  | y :: ys, xs, ρ, M, h => by
    obtain ⟨ρ1, ρ', M', e1, e2, h2⟩ := hs xs y ys ρ M h
    obtain ⟨ρ2, M2, e3, h3⟩ := for_inv I hg hs ys (xs ++ [y]) ρ' M' h2
    refine ⟨ρ2, M2, ?_, by simpa using h3⟩
    rw [forLoop, if_pos (hg _ _ _ _ h), e1]
    dsimp only
    rw [e2, turnS_next, e3]
end Pv

end T_Mh
section T_Mi
/-! Mi: closed lots of a floor, the least one. -/
namespace Pv
/-- how many of the lot lie beside t -/
def cnt (bs : Tl → List Tl) (L : List Tl) (t : Tl) : Nat := L.countP fun u => decide (t ∈ bs u)
/-- nothing more gets damp -/
def Closed (tiles : List Tl) (bs : Tl → List Tl) (nd : Tl → Int) (L : List Tl) : Prop := ∀ t ∈ tiles, t ∉ L → (cnt bs L t : Int) < nd t
/-- the least closed lot that holds the first ones -/
structure Least (tiles : List Tl) (bs : Tl → List Tl) (nd : Tl → Int) (first L : List Tl) : Prop where
  nodup : L.Nodup
  inT : ∀ t ∈ L, t ∈ tiles
  sup : ∀ t ∈ first, t ∈ L
  closed : Closed tiles bs nd L
  least : ∀ S : List Tl, S.Nodup → (∀ t ∈ S, t ∈ tiles) → (∀ t ∈ first, t ∈ S) → Closed tiles bs nd S → ∀ t ∈ L, t ∈ S
theorem Least.mem {tiles : List Tl} {bs : Tl → List Tl} {nd : Tl → Int} {first A B : List Tl} (a : Least tiles bs nd first A) (b : Least tiles bs nd first B) (t : Tl) : t ∈ A ↔ t ∈ B :=
  ⟨a.least B b.nodup b.inT b.sup b.closed t, b.least A a.nodup a.inT a.sup a.closed t⟩
theorem Least.perm {tiles : List Tl} {bs : Tl → List Tl} {nd : Tl → Int} {first A B : List Tl} (a : Least tiles bs nd first A) (b : Least tiles bs nd first B) : A.Perm B :=
  (List.perm_ext_iff_of_nodup a.nodup b.nodup).mpr (a.mem b)
theorem cnt_mono {bs : Tl → List Tl} {A B : List Tl} (na : A.Nodup) (h : ∀ u ∈ A, u ∈ B) (t : Tl) : cnt bs A t ≤ cnt bs B t := by
  unfold cnt
  rw [List.countP_eq_length_filter, List.countP_eq_length_filter]
  refine List.Nodup.length_le_of_subset (na.filter _) fun u hu => ?_
  rw [List.mem_filter] at hu ⊢
  exact ⟨h u hu.1, hu.2⟩
end Pv

end T_Mi
section T_Mj
/-! Mj: the evaluator for simp: comprehensions that leave the cells as they are. -/
namespace Pv
open PySem
def tri {β : Type} (o : Option Bool) (x y : Option β) : Option β := match o with
  | some true => x
  | some false => y
  | none => none
@[simp] theorem tri_some {β : Type} {b : Bool} {x y : Option β} : tri (some b) x y = if b = true then x else y := by cases b <;> rfl
def Small {α : Type} (ds : List α) : Prop := ds.length ≤ 100000
def szd {α : Type} (ds : List D) (r : Option α) : Option α := if ds.length ≤ SZ then r else none
def szl {α : Type} (ds : List D) (r : Option α) : Option α := if ds.length < SZ then r else none
theorem SZ_big : 100000 < SZ := by unfold SZ; omega
@[simp] theorem szd_ok {α : Type} {ds : List D} {r : Option α} (h : Small ds) : szd ds r = r := by
  unfold szd
  rw [if_pos]
  exact Nat.le_trans h (Nat.le_of_lt SZ_big)
@[simp] theorem szl_ok {α : Type} {ds : List D} {r : Option α} (h : Small ds) : szl ds r = r := by
  unfold szl
  rw [if_pos]
  exact Nat.lt_of_le_of_lt h SZ_big
@[simp] theorem small_map {α β : Type} {as : List α} {f : α → β} : Small (as.map f) ↔ Small as := by unfold Small; rw [List.length_map]
@[simp] theorem small_filter {α : Type} {as : List α} {f : α → Bool} (h : Small as) : Small (as.filter f) := Nat.le_trans (List.length_filter_le _ _) h
@[simp] theorem small_nil {α : Type} : Small ([] : List α) := Nat.zero_le _
theorem small_of {α : Type} {as : List α} (h : as.length ≤ 100000) : Small as := h
/-- the cells are as before -/
def keepR {α : Type} (M : List C) (r : Res α) : Option α := match r with
  | some (.ok a, M') => if M' = M then some a else none
  | _ => none
section
variable {α β : Type} {M : List C} {a : α}
@[simp] theorem keepR_ok : keepR M (some (.ok a, M)) = some a := by unfold keepR; simp
@[simp] theorem keepR_if {c : Prop} [Decidable c] {x y : Res α} : keepR M (if c then x else y) = if c then keepR M x else keepR M y := by split <;> rfl
theorem keepR_some {r : Res α} (h : keepR M r = some a) : r = some (.ok a, M) := by
  unfold keepR at h
  split at h
  · split at h
    · rename_i e; cases h; rw [e]
    · cases h
  · cases h
def mlcF : List α → (α → Option (Option β)) → Option (List β)
  | [], _ => some []
  | a :: as, f => match f a with
    | none => none
    | some o => match mlcF as f with
      | none => none
      | some xs => some (match o with | some r => r :: xs | none => xs)
def lcR (o : Option (List D)) (acc : List D) (M : List C) (z : Res (List D)) : Res (List D) := match o with
  | some xs => some (.ok (acc ++ xs), M)
  | none => z
def lcSlow := @lcLoop
theorem same_self (g : Option Nat) (M : List C) : same g M M = true := by
  cases g with
  | none => rfl
  | some n => simp [same]
theorem lcLoop_F {g : Option Nat} {M0 M : List C} (hg : same g M0 M = true) {body : D → List C → Res (Option D)} : ∀ {ds acc : List D} {xs : List D}, mlcF ds (fun d => keepR M (body d M)) = some xs → lcLoop g M0 body ds acc M = some (.ok (acc ++ xs), M)
  | [], acc, xs, h => by cases h; rw [lcLoop, if_pos hg]; simp
  | d :: ds, acc, xs, h => by
    rw [mlcF] at h
    split at h
    · cases h
    · rename_i o e
      split at h
      · cases h
      · rename_i ys e2
        cases h
        rw [lcLoop, if_pos hg, keepR_some e, bndN_ok, lcLoop_F hg e2]
        cases o <;> simp
@[simp] theorem lcLoop_eq {g : Option Nat} {M : List C} {body : D → List C → Res (Option D)} {ds acc : List D} : lcLoop g M body ds acc M = lcR (mlcF ds fun d => keepR M (body d M)) acc M (lcSlow g M body ds acc M) := by
  cases h : mlcF ds fun d => keepR M (body d M) with
  | none => rfl
  | some xs => rw [lcLoop_F (same_self g M) h]; rfl
@[simp] theorem lcR_some {xs acc : List D} {z : Res (List D)} : lcR (some xs) acc M z = some (.ok (acc ++ xs), M) := rfl
theorem mlcF_congr {as bs : List α} {f g : α → Option (Option β)} (h : as = bs) (h2 : ∀ a, a ∈ bs → f a = g a) : mlcF as f = mlcF bs g := by
  subst h
  induction as with
  | nil => rfl
  | cons a as ih => rw [mlcF, mlcF, h2 a List.mem_cons_self, ih fun x hx => h2 x (List.mem_cons_of_mem _ hx)]
@[simp] theorem mlcF_nil {f : α → Option (Option β)} : mlcF [] f = some [] := rfl
@[simp high] theorem mlcF_map {γ : Type} {em : γ → α} {as : List γ} {f : α → Option (Option β)} : mlcF (as.map em) f = mlcF as fun a => f (em a) := by
  induction as with
  | nil => rfl
  | cons a as ih => rw [List.map_cons, mlcF, mlcF, ih]
theorem mlcF_some {g : α → Option β} {as : List α} : mlcF as (fun a => some (g a)) = some (as.filterMap g) := by
  induction as with
  | nil => rfl
  | cons a as ih =>
    rw [mlcF, ih]
    cases e : g a with
    | none => rw [List.filterMap_cons_none e]
    | some r => rw [List.filterMap_cons_some e]
@[simp low] theorem mlcF_cond {as : List α} {f : α → Option (Option β)} {g : α → Option β} (h : ∀ a, a ∈ as → f a = some (g a)) : mlcF as f = some (as.filterMap g) := by rw [mlcF_congr rfl h, mlcF_some]
@[simp] theorem some_ite {c : Prop} [Decidable c] {a b : Option β} : (if c then some a else some b) = some (if c then a else b) := by split <;> rfl
@[simp] theorem filterMap_if {c : α → Prop} [DecidablePred c] {v : α → β} {as : List α} : as.filterMap (fun a => if c a then some (v a) else none) = (as.filter fun a => decide (c a)).map v := by
  induction as with
  | nil => rfl
  | cons a as ih => by_cases h : c a <;> simp [h, ih]
@[simp] theorem filterMap_ifn {c : α → Prop} [DecidablePred c] {v : α → β} {as : List α} : as.filterMap (fun a => if c a then none else some (v a)) = (as.filter fun a => decide (¬ c a)).map v := by
  induction as with
  | nil => rfl
  | cons a as ih => by_cases h : c a <;> simp [h, ih]
/-- two fors -/
def mlc2F : List α → (α → Option (List β)) → Option (List β)
  | [], _ => some []
  | a :: as, f => match f a with
    | none => none
    | some o => match mlc2F as f with
      | none => none
      | some xs => some (o ++ xs)
def lcSlow2 := @lcLoop2
theorem lcLoop2_F {M0 M : List C} {body : D → List D → List C → Res (List D)} {f : D → Option (List D)} (hb : ∀ d acc xs, f d = some xs → body d acc M = some (.ok (acc ++ xs), M)) : ∀ {ds acc : List D} {xs : List D}, mlc2F ds f = some xs → lcLoop2 none M0 body ds acc M = some (.ok (acc ++ xs), M)
  | [], acc, xs, h => by cases h; rw [lcLoop2]; simp
  | d :: ds, acc, xs, h => by
    rw [mlc2F] at h
    split at h
    · cases h
    · rename_i o e
      split at h
      · cases h
      · rename_i ys e2
        cases h
        rw [lcLoop2, if_pos (same_none _ _), hb _ _ _ e, bndN_ok, lcLoop2_F hb e2]
        simp
@[simp] theorem mlc2F_nil {f : α → Option (List β)} : mlc2F [] f = some [] := rfl
@[simp high] theorem mlc2F_map {γ : Type} {em : γ → α} {as : List γ} {f : α → Option (List β)} : mlc2F (as.map em) f = mlc2F as fun a => f (em a) := by
  induction as with
  | nil => rfl
  | cons a as ih => rw [List.map_cons, mlc2F, mlc2F, ih]
@[simp low] theorem mlc2F_cond {as : List α} {f : α → Option (List β)} {g : α → List β} (h : ∀ a, a ∈ as → f a = some (g a)) : mlc2F as f = some (as.flatMap g) := by
  induction as with
  | nil => rfl
  | cons a as ih => rw [mlc2F, h a List.mem_cons_self, ih fun x hx => h x (List.mem_cons_of_mem _ hx)]; rfl
end
/-- a dict by comprehension -/
def mdcF {α : Type} : List α → (α → Option (D × D)) → List D → List D → Option (List D × List D)
  | [], _, ks, vs => some (ks, vs)
  | a :: as, f, ks, vs => match f a with
    | none => none
    | some kv => if keyOk ks kv.1 then mdcF as f (dputK ks kv.1) (dputV ks vs kv.1 kv.2) else none
def dcR (o : Option (List D × List D)) (M : List C) (z : Res (List D × List D)) : Res (List D × List D) := match o with
  | some kv => some (.ok kv, M)
  | none => z
def dcSlow := @dcLoop
theorem dcLoop_F {g : Option Nat} {M0 M : List C} (hg : same g M0 M = true) {body : D → List C → Res (D × D)} : ∀ {ds ks vs : List D} {kv : List D × List D}, mdcF ds (fun d => keepR M (body d M)) ks vs = some kv → dcLoop g M0 body ds ks vs M = some (.ok kv, M)
  | [], ks, vs, kv, h => by cases h; rw [dcLoop, if_pos hg]
  | d :: ds, ks, vs, kv, h => by
    rw [mdcF] at h
    split at h
    · cases h
    · rename_i o e
      split at h
      · rename_i hk
        rw [dcLoop, if_pos hg, keepR_some e, bndN_ok, if_pos hk, dcLoop_F hg h]
      · cases h
@[simp] theorem dcLoop_eq {g : Option Nat} {M : List C} {body : D → List C → Res (D × D)} {ds ks vs : List D} : dcLoop g M body ds ks vs M = dcR (mdcF ds (fun d => keepR M (body d M)) ks vs) M (dcSlow g M body ds ks vs M) := by
  cases h : mdcF ds (fun d => keepR M (body d M)) ks vs with
  | none => rfl
  | some xs => rw [dcLoop_F (same_self g M) h]; rfl
section
variable {α β : Type} {M : List C}
@[simp] theorem dcR_some {kv : List D × List D} {z : Res (List D × List D)} : dcR (some kv) M z = some (.ok kv, M) := rfl
@[simp high] theorem mdcF_map {γ : Type} {em : γ → α} {as : List γ} {f : α → Option (D × D)} {ks vs : List D} : mdcF (as.map em) f ks vs = mdcF as (fun a => f (em a)) ks vs := by
  induction as generalizing ks vs with
  | nil => rfl
  | cons a as ih =>
    rw [List.map_cons, mdcF, mdcF]
    split
    · rfl
    · split
      · exact ih
      · rfl
theorem mdcF_emb {em f : α → D} (hi : ∀ a b, em a = em b → a = b) (hk : ∀ a, keyKind (em a) = some true) : ∀ (as bs : List α), (bs ++ as).Nodup → mdcF as (fun a => some (em a, f a)) (bs.map em) (bs.map f) = some ((bs ++ as).map em, (bs ++ as).map f)
  | [], bs, _ => by rw [mdcF, List.append_nil]
  | a :: as, bs, hn => by
    have hd : em a ∉ bs.map em := fun m => by
      obtain ⟨b, hb, e⟩ := List.mem_map.mp m
      exact (List.nodup_append.mp hn).2.2 b hb a List.mem_cons_self (hi _ _ e)
    rw [mdcF]
    dsimp only
    rw [if_pos (keyOk_of (hk a) fun x hx => by
      obtain ⟨b, _, rfl⟩ := List.mem_map.mp hx
      exact hk b), dputK, if_neg hd, dputV_new hd (by simp)]
    have := mdcF_emb (f := f) hi hk as (bs ++ [a]) (by simpa using hn)
    simp only [List.map_append, List.map_cons, List.map_nil] at this ⊢
    rw [this]
    simp
theorem mdcF_new {em f : α → D} {as : List α} (hi : ∀ a b, em a = em b → a = b) (hk : ∀ a, keyKind (em a) = some true) (hn : as.Nodup) : mdcF as (fun a => some (em a, f a)) [] [] = some (as.map em, as.map f) := mdcF_emb hi hk as [] hn
theorem mdcF_congr {α : Type} {as : List α} {f g : α → Option (D × D)} {ks vs : List D} (h2 : ∀ a, a ∈ as → f a = g a) : mdcF as f ks vs = mdcF as g ks vs := by
  induction as generalizing ks vs with
  | nil => rfl
  | cons a as ih =>
    rw [mdcF, mdcF, h2 a List.mem_cons_self]
    split
    · rfl
    · split
      · exact ih fun x hx => h2 x (List.mem_cons_of_mem _ hx)
      · rfl
@[simp low] theorem mdcF_T {as : List Tl} {f : Tl → Option (D × D)} {g : Tl → D} (h : ∀ a, a ∈ as → f a = some (T a, g a)) (hn : as.Nodup) : mdcF as f [] [] = some (as.map T, as.map g) := by
  rw [mdcF_congr h]
  exact mdcF_new (fun _ _ => T_inj) keyT hn
theorem keyTs (a : List Tl) : keyKind (Ts a) = some true := by
  unfold Ts
  rw [keyKind, if_pos]
  refine List.all_eq_true.mpr fun x hx => ?_
  obtain ⟨t, _, rfl⟩ := List.mem_map.mp hx
  rfl
@[simp low] theorem mdcF_Ts {as : List (List Tl)} {f : List Tl → Option (D × D)} {g : List Tl → D} (h : ∀ a, a ∈ as → f a = some (Ts a, g a)) (hn : as.Nodup) : mdcF as f [] [] = some (as.map Ts, as.map g) := by
  rw [mdcF_congr h]
  refine mdcF_new (fun a b e => ?_) keyTs hn
  unfold Ts at e
  injection e with e
  exact List.map_inj_right (fun _ _ => T_inj) |>.mp e
end
/-! ### the expressions -/
section
variable {Γ : Ctx} {ρ : Env} {M : List C}
@[simp] theorem em_lit {d : D} : evE Γ (.lit d) ρ M = some (.ok d, M) := by rw [evE]
@[simp] theorem em_var {i : Nat} : evE Γ (.var i) ρ M = (match ρ[i]? with | some (some d) => some (.ok d, M) | _ => none) := by rw [evE] <;> rfl
@[simp] theorem em_glob {x : Str} : evE Γ (.glob x) ρ M = ofO (Γ.glob x) M := by rw [evE]
@[simp] theorem em_not {a : E} : evE Γ (.not a) ρ M = bnd (evE Γ a ρ M) fun x M1 => ofO ((truD (drf M1 x)).map fun b => .bl (!b)) M1 := by rw [evE]
def negR (x : D) (M : List C) : Res D := match x with
    | .int i => some (.ok (.int (-i)), M)
    | _ => none
@[simp] theorem negR_int {i : Int} : negR (.int i) M = some (.ok (.int (-i)), M) := rfl
@[simp] theorem em_neg {a : E} : evE Γ (.neg a) ρ M = bnd (evE Γ a ρ M) negR := by rw [evE] <;> rfl
@[simp] theorem em_and {a b : E} : evE Γ (.and a b) ρ M = bnd (evE Γ a ρ M) fun x M1 => tri (truD (drf M1 x)) (evE Γ b ρ M1) (some (.ok x, M1)) := by rw [evE] <;> rfl
@[simp] theorem em_or {a b : E} : evE Γ (.or a b) ρ M = bnd (evE Γ a ρ M) fun x M1 => tri (truD (drf M1 x)) (some (.ok x, M1)) (evE Γ b ρ M1) := by rw [evE] <;> rfl
@[simp] theorem em_cmp {op : COp} {a b : E} : evE Γ (.cmp op a b) ρ M = bnd (evE Γ a ρ M) fun x M1 => bnd (evE Γ b ρ M1) fun y M2 => ofO ((cmpD op (drf M2 x) (drf M2 y)).map .bl) M2 := by rw [evE]
@[simp] theorem em_chain {o1 o2 : COp} {a b c : E} : evE Γ (.chain o1 o2 a b c) ρ M = bnd (evE Γ a ρ M) fun x M1 => bnd (evE Γ b ρ M1) fun y M2 => tri (cmpD o1 (drf M2 x) (drf M2 y)) (bnd (evE Γ c ρ M2) fun z M3 => ofO ((cmpD o2 (drf M3 y) (drf M3 z)).map .bl) M3) (some (.ok (.bl false), M2)) := by rw [evE] <;> rfl
@[simp] theorem em_ite {c a b : E} : evE Γ (.ite c a b) ρ M = bnd (evE Γ c ρ M) fun x M1 => tri (truD (drf M1 x)) (evE Γ a ρ M1) (evE Γ b ρ M1) := by rw [evE] <;> rfl
@[simp] theorem em_tup {es : List E} : evE Γ (.tup es) ρ M = bnd (evEs Γ es ρ M) fun ds M1 => some (.ok (.tup ds), M1) := by rw [evE]
@[simp] theorem em_lst {es : List E} : evE Γ (.lst es) ρ M = bnd (evEs Γ es ρ M) fun ds M1 => some (.ok (.lst ds), M1) := by rw [evE]
@[simp] theorem em_ix {a i : E} : evE Γ (.ix a i) ρ M = bnd (evE Γ a ρ M) fun x M1 => bnd (evE Γ i ρ M1) fun y M2 => ofO (ixD (drf M2 x) y) M2 := by rw [evE]
@[simp] theorem em_slice {a l h : E} {hl hh : Bool} : evE Γ (.slice a hl l hh h) ρ M = bnd (evE Γ a ρ M) fun x M1 => bnd (if hl then evE Γ l ρ M1 else some (.ok .non, M1)) fun l M2 => bndN (if hh then evE Γ h ρ M2 else some (.ok .non, M2)) fun h M3 =>
      ofO (sliceD (drf M3 x) (if hl then some l else none) (if hh then some h else none)) M3 := by rw [evE]
@[simp] theorem em_call {x : Str} {es ks : List E} {kn : List Str} : evE Γ (.call x es kn ks) ρ M = bnd (evEs Γ es ρ M) fun ds M1 => bnd (evEs Γ ks ρ M1) fun zs M2 => Γ.call x ds (kn.zip zs) M2 := by rw [evE]
@[simp] theorem em_isi {a : E} {t : Ty} : evE Γ (.isi a t) ρ M = bnd (evE Γ a ρ M) fun x M1 => ofO ((isTy (drf M1 x) t).map .bl) M1 := by rw [evE]
def catR (x y : D) (M : List C) : Res D := match x, y with
  | .lst xs, .lst ys => szd (xs ++ ys) (some (.ok (.lst (xs ++ ys)), M))
  | _, _ => none
@[simp] theorem catR_lst {xs ys : List D} : catR (.lst xs) (.lst ys) M = szd (xs ++ ys) (some (.ok (.lst (xs ++ ys)), M)) := rfl
@[simp] theorem em_cat {a b : E} : evE Γ (.cat a b) ρ M = bnd (evE Γ a ρ M) fun x M1 => bnd (evE Γ b ρ M1) fun y M2 => catR (drf M2 x) (drf M2 y) M2 := by
  rw [evE]; congr 1; funext x M1; congr 1; funext y M2; unfold catR szd; split <;> simp_all
def mkR (d : D) (M : List C) : Res D := match d with
  | .lst xs => some (.ok (.cell M.length), M ++ [.lst xs])
  | .dic ks vs => some (.ok (.cell M.length), M ++ [.dic ks vs])
  | _ => none
@[simp] theorem mkR_lst {xs : List D} : mkR (.lst xs) M = some (.ok (.cell M.length), M ++ [.lst xs]) := rfl
@[simp] theorem mkR_dic {xs ys : List D} : mkR (.dic xs ys) M = some (.ok (.cell M.length), M ++ [.dic xs ys]) := rfl
@[simp] theorem em_mk {e : E} : evE Γ (.mk e) ρ M = bnd (evE Γ e ρ M) mkR := by rw [evE] <;> rfl
@[simp] theorem em_nil : evEs Γ [] ρ M = some (.ok [], M) := by rw [evEs]
@[simp] theorem em_cons {e : E} {es : List E} : evEs Γ (e :: es) ρ M = bnd (evE Γ e ρ M) fun d M1 => bnd (evEs Γ es ρ M1) fun ds M2 => some (.ok (d :: ds), M2) := by rw [evEs]
@[simp] theorem em_cnil : evCs Γ [] ρ M = some (.ok true, M) := by rw [evCs]
@[simp] theorem em_ccons {e : E} {es : List E} : evCs Γ (e :: es) ρ M = bnd (evE Γ e ρ M) fun d M1 => tri (truD (drf M1 d)) (evCs Γ es ρ M1) (some (.ok false, M1)) := by rw [evCs] <;> rfl
def optR {α : Type} (o : Option α) (k : α → Res β) : Res β := match o with
  | some a => k a
  | none => none
@[simp] theorem optR_some {α β : Type} {a : α} {k : α → Res β} : optR (some a) k = k a := rfl
@[simp] theorem em_lc {elt : E} {p : P} {it : I} {cs : List E} : evE Γ (.lc elt p it cs) ρ M = bnd (evI Γ it ρ M) fun dg M1 =>
      bndN (lcLoop dg.2 M1 (fun d M => optR (bindP p d (wipeE ρ (varsP p))) fun ρ' => bndN (evCs Γ cs ρ' M) fun b M' => if b = true then bndN (evE Γ elt ρ' M') fun r M'' => some (.ok (some r), M'') else some (.ok none, M')) dg.1 [] M1) fun ds M2 => szd ds (some (.ok (.lst ds), M2)) := by
  rw [evE]; congr 1; funext dg M1
  have e : (fun d M => match bindP p d (wipeE ρ (varsP p)) with
        | none => none
        | some ρ' => bndN (evCs Γ cs ρ' M) fun b M' => if b then bndN (evE Γ elt ρ' M') fun r M'' => some (.ok (some r), M'') else some (.ok none, M')) = (fun d M => optR (bindP p d (wipeE ρ (varsP p))) fun ρ' => bndN (evCs Γ cs ρ' M) fun b M' => if b = true then bndN (evE Γ elt ρ' M') fun r M'' => some (.ok (some r), M'') else some (.ok none, M')) := by
    funext d M
    unfold optR
    split <;> simp_all
  rw [← e]
  rfl
def mlc2B (Γ : Ctx) (elt : E) (p : P) (p2 : P) (it2 : I) (ρ : Env) (M : List C) (d : D) : Option (List D) :=
  (bindP p d (wipeE ρ (varsP p ++ varsP p2))).bind fun ρ' => (keepR M (evI Γ it2 ρ' M)).bind fun dg2 => mlcF dg2.1 (fun d2 => keepR M (optR (bindP p2 d2 (wipeE ρ' (varsP p2))) fun ρ2 => bndN (evE Γ elt ρ2 M) fun r M'' => some (.ok (some r), M'')))
theorem em_lc2 {elt : E} {p p2 : P} {it it2 : I} {xs : List D} {ys : List D} (hi : evI Γ it ρ M = some (.ok (xs, none), M)) (hb : mlc2F xs (mlc2B Γ elt p p2 it2 ρ M) = some ys) (hs : Small ys) : evE Γ (.lc2 elt p it p2 it2) ρ M = some (.ok (.lst ys), M) := by
  rw [evE, hi, bnd_ok, lcLoop2_F (f := mlc2B Γ elt p p2 it2 ρ M) ?_ hb, bndN_ok]
  · rw [List.nil_append]
    exact szd_ok (r := some (Except.ok (D.lst ys), M)) hs
  · intro d acc zs h
    unfold mlc2B at h
    obtain ⟨ρ', e1, h⟩ := Option.bind_eq_some_iff.mp h
    obtain ⟨dg2, e2, h⟩ := Option.bind_eq_some_iff.mp h
    rw [e1]
    dsimp only
    rw [keepR_some e2, bndN_ok]
    have e : (fun d2 M => match bindP p2 d2 (wipeE ρ' (varsP p2)) with
          | none => none
          | some ρ2 => bndN (evE Γ elt ρ2 M) fun r M'' => some (.ok (some r), M'')) = (fun d2 M => optR (bindP p2 d2 (wipeE ρ' (varsP p2))) fun ρ2 => bndN (evE Γ elt ρ2 M) fun r M'' => some (.ok (some r), M'')) := by
        funext d M
        unfold optR
        split <;> simp_all
    have := lcLoop_F (same_self dg2.2 M) (body := fun d2 M => optR (bindP p2 d2 (wipeE ρ' (varsP p2))) fun ρ2 => bndN (evE Γ elt ρ2 M) fun r M'' => some (.ok (some r), M'')) (acc := acc) h
    rw [← e] at this
    exact this
@[simp] theorem em_dc {k v : E} {p : P} {it : I} : evE Γ (.dc k v p it) ρ M = bnd (evI Γ it ρ M) fun dg M1 =>
      bndN (dcLoop dg.2 M1 (fun d M => optR (bindP p d (wipeE ρ (varsP p))) fun ρ' => bndN (evE Γ k ρ' M) fun x M' => bndN (evE Γ v ρ' M') fun y M'' => some (.ok (x, y), M'')) dg.1 [] [] M1) fun kv M2 => szl kv.1 (some (.ok (.dic kv.1 kv.2), M2)) := by
  rw [evE]; congr 1; funext dg M1
  have e : (fun d M => match bindP p d (wipeE ρ (varsP p)) with
        | none => none
        | some ρ' => bndN (evE Γ k ρ' M) fun x M' => bndN (evE Γ v ρ' M') fun y M'' => some (.ok (x, y), M'')) = (fun d M => optR (bindP p d (wipeE ρ (varsP p))) fun ρ' => bndN (evE Γ k ρ' M) fun x M' => bndN (evE Γ v ρ' M') fun y M'' => some (.ok (x, y), M'')) := by
    funext d M
    unfold optR
    split <;> simp_all
  rw [← e]
  rfl
end
end Pv

end T_Mj
section T_Mk
/-! Mk: what is gone through, statements, calls, for simp. -/
namespace Pv
open PySem
/-- an if that no kernel opens: great numbers stand in the tests -/
noncomputable def cif {α : Type} (c : Prop) (a b : α) : α := @ite α c (Classical.propDecidable c) a b
theorem cif_eq {α : Type} {c : Prop} [Decidable c] {a b : α} : cif c a b = if c then a else b := by
  unfold cif
  by_cases h : c
  · rw [if_pos h, if_pos h]
  · rw [if_neg h, if_neg h]
theorem cif_pos {α : Type} {c : Prop} {a b : α} (h : c) : cif c a b = a := by unfold cif; rw [if_pos h]
def exR (d : D) (M : List C) : Res (List D × Option Nat) := match d with
  | .cell n => (match M[n]? with
    | some (.lst xs) => some (.ok (xs, some n), M)
    | _ => none)
  | d => ofO ((itemsD d).map fun xs => (xs, none)) M
noncomputable def rangeR (ds : List D) (M : List C) : Res (List D × Option Nat) := match ds with
  | [.int n] => cif (-R62 ≤ n ∧ n < R62) (some (.ok (rangeD 0 n, none), M)) none
  | [.int a, .int b] => cif (-R62 ≤ a ∧ a < R62 ∧ -R62 ≤ b ∧ b < R62) (some (.ok (rangeD a b, none), M)) none
  | _ => none
def zipR (ds : List D) (M : List C) : Res (List D × Option Nat) := match ds with
  | [.tup xs, .tup ys] => some (.ok (pairsD xs ys, none), M)
  | [.lst xs, .lst ys] => some (.ok (pairsD xs ys, none), M)
  | _ => none
def enumR (ds : List D) (M : List C) : Res (List D × Option Nat) := match ds with
  | [.lst xs] => some (.ok (enumD 0 xs, none), M)
  | _ => none
def itemsR (d : D) (M : List C) : Res (List D × Option Nat) := match d with
  | .dic ks vs => if vs.length = ks.length then some (.ok (pairsD ks vs, none), M) else none
  | _ => none
def valsR (d : D) (M : List C) : Res (List D × Option Nat) := match d with
  | .dic ks vs => if vs.length = ks.length then some (.ok (vs, none), M) else none
  | _ => none
def combosR (ds : List D) (M : List C) : Res (List D × Option Nat) := match ds with
  | [.tup xs, .int n] => if 0 ≤ n ∧ n < 1000 then some (.ok ((combos xs n.toNat).map .tup, none), M) else none
  | _ => none
section
variable {Γ : Ctx} {ρ : Env} {M : List C} {α β : Type} {d : D} {xs ys : List D}
@[simp] theorem evI_ex {e : E} : evI Γ (.ex e) ρ M = bnd (evE Γ e ρ M) exR := by rw [evI] <;> rfl
@[simp] theorem evI_range' {es : List E} : evI Γ (.range es) ρ M = bnd (evEs Γ es ρ M) rangeR := by
  rw [evI]
  congr 1
  funext ds M1
  simp only [rangeR, cif_eq] <;> rfl
@[simp] theorem evI_zip {es : List E} : evI Γ (.zip es) ρ M = bnd (evEs Γ es ρ M) zipR := by rw [evI] <;> rfl
@[simp] theorem evI_enum {es : List E} : evI Γ (.enum es) ρ M = bnd (evEs Γ es ρ M) enumR := by rw [evI] <;> rfl
@[simp] theorem evI_items {e : E} : evI Γ (.items e) ρ M = bnd (evE Γ e ρ M) itemsR := by rw [evI] <;> rfl
@[simp] theorem evI_vals {e : E} : evI Γ (.vals e) ρ M = bnd (evE Γ e ρ M) valsR := by rw [evI] <;> rfl
@[simp] theorem evI_combos {es : List E} : evI Γ (.combos es) ρ M = bnd (evEs Γ es ρ M) combosR := by rw [evI] <;> rfl
@[simp] theorem exR_tup : exR (.tup xs) M = some (.ok (xs, none), M) := rfl
@[simp] theorem exR_lst : exR (.lst xs) M = some (.ok (xs, none), M) := rfl
@[simp] theorem exR_dic : exR (.dic xs ys) M = some (.ok (xs, none), M) := rfl
@[simp] theorem exR_Ts {ts : List Tl} : exR (Ts ts) M = some (.ok (ts.map T, none), M) := rfl
@[simp] theorem exR_FL {fl : List (List Int)} : exR (FL fl) M = some (.ok (fl.map (fun r => .tup (r.map .int)), none), M) := rfl
theorem exR_cell {n : Nat} (h : M[n]? = some (.lst xs)) : exR (.cell n) M = some (.ok (xs, some n), M) := by unfold exR; dsimp only; rw [h]
@[simp] theorem rangeR_nat {n : Nat} (h : n ≤ 100000) : rangeR [.int n] M = some (.ok ((List.range n).map fun (i : Nat) => D.int i, none), M) := by
  unfold rangeR
  dsimp only
  rw [cif_pos (by unfold R62; omega), rangeD_nat]
@[simp] theorem combosR_nat {n : Nat} (h : n < 1000) : combosR [.tup xs, .int n] M = some (.ok ((combos xs n).map .tup, none), M) := by
  unfold combosR
  dsimp only
  rw [if_pos (by omega), Int.toNat_natCast]
@[simp] theorem combosR_Ts {n : Nat} {ts : List Tl} (h : n < 1000) : combosR [Ts ts, .int n] M = some (.ok ((combos (ts.map T) n).map .tup, none), M) := combosR_nat h
theorem itemsR_ok (h : ys.length = xs.length) : itemsR (.dic xs ys) M = some (.ok (pairsD xs ys, none), M) := by unfold itemsR; dsimp only; rw [if_pos h]
theorem pairsD_map {f g : α → D} : ∀ as : List α, pairsD (as.map f) (as.map g) = as.map fun a => .tup [f a, g a]
  | [] => rfl
  | a :: as => by rw [List.map_cons, List.map_cons, pairsD, pairsD_map as]; rfl
@[simp] theorem itemsR_map {f g : α → D} {as : List α} : itemsR (.dic (as.map f) (as.map g)) M = some (.ok (as.map (fun a => .tup [f a, g a]), none), M) := by rw [itemsR_ok (by simp), pairsD_map]
@[simp] theorem valsR_map {f g : α → D} {as : List α} : valsR (.dic (as.map f) (as.map g)) M = some (.ok (as.map g, none), M) := by unfold valsR; dsimp only; rw [if_pos (by simp)]
@[simp] theorem zipR_map {f g : α → D} {as : List α} : zipR [.tup (as.map f), .tup (as.map g)] M = some (.ok (as.map (fun a => .tup [f a, g a]), none), M) := by unfold zipR; dsimp only; rw [pairsD_map]
/-! patterns -/
@[simp] theorem bindP_var {i : Nat} : bindP (.var i) d ρ = if i < ρ.length then some (ρ.set i (some d)) else none := by rw [bindP]
@[simp] theorem bindP_tup {ps : List P} : bindP (.tup ps) (.tup xs) ρ = bindPs ps xs ρ := by rw [bindP]
@[simp] theorem bindP_T {ps : List P} {t : Tl} : bindP (.tup ps) (T t) ρ = bindPs ps [.int t.1, .int t.2] ρ := by unfold T; rw [bindP]
@[simp] theorem bindPs_nil : bindPs [] [] ρ = some ρ := by rw [bindPs]
@[simp] theorem bindPs_cons {p : P} {ps : List P} : bindPs (p :: ps) (d :: xs) ρ = (bindP p d ρ).bind fun ρ' => bindPs ps xs ρ' := by rw [bindPs]
@[simp] theorem varsP_var {i : Nat} : varsP (.var i) = [i] := by rw [varsP]
@[simp] theorem varsP_tup {ps : List P} : varsP (.tup ps) = varsPs ps := by rw [varsP]
@[simp] theorem varsPs_nil : varsPs [] = [] := by rw [varsPs]
@[simp] theorem varsPs_cons {p : P} {ps : List P} : varsPs (p :: ps) = varsP p ++ varsPs ps := by rw [varsPs]
@[simp] theorem wipe_nil : wipeE ρ [] = ρ := rfl
@[simp] theorem wipe_cons {v : Nat} {vs : List Nat} : wipeE ρ (v :: vs) = (wipeE ρ vs).set v none := rfl
/-! statements -/
@[simp] theorem asg_var {i : Nat} : asgT Γ (.var i) d ρ M = if i < ρ.length then some (.ok (ρ.set i (some d)), M) else none := by rw [asgT]
@[simp] theorem asg_tup {ts : List LT} : asgT Γ (.tup ts) (.tup xs) ρ M = asgTs Γ ts xs ρ M := by rw [asgT]
@[simp] theorem asg_T {ts : List LT} {t : Tl} : asgT Γ (.tup ts) (T t) ρ M = asgTs Γ ts [.int t.1, .int t.2] ρ M := by unfold T; rw [asgT]
def ixS (x y d : D) (ρ : Env) (M : List C) : Res Env := match x with
  | .cell n => (match storeC M n y d with
      | some M3 => some (.ok ρ, M3)
      | none => none)
  | _ => none
theorem ixS_ok {n : Nat} {y : D} {M' : List C} (h : storeC M n y d = some M') : ixS (.cell n) y d ρ M = some (.ok ρ, M') := by unfold ixS; dsimp only; rw [h]
@[simp] theorem asg_ix {a i : E} : asgT Γ (.ix a i) d ρ M = bndN (evE Γ a ρ M) fun x M1 => bndN (evE Γ i ρ M1) fun y M2 => ixS x y d ρ M2 := by rw [asgT] <;> rfl
@[simp] theorem asg_nil : asgTs Γ [] [] ρ M = some (.ok ρ, M) := by rw [asgTs]
@[simp] theorem asg_cons {t : LT} {ts : List LT} : asgTs Γ (t :: ts) (d :: xs) ρ M = bndN (asgT Γ t d ρ M) fun ρ' M' => asgTs Γ ts xs ρ' M' := by rw [asgTs]
@[simp] theorem evT_eq {e : E} : evT Γ e ρ M = bnd (evE Γ e ρ M) fun d M1 => ofO (truD (drf M1 d)) M1 := rfl
@[simp] theorem evs_nil : evSs Γ [] ρ M = some (.next ρ, M) := by rw [evSs]
@[simp] theorem evs_cons {s : S} {ss : List S} : evSs Γ (s :: ss) ρ M = seqS (evS Γ s ρ M) fun ρ' M' => evSs Γ ss ρ' M' := by rw [evSs]
@[simp] theorem evs_expr {e : E} : evS Γ (.expr e) ρ M = bndS (evE Γ e ρ M) ρ fun _ M1 => some (.next ρ, M1) := by rw [evS]
@[simp] theorem evs_asg {t : LT} {e : E} : evS Γ (.asg t e) ρ M = bndS (evE Γ e ρ M) ρ fun d M1 => nextS (asgT Γ t d ρ M1) := by rw [evS]
@[simp] theorem evs_iff {c : E} {a b : List S} : evS Γ (.iff c a b) ρ M = bndS (evT Γ c ρ M) ρ fun t M1 => if t = true then evSs Γ a ρ M1 else evSs Γ b ρ M1 := by rw [evS]
@[simp] theorem evs_for {p : P} {it : I} {b : List S} : evS Γ (.for p it b) ρ M = bndS (evI Γ it ρ M) ρ fun dg M1 => forLoop dg.2 M1 p (fun ρ M => evSs Γ b ρ M) dg.1 ρ M1 := by rw [evS]
@[simp] theorem evs_while {c : E} {b : List S} : evS Γ (.while c b) ρ M = whileLoop (fun ρ M => evT Γ c ρ M) (fun ρ M => evSs Γ b ρ M) WF ρ M := by rw [evS]
@[simp] theorem evs_ret {e : E} : evS Γ (.ret e) ρ M = bndS (evE Γ e ρ M) ρ fun d M1 => some (.ret d, M1) := by rw [evS]
@[simp] theorem evs_retN : evS Γ .retN ρ M = some (.ret .non, M) := by rw [evS]
@[simp] theorem evs_brk : evS Γ .brk ρ M = some (.brk ρ, M) := by rw [evS]
@[simp] theorem evs_pass : evS Γ .pass ρ M = some (.next ρ, M) := by rw [evS]
def appR (Γ : Ctx) (e : E) (ρ : Env) (x : D) (M1 : List C) : SRes := match x with
    | .cell n => (match M1[n]? with
      | some (.lst _) => bndS (evE Γ e ρ M1) ρ fun d M2 => (match M2[n]? with
        | some (.lst xs) => if xs.length < SZ then some (.next ρ, M2.set n (.lst (xs ++ [d]))) else none
        | _ => none)
      | _ => none)
    | _ => none
@[simp] theorem evs_app {a e : E} : evS Γ (.app a e) ρ M = bndS (evE Γ a ρ M) ρ fun x M1 => appR Γ e ρ x M1 := by rw [evS] <;> rfl
theorem appR_ok {e : E} {n : Nat} (h : M[n]? = some (.lst xs)) (he : evE Γ e ρ M = some (.ok d, M)) (hs : xs.length ≤ 100000) : appR Γ e ρ (.cell n) M = some (.next ρ, M.set n (.lst (xs ++ [d]))) := by
  unfold appR
  dsimp only
  rw [h]
  dsimp only
  rw [he, bndS_ok, h]
  dsimp only
  rw [if_pos (Nat.lt_of_le_of_lt hs SZ_big)]
/-! a for whose turns change the names alone -/
theorem for_fold {p : P} {body : Env → List C → SRes} {em : α → D} {ρs : β → Env} {g : β → α → β} :
    ∀ (as : List α) (b : β), (∀ a ∈ as, ∀ b, ∃ ρ1, bindP p (em a) (ρs b) = some ρ1 ∧ body ρ1 M = some (.next (ρs (g b a)), M)) → forLoop none M p body (as.map em) (ρs b) M = some (.next (ρs (as.foldl g b)), M)
  | [], b, _ => by rw [List.map_nil, forLoop, if_pos (same_none _ _)]; rfl
  | a :: as, b, h => by
    obtain ⟨ρ1, e1, e2⟩ := h a List.mem_cons_self b
    rw [List.map_cons, forLoop, if_pos (same_none _ _), e1]
    dsimp only
    rw [e2, turnS_next, for_fold as _ fun x hx => h x (List.mem_cons_of_mem _ hx)]
    rfl
/-! ifs -/
@[simp] theorem nextS_if {c : Prop} [Decidable c] {a b : Res Env} : nextS (if c then a else b) = if c then nextS a else nextS b := by split <;> rfl
@[simp high] theorem tri_and {b c : Bool} : tri (some b) (some (Except.ok (ε := D) (D.bl c), M)) (some (Except.ok (D.bl b), M)) = some (Except.ok (D.bl (b && c)), M) := by cases b <;> rfl
@[simp high] theorem tri_and0 {b c : Bool} : tri (some b) (some (Except.ok (ε := D) (D.bl c), M)) (some (Except.ok (D.bl false), M)) = some (Except.ok (D.bl (b && c)), M) := by cases b <;> rfl
@[simp high] theorem tri_or {b c : Bool} : tri (some b) (some (Except.ok (ε := D) (D.bl b), M)) (some (Except.ok (D.bl c), M)) = some (Except.ok (D.bl (b || c)), M) := by cases b <;> rfl
@[simp high] theorem tri_cs {b : Bool} : tri (some b) (some (Except.ok (ε := D) true, M)) (some (Except.ok false, M)) = some (Except.ok b, M) := by cases b <;> rfl
@[simp high] theorem tri_cs2 {b c : Bool} : tri (some b) (some (Except.ok (ε := D) c, M)) (some (Except.ok false, M)) = some (Except.ok (b && c), M) := by cases b <;> rfl
noncomputable def evX (b : B) (ds : List D) : Option D := match b, ds with
  | .divmod, [.int i, .int j] => cif (0 < j ∧ j < 1073741824) (some (.tup [.int (i / j), .int (i % j)])) none
  | b, ds => evB b ds
theorem evX_eq {b : B} {ds : List D} : evB b ds = evX b ds := by
  unfold evX
  split <;> (try simp only [cif_eq]) <;> rfl
@[simp] theorem em_blt {b : B} {es : List E} : evE Γ (.blt b es) ρ M = bnd (evEs Γ es ρ M) fun ds M1 => ofO (evX b (ds.map (drf M1))) M1 := by
  rw [evE]
  congr 1
  funext ds M1
  rw [evX_eq]
@[simp] theorem evX_len {ds : List D} : evX .len ds = evB .len ds := rfl
@[simp] theorem evX_tuple {ds : List D} : evX .tuple ds = evB .tuple ds := rfl
@[simp] theorem evX_list {ds : List D} : evX .list ds = evB .list ds := rfl
@[simp] theorem evX_sorted {ds : List D} : evX .sorted ds = evB .sorted ds := rfl
@[simp] theorem evX_min1 {ds : List D} : evX .min1 ds = evB .min1 ds := rfl
@[simp] theorem evX_max1 {ds : List D} : evX .max1 ds = evB .max1 ds := rfl
@[simp] theorem evX_min2 {ds : List D} : evX .min2 ds = evB .min2 ds := rfl
@[simp] theorem evX_max2 {ds : List D} : evX .max2 ds = evB .max2 ds := rfl
@[simp] theorem evX_all {ds : List D} : evX .all ds = evB .all ds := rfl
@[simp] theorem evX_any {ds : List D} : evX .any ds = evB .any ds := rfl
@[simp] theorem evX_sum {ds : List D} : evX .sum ds = evB .sum ds := rfl
@[simp] theorem evX_abs {ds : List D} : evX .abs ds = evB .abs ds := rfl
@[simp] theorem evX_int {ds : List D} : evX .int ds = evB .int ds := rfl
theorem evX_divmod {i j : Int} (h : 0 < j ∧ j < 1073741824) : evX .divmod [.int i, .int j] = some (.tup [.int (i / j), .int (i % j)]) := by unfold evX; exact cif_pos h
@[simp] theorem ty_non {t : Ty} : isTy .non t = some false := by rw [isTy]
@[simp] theorem ty_bl {t : Ty} {b : Bool} : isTy (.bl b) t = some (t == .int || t == .bool) := by rw [isTy]
@[simp] theorem ty_int {t : Ty} {i : Int} : isTy (.int i) t = some (t == .int) := by rw [isTy]
@[simp] theorem ty_str {t : Ty} {i : Str} : isTy (.str i) t = some (t == .str) := by rw [isTy]
@[simp] theorem ty_tup {t : Ty} : isTy (.tup xs) t = some (t == .tuple) := by rw [isTy]
@[simp] theorem ty_lst {t : Ty} : isTy (.lst xs) t = some (t == .list) := by rw [isTy]
@[simp] theorem ty_dic {t : Ty} : isTy (.dic xs ys) t = some (t == .dict) := by rw [isTy]
@[simp] theorem ty_T {t : Ty} {u : Tl} : isTy (T u) t = some (t == .tuple) := by rw [T, isTy]
@[simp] theorem ty_Ts {t : Ty} {u : List Tl} : isTy (Ts u) t = some (t == .tuple) := by rw [Ts, isTy]
@[simp] theorem ty_FL {t : Ty} {u : List (List Int)} : isTy (FL u) t = some (t == .tuple) := by rw [FL, isTy]
/-! built-ins on typed data -/
@[simp] theorem tup_Ts {ts : List Tl} : evB .tuple [Ts ts] = some (Ts ts) := rfl
@[simp] theorem list_Ts {ts : List Tl} : evB .list [Ts ts] = some (.lst (ts.map T)) := rfl
@[simp] theorem list_lst : evB .list [.lst xs] = some (.lst xs) := rfl
@[simp] theorem list_tup : evB .list [.tup xs] = some (.lst xs) := rfl
@[simp] theorem list_dic : evB .list [.dic xs ys] = some (.lst xs) := rfl
@[simp] theorem int_int {i : Int} : evB .int [.int i] = some (.int i) := rfl
@[simp] theorem sorted_lst : evB .sorted [.lst xs] = (sortD xs).map .lst := rfl
@[simp] theorem sorted_tup : evB .sorted [.tup xs] = (sortD xs).map .lst := rfl
@[simp] theorem sorted_dic : evB .sorted [.dic xs ys] = (sortD xs).map .lst := rfl
@[simp] theorem sorted_Ts {ts : List Tl} : evB .sorted [Ts ts] = (sortD (ts.map T)).map .lst := rfl
@[simp] theorem max1_lst : evB .max1 [.lst xs] = maxD xs := rfl
@[simp] theorem min1_lst : evB .min1 [.lst xs] = minD xs := rfl
@[simp] theorem min2_int {a b : Int} : evB .min2 [.int a, .int b] = some (.int (if b < a then b else a)) := rfl
theorem blsD_map {f : α → Bool} : ∀ as : List α, blsD (as.map fun a => .bl (f a)) = some (as.map f)
  | [] => rfl
  | a :: as => by rw [List.map_cons, blsD, blsD_map as]; rfl
@[simp] theorem all_map {f : α → Bool} {as : List α} : evB .all [.lst (as.map fun a => .bl (f a))] = some (.bl (as.all f)) := by
  show (blsD _).map _ = _
  rw [blsD_map, Option.map_some, List.all_map]
  rfl
@[simp] theorem any_map {f : α → Bool} {as : List α} : evB .any [.lst (as.map fun a => .bl (f a))] = some (.bl (as.any f)) := by
  show (blsD _).map _ = _
  rw [blsD_map, Option.map_some, List.any_map]
  rfl
theorem intsD_map {f : α → Int} : ∀ as : List α, intsD (as.map fun a => .int (f a)) = some (as.map f)
  | [] => rfl
  | a :: as => by rw [List.map_cons, intsD, intsD_map as]; rfl
@[simp] theorem sum_map {f : α → Int} {as : List α} : evB .sum [.lst (as.map fun a => .int (f a))] = some (.int (as.map f).sum) := by
  show (intsD _).map _ = _
  rw [intsD_map]
  rfl
noncomputable def binX (op : BOp) (a b : D) : Option D := match op, a, b with
  | .mul, .int i, .int j => cif ((-BIG < i ∧ i < BIG) ∨ (-BIG < j ∧ j < BIG)) (some (.int (i * j))) none
  | .mod, .int i, .int j => cif (0 < j) (some (.int (i % j))) none
  | .fdiv, .int i, .int j => cif (0 < j ∧ j < 1073741824) (some (.int (i / j))) none
  | .pow, .int i, .int j => cif (0 ≤ j ∧ j ≤ 1000000 ∧ i.natAbs < 18446744073709551616) (some (.int (i ^ j.toNat))) none
  | op, a, b => binD op a b
theorem binX_eq {op : BOp} {a b : D} : binD op a b = binX op a b := by
  unfold binX
  split <;> (try simp only [cif_eq]) <;> rfl
@[simp] theorem em_bin {op : BOp} {a b : E} : evE Γ (.bin op a b) ρ M = bnd (evE Γ a ρ M) fun x M1 => bnd (evE Γ b ρ M1) fun y M2 => ofO (binX op (drf M2 x) (drf M2 y)) M2 := by
  rw [evE]
  congr 1
  funext x M1
  congr 1
  funext y M2
  rw [binX_eq]
theorem bin_mod {i j : Int} (h : 0 < j) : binX .mod (.int i) (.int j) = some (.int (i % j)) := by unfold binX; exact cif_pos h
theorem bin_fdiv {i j : Int} (h : 0 < j ∧ j < 1073741824) : binX .fdiv (.int i) (.int j) = some (.int (i / j)) := by unfold binX; exact cif_pos h
theorem bin_mulc {i j : Int} (h : 0 ≤ j ∧ j ≤ 10000000000) : binX .mul (.int i) (.int j) = some (.int (i * j)) := by
  unfold binX
  exact cif_pos (by unfold BIG; omega)
theorem bin_mulc' {i j : Int} (h : 0 ≤ i ∧ i ≤ 10000000000) : binX .mul (.int i) (.int j) = some (.int (i * j)) := by
  unfold binX
  exact cif_pos (by unfold BIG; omega)
@[simp] theorem bin_add {i j : Int} : binX .add (.int i) (.int j) = some (.int (i + j)) := rfl
@[simp] theorem bin_sub {i j : Int} : binX .sub (.int i) (.int j) = some (.int (i - j)) := rfl
theorem bin_mul {i j : Int} (h : 0 ≤ i ∧ i ≤ 1000000) : binX .mul (.int i) (.int j) = some (.int (i * j)) := by
  unfold binX
  dsimp only
  rw [cif_pos (by unfold BIG; omega)]
@[simp] theorem bin_mulN {i : Nat} {j : Int} (h : i ≤ 100000) : binX .mul (.int i) (.int j) = some (.int (i * j)) := bin_mul (by omega)
@[simp] theorem bin_tup (h : Small xs ∧ Small ys) : binX .add (.tup xs) (.tup ys) = some (.tup (xs ++ ys)) := by
  rw [← binX_eq]
  unfold binD
  dsimp only
  rw [if_pos]
  have := h.1
  have := h.2
  unfold Small SZ at *
  omega
@[simp] theorem bin_lst (h : Small xs ∧ Small ys) : binX .add (.lst xs) (.lst ys) = some (.lst (xs ++ ys)) := by
  rw [← binX_eq]
  unfold binD
  dsimp only
  rw [if_pos]
  have := h.1
  have := h.2
  unfold Small SZ at *
  omega
@[simp] theorem bin_Ts {as bs : List Tl} (h : Small as ∧ Small bs) : binX .add (Ts as) (Ts bs) = some (Ts (as ++ bs)) := by
  unfold Ts
  rw [bin_tup (by simpa using h), List.map_append]
@[simp] theorem in_Ts {t : Tl} {ts : List Tl} : inD (T t) (Ts ts) = some (decide (t ∈ ts)) := inTs
theorem eqD_lst {n : Nat} {xs ys : List D} (hn : n ≤ 50) (h : xs.all (itD n) = true) (h2 : ys.all (itD n) = true) : eqD (.lst xs) (.lst ys) = some (decide (xs = ys)) := by
  obtain ⟨ps, e, l⟩ := toPys_of (toPy_of n) xs h
  obtain ⟨qs, e2, _⟩ := toPys_of (toPy_of n) ys h2
  have e' : toPy (.lst xs) = some (.list ps) := by rw [toPy, e]; rfl
  have e2' : toPy (.lst ys) = some (.list qs) := by rw [toPy, e2]; rfl
  unfold eqD
  split
  · rename_i e3 _; cases e3
  · rw [e', e2']
    dsimp only
    have l2 : (PyData.list ps).depth ≤ DEEP := by rw [PyData.depth]; unfold DEEP; omega
    rw [if_pos l2, PyData.eqv, eqvs_of (eqv_of n) xs ys ps qs h h2 e e2]
theorem itT {ts : List Tl} : (ts.map T).all (itD 1) = true := List.all_eq_true.mpr fun x hx => by
  obtain ⟨t, _, rfl⟩ := List.mem_map.mp hx
  rfl
theorem itTs (ts : List Tl) : itD 2 (Ts ts) = true := by unfold Ts; rw [itD_tup]; exact itT
theorem itTss {ls : List (List Tl)} : (ls.map Ts).all (itD 2) = true := List.all_eq_true.mpr fun x hx => by
  obtain ⟨t, _, rfl⟩ := List.mem_map.mp hx
  exact itTs t
@[simp] theorem eqD_lTnil {ts : List Tl} : eqD (.lst (ts.map T)) (.lst []) = some (decide (ts = [])) := by
  rw [eqD_lst (by omega) itT rfl]
  simp
@[simp] theorem eqD_lTsnil {ts : List (List Tl)} : eqD (.lst (ts.map Ts)) (.lst []) = some (decide (ts = [])) := by
  rw [eqD_lst (by omega) itTss rfl]
  simp
@[simp] theorem eqD_lnil : eqD (.lst []) (.lst []) = some true := by rw [eqD_lst (n := 0) (by omega) rfl rfl]; simp
theorem decide_T {t : Tl} {ts : List Tl} : decide (T t ∈ ts.map T) = decide (t ∈ ts) := by
  rw [Bool.eq_iff_iff, decide_eq_true_iff, decide_eq_true_iff, List.mem_map]
  exact ⟨fun ⟨u, hu, e⟩ => T_inj e ▸ hu, fun h => ⟨t, h, rfl⟩⟩
@[simp] theorem in_lstT {t : Tl} {ts : List Tl} : inD (T t) (.lst (ts.map T)) = some (decide (t ∈ ts)) := by
  rw [inD_lst (n := 1) (by omega) rfl (List.all_eq_true.mpr fun x hx => by
    obtain ⟨t, _, rfl⟩ := List.mem_map.mp hx
    rfl), decide_T]
@[simp] theorem in_dicT {t : Tl} {ts : List Tl} {vs : List D} : inD (T t) (.dic (ts.map T) vs) = some (decide (t ∈ ts)) := by
  unfold inD
  dsimp only
  rw [if_pos (keyOk_of (keyT t) fun x hx => by
    obtain ⟨b, _, rfl⟩ := List.mem_map.mp hx
    exact keyT b), decide_T]
theorem dget_map {f : Tl → D} {t : Tl} : ∀ {ts : List Tl}, t ∈ ts → dget (ts.map T) (ts.map f) (T t) = some (f t)
  | u :: ts, h => by
    rw [List.map_cons, List.map_cons, dget]
    by_cases e : t = u
    · subst e; rw [if_pos rfl]
    · rw [if_neg fun z => e (T_inj z)]
      exact dget_map ((List.mem_cons.mp h).resolve_left e)
@[simp] theorem ix_dicT {f : Tl → D} {t : Tl} {ts : List Tl} (h : t ∈ ts) : ixD (.dic (ts.map T) (ts.map f)) (T t) = some (f t) := by
  unfold ixD
  dsimp only
  rw [if_pos (keyOk_of (keyT t) fun x hx => by
    obtain ⟨b, _, rfl⟩ := List.mem_map.mp hx
    exact keyT b), dget_map h]
@[simp] theorem ix_tup0 {x : D} : ixD (.tup (x :: xs)) (.int 0) = some x := by
  show L2.atI _ _ = _
  unfold L2.atI L2.ixN
  simp
@[simp] theorem ix_tup1 {x y : D} : ixD (.tup (x :: y :: xs)) (.int 1) = some y := by
  show L2.atI _ _ = _
  unfold L2.atI L2.ixN
  rw [if_pos (by omega), if_pos (by simp; omega)]
  rfl
theorem ix_lstN {n : Nat} (h : xs[n]? = some d) : ixD (.lst xs) (.int n) = some d := atI_nat h
theorem ix_tupN {n : Nat} (h : xs[n]? = some d) : ixD (.tup xs) (.int n) = some d := atI_nat h
theorem atI_last {α : Type} {xs : List α} {x : α} (h : xs.getLast? = some x) : L2.atI xs (-1) = some x := by
  have hne : xs ≠ [] := by intro e; rw [e] at h; cases h
  have hl : 0 < xs.length := List.length_pos_iff.mpr hne
  unfold L2.atI L2.ixN
  rw [if_neg (by omega), if_pos (by omega), Option.bind_some]
  rw [List.getLast?_eq_getElem?] at h
  rw [← h]
  congr 1
  omega
theorem ix_lst_last (h : xs.getLast? = some d) : ixD (.lst xs) (.int (-1)) = some d := atI_last h
theorem ix_tup_last (h : xs.getLast? = some d) : ixD (.tup xs) (.int (-1)) = some d := atI_last h
end
end Pv

end T_Mk
section T_Ml
/-! Ml: neighbours, webs. -/
namespace Sp
open PySem Pv
def need (fl : List (List Int)) (t : Tl) : Int := ((fl[t.1.toNat]?.getD [])[t.2.toNat]?).getD 0
def near4 (t : Tl) : List Tl := [(t.1 - 1, t.2), (t.1, t.2 - 1), (t.1, t.2 + 1), (t.1 + 1, t.2)]
def beside (h w : Nat) (t : Tl) : List Tl := (near4 t).filter fun u => decide (u ∈ tilesN h w)
def webV (h w : Nat) (fl : List (List Int)) (t : Tl) : D := .tup [.int (need fl t), .lst ((beside h w t).map T)]
def webD (h w : Nat) (fl : List (List Int)) : D := .dic ((tilesN h w).map T) ((tilesN h w).map (webV h w fl))
@[simp] theorem drf_webD {h w : Nat} {fl : List (List Int)} {M : List C} : drf M (webD h w fl) = webD h w fl := rfl
@[simp] theorem exR_webD {h w : Nat} {fl : List (List Int)} {M : List C} : exR (webD h w fl) M = some (.ok ((tilesN h w).map T, none), M) := rfl
theorem flat_webD {h w : Nat} {fl : List (List Int)} : flatD (webD h w fl) = true := by
  have e : flatDs ((tilesN h w).map T) = true := flatTs _
  rw [webD, flat_dic, e, flats_all]
  refine List.all_eq_true.mpr fun x hx => ?_
  obtain ⟨t, _, rfl⟩ := List.mem_map.mp hx
  rw [webV, flat_tup, flats_cons, flats_cons, flat_int, flat_lst]
  rw [show flatDs ((beside h w t).map T) = true from flatTs _]
  rfl
theorem small_tiles {h w : Nat} {fl : List (List Int)} (ok : OkF h w fl) : Small (tilesN h w) := by
  unfold Small
  rw [len_tilesN]
  have := ok.few
  omega
theorem beside_sym {h w : Nat} {t u : Tl} (ht : t ∈ tilesN h w) (hu : u ∈ tilesN h w) : t ∈ beside h w u ↔ u ∈ beside h w t := by
  unfold beside near4
  simp only [List.mem_filter, decide_eq_true_eq, ht, hu, and_true, List.mem_cons, List.not_mem_nil, or_false]
  obtain ⟨a, b⟩ := t
  obtain ⟨c, d⟩ := u
  simp only [Prod.mk.injEq]
  omega
theorem beside_nodup {h w : Nat} {t : Tl} : (beside h w t).Nodup := by
  refine List.Pairwise.filter _ ?_
  obtain ⟨a, b⟩ := t
  unfold near4
  simp
  omega
theorem beside_in {h w : Nat} {t u : Tl} (m : u ∈ beside h w t) : u ∈ tilesN h w := by
  unfold beside at m
  rw [List.mem_filter] at m
  exact of_decide_eq_true m.2
theorem beside_len {h w : Nat} {t : Tl} : (beside h w t).length ≤ 4 := Nat.le_trans (List.length_filter_le _ _) (by unfold near4; simp)
end Sp
namespace Pv
open PySem
theorem frz_of {M : List C} {d z : D} (h : drf M d = z) (hf : flatD z = true) : frz M d = some z := by
  unfold frz
  rw [h]
  dsimp only
  rw [if_pos hf]
theorem run_cell {Φ : Str → Option Fn} {G : Str → Option D} {n : Nat} {x : Str} {f : Fn} {ds as : List D} {kw : List (Str × D)} {M M' : List C} {d z : D} (h : Φ x = some f) (hb : bindA f.ps ds kw = some as) (hp : f.pure = true) (hf : flatDs as = true)
    (e : endF (evSs ⟨run Φ G n, G⟩ f.body (startE f.many as) []) = some (.ok d, M')) (hd : frz M' d = some z) : run Φ G (n + 1) x ds kw M = some (.ok z, M) := by
  rw [run, h]
  dsimp only
  rw [hb]
  dsimp only
  rw [runB, hp, hf]
  rw [if_pos (show (true && true) = true from rfl), e, frzR, hd]
end Pv

end T_Ml
section T_S1
set_option maxRecDepth 10000
namespace Sp
open PySem Pv PvK
theorem s_is_whole (n : Nat) (i : Int) (M : List C) : Pv.run Φ G (n + 1) "is_whole" [.int i] [] M = some (.ok (.bl true), M) :=
  run_pure F_is_whole rfl rfl rfl (M' := []) rfl rfl
@[simp] theorem s_is_number (n : Nat) (i a b : Int) (M : List C) : Pv.run Φ G (n + 2) "is_number" [.int i, .int a, .int b] [] M = some (.ok (.bl (decide (a ≤ i ∧ i ≤ b))), M) := by
  refine run_pure (M' := []) F_is_number rfl rfl rfl ?_ rfl
  by_cases h : i < a
  · simp (maxDischargeDepth := 9) +contextual [-Prod.forall, f_is_number, b_is_number, startE, s_is_whole, h]; omega
  · simp (maxDischargeDepth := 9) +contextual [-Prod.forall, f_is_number, b_is_number, startE, s_is_whole, h]; rw [Bool.eq_iff_iff]; simp; omega
@[simp] theorem s_is_number0 (n : Nat) (i a : Int) (M : List C) : Pv.run Φ G (n + 2) "is_number" [.int i, .int a, .non] [] M = some (.ok (.bl (decide (a ≤ i))), M) := by
  refine run_pure (M' := []) F_is_number rfl rfl rfl ?_ rfl
  by_cases h : i < a
  · simp (maxDischargeDepth := 9) +contextual [-Prod.forall, f_is_number, b_is_number, startE, s_is_whole, h]
  · simp (maxDischargeDepth := 9) +contextual [-Prod.forall, f_is_number, b_is_number, startE, s_is_whole, h]; omega
theorem t_tiles_of {Γ : Pv.Ctx} {h w : Nat} {fl : List (List Int)} (ok : OkF h w fl) : endF (evSs Γ b_tiles_of [some (FL fl), none, none] []) = some (.ok (Ts (tilesN h w)), []) := by
  obtain ⟨xs, e0, l0⟩ := ok.ix0
  have q1 : h ≤ 100000 := by have := ok.h6; omega
  have q2 : w ≤ 100000 := by have := ok.w6; omega
  have hl := ok.len
  rw [b_tiles_of, evs_cons, evs_ret, em_blt, em_cons, em_lc2 (xs := (List.range h).map fun (i : Nat) => D.int i) (ys := (tilesN h w).map T) (by simp (maxDischargeDepth := 9) +contextual [-Prod.forall, hl, q1])]
  · simp
  · rw [← flatMap_tiles]
    simp (maxDischargeDepth := 9) +contextual [-Prod.forall, mlc2B, e0, l0, q2, List.flatMap_map]
  · simp (maxDischargeDepth := 9) +contextual [-Prod.forall, Small, len_tilesN]; have := ok.few; omega
@[simp] theorem s_tiles_of (n : Nat) {h w : Nat} {fl : List (List Int)} (ok : OkF h w fl) (M : List C) : Pv.run Φ G (n + 1) "tiles_of" [FL fl] [] M = some (.ok (Ts (tilesN h w)), M) :=
  run_pure F_tiles_of rfl rfl (by simp (maxDischargeDepth := 9) +contextual [-Prod.forall, flatFL]) (t_tiles_of ok) (flatTs _)
@[simp] theorem s_is_tuple_of (n : Nat) (t : Tl) (M : List C) : Pv.run Φ G (n + 1) "is_tuple_of" [T t, .int 2] [] M = some (.ok (.bl true), M) :=
  run_pure F_is_tuple_of rfl rfl rfl (M' := []) rfl rfl
@[simp] theorem s_is_tile_of (n : Nat) (h w : Int) (t : Tl) (M : List C) : Pv.run Φ G (n + 3) "is_tile_of" [.int h, .int w, T t] [] M = some (.ok (.bl (decide ((0 ≤ t.1 ∧ t.1 ≤ h - 1) ∧ 0 ≤ t.2 ∧ t.2 ≤ w - 1))), M) := by
  refine run_pure (M' := []) F_is_tile_of rfl rfl (by simp (maxDischargeDepth := 9) +contextual [-Prod.forall, flatT]) ?_ rfl
  by_cases h1 : 0 ≤ t.1 ∧ t.1 ≤ h - 1
  · simp (maxDischargeDepth := 9) +contextual [-Prod.forall, f_is_tile_of, b_is_tile_of, startE, h1]
  · simp (maxDischargeDepth := 9) +contextual [-Prod.forall, f_is_tile_of, b_is_tile_of, startE, h1]
@[simp] theorem s_is_tile (n : Nat) {h w : Nat} {fl : List (List Int)} (ok : OkF h w fl) (t : Tl) (M : List C) : Pv.run Φ G (n + 4) "is_tile" [FL fl, T t] [] M = some (.ok (.bl (decide (t ∈ tilesN h w))), M) := by
  obtain ⟨xs, e0, l0⟩ := ok.ix0
  refine run_pure (M' := []) F_is_tile rfl rfl (by simp (maxDischargeDepth := 9) +contextual [-Prod.forall, flatT, flatFL]) ?_ rfl
  simp (maxDischargeDepth := 9) +contextual [-Prod.forall, f_is_tile, b_is_tile, startE, e0, l0, ok.len]
  rw [Bool.eq_iff_iff]
  simp (maxDischargeDepth := 9) +contextual [-Prod.forall, mem_tilesN]
  omega
theorem ix_need {h w : Nat} {fl : List (List Int)} (ok : OkF h w fl) {t : Tl} (m : t ∈ tilesN h w) : ∃ r : List Int, ixD (FL fl) (.int t.1) = some (.tup (r.map .int)) ∧ ixD (.tup (r.map .int)) (.int t.2) = some (.int (need fl t)) := by
  obtain ⟨a, b⟩ := t
  obtain ⟨h1, h2, h3, h4⟩ := mem_tilesN.mp m
  dsimp only at h1 h2 h3 h4 ⊢
  have l : a.toNat < fl.length := by have := ok.len; omega
  have l2 : b.toNat < (fl[a.toNat]).length := by have := ok.row _ (List.getElem_mem l); omega
  have ea : a = (a.toNat : Int) := by omega
  have eb : b = (b.toNat : Int) := by omega
  refine ⟨fl[a.toNat], ?_, ?_⟩
  · conv => lhs; rw [ea]
    exact ix_FL (List.getElem?_eq_getElem l)
  · conv => lhs; rw [eb]
    refine ix_row ?_
    unfold need
    dsimp only
    rw [List.getElem?_eq_getElem l, Option.getD_some, List.getElem?_eq_getElem l2, Option.getD_some]
@[simp] theorem s_need_in (n : Nat) {h w : Nat} {fl : List (List Int)} (ok : OkF h w fl) {t : Tl} (m : t ∈ tilesN h w) (M : List C) : Pv.run Φ G (n + 1) "need_in" [FL fl, T t] [] M = some (.ok (.int (need fl t)), M) := by
  obtain ⟨r, e1, e2⟩ := ix_need ok m
  refine run_pure (M' := []) F_need_in rfl rfl (by simp (maxDischargeDepth := 9) +contextual [-Prod.forall, flatT, flatFL]) ?_ rfl
  simp (maxDischargeDepth := 9) +contextual [-Prod.forall, f_need_in, b_need_in, startE, e1, e2]
@[simp] theorem s_beside_of (n : Nat) {h w : Nat} {fl : List (List Int)} (ok : OkF h w fl) (t : Tl) (M : List C) : Pv.run Φ G (n + 5) "beside_of" [FL fl, T t] [] M = some (.ok (.lst ((beside h w t).map T)), M) := by
  refine run_pure (M' := []) F_beside_of rfl rfl (by simp (maxDischargeDepth := 9) +contextual [-Prod.forall, flatT, flatFL]) ?_ (flatTs _)
  have e : [D.tup [D.int (t.fst - 1), D.int t.snd], D.tup [D.int t.fst, D.int (t.snd - 1)], D.tup [D.int t.fst, D.int (t.snd + 1)], D.tup [D.int (t.fst + 1), D.int t.snd]] = (near4 t).map T := rfl
  have hz : Small (near4 t) := by unfold Small near4; simp
  simp (maxDischargeDepth := 9) +contextual [-Prod.forall, f_beside_of, b_beside_of, startE, e, s_is_tile _ ok, hz]
  rfl
@[simp] theorem s_web_of (n : Nat) {h w : Nat} {fl : List (List Int)} (ok : OkF h w fl) (M : List C) : Pv.run Φ G (n + 6) "web_of" [FL fl] [] M = some (.ok (webD h w fl), M) := by
  refine run_pure (M' := []) F_web_of rfl rfl (by simp (maxDischargeDepth := 9) +contextual [-Prod.forall, flatFL]) ?_ flat_webD
  have hz : Small (tilesN h w) := small_tiles ok
  simp (maxDischargeDepth := 9) +contextual [-Prod.forall, f_web_of, b_web_of, startE, s_tiles_of _ ok, s_need_in _ ok, s_beside_of _ ok, nodup_tilesN, hz]
  rfl
end Sp

end T_S1
section T_Mm
/-! Mm: cells; while and for over states; the least closed lot by a work list. -/
namespace Pv
open PySem
section
variable {Γ : Ctx} {ρ : Env} {M : List C} {α β : Type} {d : D} {xs ys : List D}
def cellD (o : Option C) (n : Nat) : D := match o with
  | some (.lst xs) => .lst xs
  | some (.dic ks vs) => .dic ks vs
  | none => .cell n
@[simp] theorem cellD_lst {n : Nat} : cellD (some (.lst xs)) n = .lst xs := rfl
@[simp] theorem cellD_dic {n : Nat} : cellD (some (.dic xs ys)) n = .dic xs ys := rfl
@[simp] theorem drf_cell {n : Nat} : drf M (.cell n) = cellD M[n]? n := by unfold drf cellD; rfl
def exC (o : Option C) (n : Nat) (M : List C) : Res (List D × Option Nat) := match o with
  | some (.lst xs) => some (.ok (xs, some n), M)
  | _ => none
@[simp] theorem exC_lst {n : Nat} : exC (some (.lst xs)) n M = some (.ok (xs, some n), M) := rfl
@[simp] theorem exR_cell' {n : Nat} : exR (.cell n) M = exC M[n]? n M := rfl
def stR (o : Option C) (n : Nat) (y d : D) (ρ : Env) (M : List C) : Res Env := match (match o, y with
  | some (.lst xs), .int j => (L2.ixN xs.length j).map fun k => M.set n (.lst (xs.set k d))
  | some (.dic ks vs), k => if keyOk ks k ∧ ks.length < SZ then some (M.set n (.dic (dputK ks k) (dputV ks vs k d))) else none
  | _, _ => none) with
    | some M3 => some (.ok ρ, M3)
    | none => none
@[simp] theorem ixS_cell {n : Nat} {y : D} : ixS (.cell n) y d ρ M = stR M[n]? n y d ρ M := rfl
def apC (Γ : Ctx) (o : Option C) (e : E) (n : Nat) (ρ : Env) (M1 : List C) : SRes := match o with
  | some (.lst _) => bndS (evE Γ e ρ M1) ρ fun d M2 => (match M2[n]? with
        | some (.lst xs) => if xs.length < SZ then some (.next ρ, M2.set n (.lst (xs ++ [d]))) else none
        | _ => none)
  | _ => none
@[simp] theorem appR_cell {n : Nat} {e : E} : appR Γ e ρ (.cell n) M = apC Γ M[n]? e n ρ M := rfl
def apD (o : Option C) (n : Nat) (d : D) (ρ : Env) (M2 : List C) : SRes := match o with
  | some (.lst xs) => szl xs (some (.next ρ, M2.set n (.lst (xs ++ [d]))))
  | _ => none
@[simp] theorem apC_lst {n : Nat} {e : E} : apC Γ (some (.lst xs)) e n ρ M = bndS (evE Γ e ρ M) ρ fun d M2 => apD M2[n]? n d ρ M2 := rfl
@[simp] theorem apD_lst {n : Nat} : apD (some (.lst xs)) n d ρ M = szl xs (some (.next ρ, M.set n (.lst (xs ++ [d])))) := rfl
/-- a function with another value at one place -/
def updT {α β : Type} [DecidableEq α] (f : α → β) (t : α) (v : β) : α → β := fun u => if u = t then v else f u
theorem dputV_T {f : Tl → D} {t : Tl} : ∀ {ts : List Tl}, ts.Nodup → t ∈ ts → dputV (ts.map T) (ts.map f) (T t) d = ts.map (updT f t d)
  | u :: ts, hn, h => by
    rw [List.map_cons, List.map_cons, dputV]
    obtain ⟨h1, h2⟩ := List.nodup_cons.mp hn
    by_cases e : t = u
    · subst e
      rw [if_pos rfl, List.map_cons]
      congr 1
      · unfold updT; rw [if_pos rfl]
      · refine List.map_congr_left fun x hx => ?_
        unfold updT
        rw [if_neg (fun e : x = t => h1 (e ▸ hx))]
    · rw [if_neg fun z => e (T_inj z), dputV_T h2 ((List.mem_cons.mp h).resolve_left e), List.map_cons]
      congr 1
      unfold updT
      rw [if_neg fun z => e z.symm]
theorem memT {t : Tl} {ts : List Tl} : T t ∈ ts.map T ↔ t ∈ ts := by
  rw [List.mem_map]
  exact ⟨fun ⟨u, hu, e⟩ => T_inj e ▸ hu, fun h => ⟨t, h, rfl⟩⟩
theorem keyOkT {t : Tl} {ts : List Tl} : keyOk (ts.map T) (T t) = true := keyOk_of (keyT t) fun x hx => by
  obtain ⟨b, _, rfl⟩ := List.mem_map.mp hx
  exact keyT b
theorem lt_SZ {α : Type} {ts : List α} (h : Small ts) : ts.length < SZ := Nat.lt_of_le_of_lt h SZ_big
theorem stR_T {f : Tl → D} {t : Tl} {ts : List Tl} {n : Nat} (hn : ts.Nodup) (h : t ∈ ts) (hs : Small ts) : stR (some (.dic (ts.map T) (ts.map f))) n (T t) d ρ M = some (.ok ρ, M.set n (.dic (ts.map T) (ts.map (updT f t d)))) := by
  unfold stR
  dsimp only
  rw [if_pos ⟨keyOkT, by rw [List.length_map]; exact lt_SZ hs⟩, dputV_T hn h, dputK, if_pos (memT.mpr h)]
theorem stR_Tnew {f : Tl → D} {t : Tl} {ts : List Tl} {n : Nat} (h : t ∉ ts) (hs : Small ts) (hf : f t = d) : stR (some (.dic (ts.map T) (ts.map f))) n (T t) d ρ M = some (.ok ρ, M.set n (.dic ((ts ++ [t]).map T) ((ts ++ [t]).map f))) := by
  unfold stR
  dsimp only
  rw [if_pos ⟨keyOkT, by rw [List.length_map]; exact lt_SZ hs⟩, dputV_new (fun m => h (memT.mp m)) (by simp), dputK, if_neg (fun m => h (memT.mp m)), List.map_append, List.map_append, ← hf]
  rfl
/-! loops over states, for all readings of calls at once -/
theorem while_st {ι σ : Type} {c : ι → Env → List C → Res Bool} {body : ι → Env → List C → SRes} (st : σ → Env × List C) (I Q : σ → Prop) (μ : σ → Nat)
    (hs : ∀ s, I s → ((∀ i, c i (st s).1 (st s).2 = some (.ok false, (st s).2)) ∧ Q s) ∨ ((∀ i, c i (st s).1 (st s).2 = some (.ok true, (st s).2)) ∧ ∃ s', (∀ i, body i (st s).1 (st s).2 = some (.next (st s').1, (st s').2)) ∧ I s' ∧ μ s' < μ s)) :
    ∀ (n : Nat) s, I s → μ s < n → ∃ s', (∀ i, whileLoop (c i) (body i) n (st s).1 (st s).2 = some (.next (st s').1, (st s').2)) ∧ I s' ∧ Q s' := fun n => by
  induction n with
  | zero => intro s _ h; omega
  | succ n ih =>
    intro s hi hm
    rcases hs s hi with ⟨e, q⟩ | ⟨e, s', e2, i2, m2⟩
    · exact ⟨s, fun i => by rw [whileLoop, e i]; rfl, hi, q⟩
    · obtain ⟨s2, e3, i3⟩ := ih s' i2 (by omega)
      exact ⟨s2, fun i => by rw [whileLoop, e i, bndS_ok, if_pos rfl, e2 i, turnS_next]; exact e3 i, i3⟩
theorem for_st {ι σ : Type} {M0 : List C} {p : P} {em : α → D} {body : ι → Env → List C → SRes} (st : σ → Env × List C) (I : List α → List α → σ → Prop)
    (hs : ∀ xs y ys s, I xs (y :: ys) s → ∃ ρ1 s', bindP p (em y) (st s).1 = some ρ1 ∧ (∀ i, body i ρ1 (st s).2 = some (.next (st s').1, (st s').2)) ∧ I (xs ++ [y]) ys s') :
    ∀ (ys xs : List α) s, I xs ys s → ∃ s', (∀ i, forLoop none M0 p (body i) (ys.map em) (st s).1 (st s).2 = some (.next (st s').1, (st s').2)) ∧ I (xs ++ ys) [] s'
  | [], xs, s, h => ⟨s, fun i => by rw [List.map_nil, forLoop, if_pos (same_none _ _)], by rw [List.append_nil]; exact h⟩
  | y :: ys, xs, s, h => by
    obtain ⟨ρ1, s', e1, e2, h2⟩ := hs xs y ys s h
    obtain ⟨s2, e3, h3⟩ := for_st (M0 := M0) st I hs ys (xs ++ [y]) s' h2
    refine ⟨s2, fun i => ?_, by simpa using h3⟩
    rw [List.map_cons, forLoop, if_pos (same_none _ _), e1]
    dsimp only
    rw [e2, turnS_next, e3]
end
/-! the least closed lot by a work list -/
structure DI (tiles : List Tl) (bs : Tl → List Tl) (nd : Tl → Int) (first : List Tl) (k : Nat) (xs line : List Tl) (c : Tl → Int) : Prop where
  nodup : line.Nodup
  inT : ∀ t ∈ line, t ∈ tiles
  sup : ∀ t ∈ first, t ∈ line
  low : ∀ t ∈ tiles, t ∉ line → c t < nd t
  cnt : ∀ t ∈ tiles, c t = ((line.take k).countP (fun u => decide (t ∈ bs u)) : Int) + (xs.countP (fun u => decide (u = t)) : Int)
  least : ∀ S : List Tl, S.Nodup → (∀ t ∈ S, t ∈ tiles) → (∀ t ∈ first, t ∈ S) → Closed tiles bs nd S → ∀ t ∈ line, t ∈ S
section
variable {tiles first xs line : List Tl} {bs : Tl → List Tl} {nd : Tl → Int} {k : Nat} {c : Tl → Int}
theorem DI.start (hf : first.Nodup) (hi : ∀ t ∈ first, t ∈ tiles) (hn : tiles.Nodup) (h0 : ∀ t ∈ tiles, 0 ≤ nd t) : DI tiles bs nd first 0 [] (first ++ tiles.filter fun t => decide (nd t = 0 ∧ t ∉ first)) fun _ => 0 where
  nodup := by
    refine List.nodup_append.mpr ⟨hf, hn.filter _, fun a ha b hb e => ?_⟩
    rw [List.mem_filter] at hb
    exact (of_decide_eq_true hb.2).2 (e ▸ ha)
  inT := fun t ht => by
    rcases List.mem_append.mp ht with h | h
    · exact hi t h
    · exact (List.mem_filter.mp h).1
  sup := fun t h => List.mem_append_left _ h
  low := fun t ht hl => by
    have h1 : t ∉ first := fun m => hl (List.mem_append_left _ m)
    have h2 : nd t ≠ 0 := fun e => hl (List.mem_append_right _ (List.mem_filter.mpr ⟨ht, decide_eq_true ⟨e, h1⟩⟩))
    have := h0 t ht
    omega
  cnt := fun t ht => by simp
  least := fun S _ _ h3 h4 t ht => by
    rcases List.mem_append.mp ht with h | h
    · exact h3 t h
    · obtain ⟨q1, q2⟩ := List.mem_filter.mp h
      have q3 := (of_decide_eq_true q2).1
      rcases Classical.em (t ∈ S) with m | m
      · exact m
      · have := h4 t q1 m
        rw [q3] at this
        omega
/-- a neighbour is gone to -/
theorem DI.step {u o : Tl} {r : List Tl} (d : DI tiles bs nd first k xs line c) (hu : line[k]? = some u) (hb : bs u = xs ++ o :: r) (hn : (bs u).Nodup) (ho : o ∈ tiles) :
    DI tiles bs nd first k (xs ++ [o]) (if o ∉ line ∧ nd o ≤ c o + 1 then line ++ [o] else line) (updT c o (c o + 1)) := by
  have hk : k < line.length := (List.getElem?_eq_some_iff.mp hu).1
  have cnt' : ∀ t ∈ tiles, updT c o (c o + 1) t = ((line.take k).countP (fun u => decide (t ∈ bs u)) : Int) + ((xs ++ [o]).countP (fun u => decide (u = t)) : Int) := fun t ht => by
    unfold updT
    rw [List.countP_append]
    split
    · rename_i e
      subst e
      rw [d.cnt t ht]
      simp
      omega
    · rename_i e
      rw [d.cnt t ht]
      have : ¬ o = t := fun z => e z.symm
      simp [this]
  have take' : ∀ x : Tl, (line ++ [x]).take k = line.take k := fun x => by rw [List.take_append_of_le_length (Nat.le_of_lt hk)]
  split
  · rename_i q
    refine ⟨?_, ?_, fun t ht => List.mem_append_left _ (d.sup t ht), ?_, ?_, ?_⟩
    · exact List.nodup_append.mpr ⟨d.nodup, (by simp), fun a ha b hb e => q.1 (by rw [← List.mem_singleton.mp hb, ← e]; exact ha)⟩
    · intro t ht
      rcases List.mem_append.mp ht with h | h
      · exact d.inT t h
      · rw [List.mem_singleton.mp h]; exact ho
    · intro t ht hl
      have h1 : t ∉ line := fun m => hl (List.mem_append_left _ m)
      have h2 : t ≠ o := fun m => hl (List.mem_append_right _ (List.mem_singleton.mpr m))
      unfold updT
      rw [if_neg h2]
      exact d.low t ht h1
    · intro t ht
      rw [take']
      exact cnt' t ht
    · intro S s1 s2 s3 s4 t ht
      rcases List.mem_append.mp ht with h | h
      · exact d.least S s1 s2 s3 s4 t h
      · rw [List.mem_singleton.mp h]
        rcases Classical.em (o ∈ S) with m | m
        · exact m
        · exfalso
          have h1 := s4 o ho m
          have h2 := cnt_mono (bs := bs) (na := d.nodup) (fun x hx => d.least S s1 s2 s3 s4 x hx) o
          have h3 := d.cnt o ho
          have ou : o ∈ bs u := by rw [hb]; simp
          have x0 : xs.countP (fun u => decide (u = o)) = 0 := by
            rw [List.countP_eq_zero]
            intro x hx e
            rw [hb] at hn
            exact (List.nodup_append.mp hn).2.2 x hx o List.mem_cons_self (of_decide_eq_true e)
          have h4 : (line.take k).countP (fun u => decide (o ∈ bs u)) + 1 ≤ Pv.cnt bs line o := by
            have e := List.take_append_drop k line
            have e2 : line.drop k = u :: line.drop (k + 1) := by
              rw [List.drop_eq_getElem_cons hk]
              congr 1
              exact Option.some.inj ((List.getElem?_eq_getElem hk).symm.trans hu)
            unfold Pv.cnt
            conv => rhs; rw [← e]
            rw [List.countP_append, e2, List.countP_cons]
            simp [ou]
          have := q.2
          omega
  · rename_i q
    refine ⟨d.nodup, d.inT, d.sup, ?_, cnt', d.least⟩
    intro t ht hl
    unfold updT
    split
    · rename_i e
      subst e
      have : ¬ nd t ≤ c t + 1 := fun z => q ⟨hl, z⟩
      omega
    · exact d.low t ht hl
/-- all neighbours of one tile are done -/
theorem DI.turn {u : Tl} (d : DI tiles bs nd first k (bs u) line c) (hu : line[k]? = some u) (hn : (bs u).Nodup) : DI tiles bs nd first (k + 1) [] line c := by
  refine ⟨d.nodup, d.inT, d.sup, d.low, fun t ht => ?_, d.least⟩
  rw [d.cnt t ht, List.take_succ, hu, Option.toList_some, List.countP_append]
  have : (bs u).countP (fun u => decide (u = t)) = if t ∈ bs u then 1 else 0 := by
    have := hn.count (a := t)
    unfold List.count at this
    rw [← this]
    congr 1
    funext x
    rw [Bool.eq_iff_iff]
    simp
  rw [this]
  simp
theorem DI.done (d : DI tiles bs nd first k [] line c) (hk : line.length ≤ k) : Least tiles bs nd first line := by
  refine ⟨d.nodup, d.inT, d.sup, fun t ht hl => ?_, d.least⟩
  have h1 := d.cnt t ht
  rw [List.take_of_length_le hk] at h1
  have h2 := d.low t ht hl
  unfold Pv.cnt
  simp at h1
  omega
theorem DI.len (d : DI tiles bs nd first k xs line c) : line.length ≤ tiles.length := List.Nodup.length_le_of_subset d.nodup fun t ht => d.inT t ht
end
end Pv

end T_Mm
section T_Mn
/-! Mn: lots in their order; rounds; the end. -/
namespace Pv
open PySem
def tlt (a b : Tl) : Prop := a.1 < b.1 ∨ (a.1 = b.1 ∧ a.2 < b.2)
instance (a b : Tl) : Decidable (tlt a b) := by unfold tlt; infer_instance
theorem lt_T (a b : Tl) : lt (T a) (T b) = decide (tlt a b) := by
  unfold lt
  exact W.dataLt_ii a.1 a.2 b.1 b.2
theorem leD_T (a b : Tl) : leD (T a) (T b) = decide (¬ tlt b a) := by rw [leD_eq, lt_T]; simp
theorem tilesN_sorted {h w : Nat} : (tilesN h w).Pairwise tlt := by
  unfold tilesN
  rw [List.pairwise_flatMap]
  refine ⟨fun r _ => ?_, ?_⟩
  · rw [List.pairwise_map]
    refine List.pairwise_lt_range.imp ?_
    intro a b hab
    exact .inr ⟨rfl, by show (a : Int) < b; omega⟩
  · refine List.pairwise_lt_range.imp ?_
    intro a b hab x hx y hy
    obtain ⟨c, _, rfl⟩ := List.mem_map.mp hx
    obtain ⟨d, _, rfl⟩ := List.mem_map.mp hy
    exact .inl (by show (a : Int) < b; omega)
theorem tlt_asymm {a b : Tl} (h : tlt a b) : ¬ tlt b a := by unfold tlt at *; omega
theorem tlt_total {a b : Tl} (h : ¬ tlt a b) (h2 : ¬ tlt b a) : a = b := by
  unfold tlt at *
  refine Prod.ext ?_ ?_ <;> omega
theorem sorted_eq {as bs : List Tl} (ha : as.Pairwise tlt) (hb : bs.Pairwise tlt) (hm : ∀ t, t ∈ as ↔ t ∈ bs) : as = bs := by
  have na : as.Nodup := ha.imp fun h e => by subst e; exact tlt_asymm h h
  have nb : bs.Nodup := hb.imp fun h e => by subst e; exact tlt_asymm h h
  exact List.Perm.eq_of_pairwise (fun a b _ _ h h2 => absurd h2 (tlt_asymm h)) ha hb ((List.perm_ext_iff_of_nodup na nb).mpr hm)
/-- the lot of the tiles of some -/
def lot (h w : Nat) (S : List Tl) : List Tl := (tilesN h w).filter fun t => decide (t ∈ S)
theorem mem_lot {h w : Nat} {S : List Tl} {t : Tl} : t ∈ lot h w S ↔ t ∈ tilesN h w ∧ t ∈ S := by unfold lot; rw [List.mem_filter, decide_eq_true_iff]
theorem filter_sorted {h w : Nat} {p : Tl → Bool} : ((tilesN h w).filter p).Pairwise tlt := tilesN_sorted.filter p
theorem lot_sorted {h w : Nat} {S : List Tl} : (lot h w S).Pairwise tlt := filter_sorted
theorem nodup_of_sorted {as : List Tl} (ha : as.Pairwise tlt) : as.Nodup := ha.imp fun h e => by subst e; exact tlt_asymm h h
theorem lot_nodup {h w : Nat} {S : List Tl} : (lot h w S).Nodup := nodup_of_sorted lot_sorted
/-- an ascending tuple of tiles -/
def IsLot (h w : Nat) (L : List Tl) : Prop := L.Pairwise tlt ∧ ∀ t ∈ L, t ∈ tilesN h w
theorem IsLot.nodup {h w : Nat} {L : List Tl} (l : IsLot h w L) : L.Nodup := nodup_of_sorted l.1
theorem IsLot.eq {h w : Nat} {L : List Tl} (l : IsLot h w L) : lot h w L = L := sorted_eq lot_sorted l.1 fun t => by rw [mem_lot]; exact ⟨fun h => h.2, fun h => ⟨l.2 t h, h⟩⟩
theorem isLot_lot {h w : Nat} {S : List Tl} : IsLot h w (lot h w S) := ⟨lot_sorted, fun t m => (mem_lot.mp m).1⟩
theorem isLot_filter {h w : Nat} {p : Tl → Bool} : IsLot h w ((tilesN h w).filter p) := ⟨filter_sorted, fun t m => (List.mem_filter.mp m).1⟩
theorem IsLot.ext {h w : Nat} {A B : List Tl} (a : IsLot h w A) (b : IsLot h w B) (hm : ∀ t, t ∈ A ↔ t ∈ B) : A = B := sorted_eq a.1 b.1 hm
theorem IsLot.len {h w : Nat} {L : List Tl} (l : IsLot h w L) : L.length ≤ h * w := by rw [← len_tilesN (h := h) (w := w)]; exact List.Nodup.length_le_of_subset l.nodup fun t m => l.2 t m
theorem allT {ts : List Tl} : (ts.map T).all (hasSh (.two .int .int)) = true := List.all_eq_true.mpr fun x hx => by
  obtain ⟨t, _, rfl⟩ := List.mem_map.mp hx
  rfl
theorem fullT {ts : List Tl} : (ts.map T).all full = true := List.all_eq_true.mpr fun x hx => by
  obtain ⟨t, _, rfl⟩ := List.mem_map.mp hx
  rfl
/-- sorted(tiles) -/
theorem sortT {h w : Nat} {L : List Tl} (hn : L.Nodup) (hi : ∀ t ∈ L, t ∈ tilesN h w) : sortD (L.map T) = some ((lot h w L).map T) := by
  rw [sortD_sh (s := .two .int .int) allT (by decide) (.inl (.inr fullT))]
  congr 1
  have hp : ((lot h w L).map T).Perm (L.map T) := ((List.perm_ext_iff_of_nodup lot_nodup hn).mpr fun t => by rw [mem_lot]; exact ⟨fun h => h.2, fun h => ⟨hi t h, h⟩⟩).map T
  refine List.Perm.eq_of_pairwise (le := fun a b => leD a b = true) (fun a b ha hb h1 h2 => ?_) (sort_sorted _) ?_ ((sort_perm _).trans hp.symm)
  · have ha := (sort_perm _).mem_iff.mp ha
    obtain ⟨x, hx, rfl⟩ := List.mem_map.mp ha
    obtain ⟨y, hy, rfl⟩ := List.mem_map.mp hb
    rw [leD_T, decide_eq_true_iff] at h1 h2
    rw [tlt_total h2 h1]
  · rw [List.pairwise_map]
    refine lot_sorted.imp fun h => ?_
    rw [leD_T]
    exact decide_eq_true (tlt_asymm h)
end Pv
namespace Sp
open Pv PySem
/-- how many neighbours are in a lot -/
def cin (h w : Nat) (L : List Tl) (t : Tl) : Nat := (beside h w t).countP fun u => decide (u ∈ L)
theorem cin_eq {h w : Nat} {L : List Tl} {t : Tl} (hn : L.Nodup) (hi : ∀ t ∈ L, t ∈ tilesN h w) (ht : t ∈ tilesN h w) : cnt (beside h w) L t = cin h w L t := by
  unfold cnt cin
  rw [List.countP_eq_length_filter, List.countP_eq_length_filter]
  refine ((List.perm_ext_iff_of_nodup (hn.filter _) (beside_nodup.filter _)).mpr fun u => ?_).length_eq
  rw [List.mem_filter, List.mem_filter, decide_eq_true_iff, decide_eq_true_iff]
  exact ⟨fun ⟨h1, h2⟩ => ⟨(beside_sym ht (hi u h1)).mp h2, h1⟩, fun ⟨h1, h2⟩ => ⟨h2, (beside_sym ht (hi u h2)).mpr h1⟩⟩
theorem cin_mono {h w : Nat} {A B : List Tl} {t : Tl} (hs : ∀ u ∈ A, u ∈ B) : cin h w A t ≤ cin h w B t := by
  unfold cin
  refine List.countP_mono_left fun u _ hu => ?_
  rw [decide_eq_true_iff] at *
  exact hs u hu
/-- who gets damp in one round -/
def newT (h w : Nat) (nd : Tl → Int) (L : List Tl) : List Tl := (tilesN h w).filter fun t => decide (t ∉ L ∧ nd t ≤ cin h w L t)
def rnd (h w : Nat) (nd : Tl → Int) (first : List Tl) : Nat → List Tl
  | 0 => lot h w first
  | k + 1 => lot h w (rnd h w nd first k ++ newT h w nd (rnd h w nd first k))
def endN (h w : Nat) (nd : Tl → Int) (first : List Tl) : List Tl := rnd h w nd first (h * w)
section
variable {h w : Nat} {nd : Tl → Int} {first : List Tl}
theorem rnd_lot (k : Nat) : IsLot h w (rnd h w nd first k) := by cases k <;> exact isLot_lot
theorem rnd_mono {k : Nat} {t : Tl} (m : t ∈ rnd h w nd first k) : t ∈ rnd h w nd first (k + 1) := mem_lot.mpr ⟨(rnd_lot k).2 t m, List.mem_append_left _ m⟩
theorem rnd_le {j k : Nat} (l : j ≤ k) {t : Tl} (m : t ∈ rnd h w nd first j) : t ∈ rnd h w nd first k := by
  induction k with
  | zero => cases Nat.le_zero.mp l; exact m
  | succ k ih =>
    rcases Nat.lt_or_ge j (k + 1) with l2 | l2
    · exact rnd_mono (ih (by omega))
    · have : j = k + 1 := by omega
      rw [← this]; exact m
theorem rnd_stop {k : Nat} (e : newT h w nd (rnd h w nd first k) = []) : ∀ j, rnd h w nd first (k + j) = rnd h w nd first k := fun j => by
  induction j with
  | zero => rfl
  | succ j ih =>
    show lot h w (rnd h w nd first (k + j) ++ newT h w nd (rnd h w nd first (k + j))) = _
    rw [ih, e, List.append_nil]
    exact (rnd_lot k).eq
theorem rnd_grow {k : Nat} (e : newT h w nd (rnd h w nd first k) ≠ []) : (rnd h w nd first k).length < (rnd h w nd first (k + 1)).length := by
  obtain ⟨t, ht⟩ := List.exists_mem_of_ne_nil _ e
  have ht' := List.mem_filter.mp ht
  have h1 := (of_decide_eq_true ht'.2).1
  have : (t :: rnd h w nd first k).length ≤ (rnd h w nd first (k + 1)).length := by
    refine List.Nodup.length_le_of_subset (List.nodup_cons.mpr ⟨h1, (rnd_lot k).nodup⟩) fun u hu => ?_
    rcases List.mem_cons.mp hu with rfl | hu
    · exact mem_lot.mpr ⟨ht'.1, List.mem_append_right _ ht⟩
    · exact rnd_mono hu
  rw [List.length_cons] at this
  omega
theorem rnd_long : ∀ k, (∀ j, j < k → newT h w nd (rnd h w nd first j) ≠ []) → k ≤ (rnd h w nd first k).length
  | 0, _ => Nat.zero_le _
  | k + 1, e => by
    have := rnd_long k fun j hj => e j (by omega)
    have := rnd_grow (e k (by omega))
    omega
theorem rnd_closed : ∃ k, k ≤ h * w ∧ newT h w nd (rnd h w nd first k) = [] := by
  refine Classical.byContradiction fun n => ?_
  have := rnd_long (h := h) (w := w) (nd := nd) (first := first) (h * w + 1) fun j hj e => n ⟨j, by omega, e⟩
  have := (rnd_lot (h := h) (w := w) (nd := nd) (first := first) (h * w + 1)).len
  omega
theorem endN_stop {k : Nat} (l : k ≤ h * w) (e : newT h w nd (rnd h w nd first k) = []) : rnd h w nd first k = endN h w nd first := by
  have := rnd_stop e (h * w - k)
  rw [show k + (h * w - k) = h * w by omega] at this
  exact this.symm
theorem endN_new : newT h w nd (endN h w nd first) = [] := by
  obtain ⟨k, l, e⟩ := rnd_closed (h := h) (w := w) (nd := nd) (first := first)
  rw [← endN_stop l e]
  exact e
theorem endN_lot : IsLot h w (endN h w nd first) := rnd_lot _
theorem newT_nil {L : List Tl} (e : newT h w nd L = []) {t : Tl} (ht : t ∈ tilesN h w) (hl : t ∉ L) : (cin h w L t : Int) < nd t := by
  rcases Int.lt_or_le (cin h w L t : Int) (nd t) with c | c
  · exact c
  · have : t ∈ newT h w nd L := List.mem_filter.mpr ⟨ht, decide_eq_true ⟨hl, c⟩⟩
    rw [e] at this
    cases this
theorem rnd_sub {S : List Tl} (h3 : ∀ t ∈ first, t ∈ S) (h4 : ∀ t ∈ tilesN h w, t ∉ S → (cin h w S t : Int) < nd t) : ∀ k, ∀ t ∈ rnd h w nd first k, t ∈ S
  | 0, t, m => h3 t (mem_lot.mp m).2
  | k + 1, t, m => by
    obtain ⟨m1, m2⟩ := mem_lot.mp m
    rcases List.mem_append.mp m2 with m | m
    · exact rnd_sub h3 h4 k t m
    · rcases Classical.em (t ∈ S) with q | q
      · exact q
      · have := h4 t m1 q
        have := (of_decide_eq_true (List.mem_filter.mp m).2).2
        have := cin_mono (h := h) (w := w) (t := t) (rnd_sub h3 h4 k)
        omega
theorem endN_least (hi : ∀ t ∈ first, t ∈ tilesN h w) : Least (tilesN h w) (beside h w) nd first (endN h w nd first) where
  nodup := endN_lot.nodup
  inT := endN_lot.2
  sup := fun t m => rnd_le (Nat.zero_le _) (mem_lot.mpr ⟨hi t m, m⟩)
  closed := fun t ht hl => by
    rw [cin_eq endN_lot.nodup endN_lot.2 ht]
    exact newT_nil endN_new ht hl
  least := fun S s1 s2 s3 s4 => rnd_sub s3 (fun t ht hl => by rw [← cin_eq s1 s2 ht]; exact s4 t ht hl) _
end
end Sp

end T_Mn
section T_S3
set_option maxRecDepth 10000
namespace Sp
open PySem Pv PvK
section
variable {Γ : Pv.Ctx} {h w : Nat} {fl : List (List Int)}
def rowT (w : Nat) (r : Nat) : List Tl := (List.range w).map fun (c : Nat) => ((r : Int), (c : Int))
theorem rowT_T (w r : Nat) : (rowT w r).map T = (List.range w).map fun (c : Nat) => D.tup [D.int r, D.int c] := by unfold rowT; rw [List.map_map]; rfl
@[simp] theorem s_law_tiles (n : Nat) (ok : OkF h w fl) (M : List C) : Pv.run Φ G (n + 1) "_law_tiles" [FL fl] [] M = some (.ok (Ts (tilesN h w)), M) := by
  refine run_pure (M' := []) F__law_tiles rfl rfl (by simp (maxDischargeDepth := 9) +contextual [-Prod.forall, flatFL]) ?_ (flatTs _)
  obtain ⟨xs, e0, l0⟩ := ok.ix0
  have hl := ok.len
  have q1 : h ≤ 100000 := by have := ok.h6; omega
  have q2 : w ≤ 100000 := by have := ok.w6; omega
  have sw : Small (List.range w) := by unfold Small; rw [List.length_range]; exact q2
  obtain ⟨s', e, i, _⟩ := for_st (M0 := []) (p := .var 2) (body := fun (_ : Unit) ρ M => evSs ⟨Pv.run Φ G n, G⟩ l__law_tiles_0 ρ M) (em := fun (i : Nat) => D.int i) (fun (s : List Tl × Option D × Option D) => ([some (FL fl), some (.lst (s.1.map T)), s.2.1, s.2.2], ([] : List C)))
    (fun xs ys s => s.1 = xs.flatMap (rowT w) ∧ xs ++ ys = List.range h) (fun xs y ys s ⟨j1, j2⟩ => by
      have sm : Small s.1 := by
        have : xs.length ≤ h := by have := congrArg List.length j2; simp at this; omega
        have hx : ∀ xs : List Nat, (xs.flatMap (rowT w)).length = xs.length * w := fun xs => by
          induction xs with
          | nil => simp
          | cons x xs ih => rw [List.flatMap_cons, List.length_append, ih, List.length_cons, Nat.succ_mul]; simp (maxDischargeDepth := 9) +contextual [-Prod.forall, rowT]; omega
        have h3 : xs.length * w ≤ 6 * 6 := Nat.mul_le_mul (by have := ok.h6; omega) ok.w6
        unfold Small
        rw [j1, hx]
        omega
      refine ⟨_, (s.1 ++ rowT w y, some (.int y), s.2.2), rfl, fun _ => ?_, ⟨?_, by rw [← j2]; simp⟩⟩
      · rw [l__law_tiles_0]
        simp (maxDischargeDepth := 9) +contextual [-Prod.forall, e0, l0, q2, sw, sm, rowT_T]
      · show s.1 ++ rowT w y = _
        rw [List.flatMap_append, j1]; simp) (List.range h) [] ([], none, none) ⟨rfl, rfl⟩
  have e := e ()
  simp only [List.map_nil] at e
  simp (maxDischargeDepth := 9) +contextual [-Prod.forall, startE, hl, q1, f__law_tiles, b__law_tiles, e]
  rw [i]
  rfl
@[simp] theorem s_law_near (n : Nat) (ok : OkF h w fl) (t : Tl) (M : List C) : Pv.run Φ G (n + 1) "_law_near" [FL fl, T t] [] M = some (.ok (.lst ((beside h w t).map T)), M) := by
  refine run_pure (M' := []) F__law_near rfl rfl (by simp (maxDischargeDepth := 9) +contextual [-Prod.forall, flatFL, flatT]) ?_ (flatTs _)
  obtain ⟨xs, e0, l0⟩ := ok.ix0
  have e : [D.tup [D.int (t.fst - 1), D.int t.snd], D.tup [D.int t.fst, D.int (t.snd - 1)], D.tup [D.int t.fst, D.int (t.snd + 1)], D.tup [D.int (t.fst + 1), D.int t.snd]] = (near4 t).map T := rfl
  have hz : Small (near4 t) := by unfold Small near4; simp
  simp (maxDischargeDepth := 9) +contextual [-Prod.forall, f__law_near, b__law_near, startE, e, hz, e0, l0, ok.len]
  show List.map T _ = _
  unfold beside
  congr 1
  refine List.filter_congr fun u _ => ?_
  rw [Bool.eq_iff_iff]
  simp (maxDischargeDepth := 9) +contextual [-Prod.forall, mem_tilesN]
  omega
@[simp] theorem s_law_damp_beside (n : Nat) (ok : OkF h w fl) (L : List Tl) (t : Tl) (M : List C) : Pv.run Φ G (n + 2) "_law_damp_beside" [FL fl, Ts L, T t] [] M = some (.ok (.int (cin h w L t)), M) := by
  refine run_pure (M' := []) F__law_damp_beside rfl rfl (by simp (maxDischargeDepth := 9) +contextual [-Prod.forall, flatFL, flatT, flatTs]) ?_ rfl
  have hz : Small (beside h w t) := Nat.le_trans beside_len (by omega)
  simp (maxDischargeDepth := 9) +contextual [-Prod.forall, f__law_damp_beside, b__law_damp_beside, startE, s_law_near _ ok, hz]
  unfold cin
  rw [List.countP_eq_length_filter]
@[simp] theorem s_law_can (n : Nat) (ok : OkF h w fl) (L : List Tl) {t : Tl} (m : t ∈ tilesN h w) (M : List C) : Pv.run Φ G (n + 3) "_law_can" [FL fl, Ts L, T t] [] M = some (.ok (.bl (decide (t ∉ L ∧ need fl t ≤ cin h w L t))), M) := by
  refine run_pure (M' := []) F__law_can rfl rfl (by simp (maxDischargeDepth := 9) +contextual [-Prod.forall, flatFL, flatT, flatTs]) ?_ rfl
  obtain ⟨r, e1, e2⟩ := ix_need ok m
  simp (maxDischargeDepth := 9) +contextual [-Prod.forall, f__law_can, b__law_can, startE, s_law_damp_beside _ ok, e1, e2]
  rw [Bool.eq_iff_iff]
  simp
theorem Ts_eq {as bs : List Tl} : Ts as = Ts bs ↔ as = bs := by
  unfold Ts
  rw [D.tup.injEq]
  exact List.map_inj_right fun _ _ => T_inj
structure RdS where
  k : Nat
  lap : Option D
  new : Option D
def rCells (h w : Nat) (nd : Tl → Int) (first : List Tl) (k : Nat) : List C := [.lst ((List.range (k + 1)).map fun j => Ts (rnd h w nd first j))]
def rEnv (fl : List (List Int)) (fd : D) (s : RdS) : Pv.Env := [some (FL fl), some fd, some (.cell 0), s.lap, s.new, none]
theorem t_rounds_turn (n : Nat) (ok : OkF h w fl) {fd : D} {first : List Tl} (s : RdS) (hk : s.k ≤ 100) (i : D) :
    (newT h w (need fl) (rnd h w (need fl) first s.k) = [] ∧ ∃ s', evSs ⟨Pv.run Φ G (n + 4), G⟩ l__law_rounds_0 (rEnv fl fd { s with lap := some i }) (rCells h w (need fl) first s.k) = some (.brk (rEnv fl fd s'), rCells h w (need fl) first s.k)) ∨
    (newT h w (need fl) (rnd h w (need fl) first s.k) ≠ [] ∧ ∃ s', evSs ⟨Pv.run Φ G (n + 4), G⟩ l__law_rounds_0 (rEnv fl fd { s with lap := some i }) (rCells h w (need fl) first s.k) = some (.next (rEnv fl fd s'), rCells h w (need fl) first (s.k + 1)) ∧ s'.k = s.k + 1) := by
  have hz : Small (tilesN h w) := small_tiles ok
  have e0 : ixD (.lst ((List.range (s.k + 1)).map fun j => Ts (rnd h w (need fl) first j))) (.int (-1)) = some (Ts (rnd h w (need fl) first s.k)) := ix_lst_last (by rw [List.range_succ]; simp)
  have en : (tilesN h w).filter (fun a => !decide (a ∈ rnd h w (need fl) first s.k) && decide (need fl a ≤ ↑(cin h w (rnd h w (need fl) first s.k) a))) = newT h w (need fl) (rnd h w (need fl) first s.k) := by
    unfold newT
    refine List.filter_congr fun u _ => ?_
    rw [Bool.eq_iff_iff]
    simp
  by_cases c : newT h w (need fl) (rnd h w (need fl) first s.k) = []
  · left
    refine ⟨c, ⟨s.k, some i, some (.lst [])⟩, ?_⟩
    rw [l__law_rounds_0]
    simp (maxDischargeDepth := 9) +contextual [-Prod.forall, rEnv, rCells, e0, s_law_tiles _ ok, s_law_can _ ok, hz, en, c]
  · right
    refine ⟨c, ⟨s.k + 1, some i, some (.lst ((newT h w (need fl) (rnd h w (need fl) first s.k)).map T))⟩, ?_, rfl⟩
    have sn : Small (newT h w (need fl) (rnd h w (need fl) first s.k)) := small_filter hz
    have sr : Small (rnd h w (need fl) first s.k) := Nat.le_trans (rnd_lot s.k).len (by have := ok.few; omega)
    have so : sortD (List.map T (rnd h w (need fl) first s.k ++ newT h w (need fl) (rnd h w (need fl) first s.k))) = _ := sortT (h := h) (w := w) (List.nodup_append.mpr ⟨(rnd_lot s.k).nodup, isLot_filter.nodup, fun a ha b hb e => (of_decide_eq_true (List.mem_filter.mp hb).2).1 (e ▸ ha)⟩) fun t m => (List.mem_append.mp m).elim ((rnd_lot s.k).2 t) fun m => (List.mem_filter.mp m).1
    rw [List.map_append] at so
    have sl : Small (List.range (s.k + 1)) := by unfold Small; rw [List.length_range]; omega
    rw [l__law_rounds_0]
    have e1 : rCells h w (need fl) first (s.k + 1) = [.lst (((List.range (s.k + 1)).map fun j => Ts (rnd h w (need fl) first j)) ++ [Ts (rnd h w (need fl) first (s.k + 1))])] := by
      unfold rCells
      rw [List.range_succ (n := s.k + 1), List.map_append]
      rfl
    rw [e1]
    simp (maxDischargeDepth := 9) +contextual [-Prod.forall, rEnv, rCells, e0, s_law_tiles _ ok, s_law_can _ ok, hz, en, c, sn, sr, so, sl]
    rfl
/-- rounds, one after another: the for with its break -/
theorem t_rounds_for (n : Nat) (ok : OkF h w fl) {fd : D} {first : List Tl} : ∀ (is : List D) (s : RdS), s.k + is.length ≤ h * w → (s.k + is.length = h * w ∨ newT h w (need fl) (rnd h w (need fl) first s.k) = []) →
    ∃ s', forLoop none [] (.var 3) (fun ρ M => evSs ⟨Pv.run Φ G (n + 4), G⟩ l__law_rounds_0 ρ M) is (rEnv fl fd s) (rCells h w (need fl) first s.k) = some (.next (rEnv fl fd s'), rCells h w (need fl) first s'.k) ∧
      rnd h w (need fl) first s'.k = endN h w (need fl) first ∧ s'.k ≤ h * w ∧ (∀ j, j < s'.k → s.k ≤ j → newT h w (need fl) (rnd h w (need fl) first j) ≠ []) ∧ s.k ≤ s'.k
  | [], s, h1, h2 => by
    refine ⟨s, by rw [forLoop, if_pos (same_none _ _)], ?_, by simpa using h1, fun j a b => by omega, Nat.le_refl _⟩
    rcases h2 with h2 | h2
    · show rnd h w (need fl) first s.k = rnd h w (need fl) first (h * w)
      rw [← h2]; rfl
    · exact endN_stop (by simpa using h1) h2
  | i :: is, s, h1, h2 => by
    have hf := ok.few
    rw [List.length_cons] at h1
    rcases t_rounds_turn n ok (fd := fd) (first := first) s (by omega) i with ⟨e, s1, e1⟩ | ⟨e, s1, e1, k1⟩
    · refine ⟨⟨s.k, s1.lap, s1.new⟩, ?_, endN_stop (k := s.k) (by omega) e, by dsimp only; omega, fun j a b => by dsimp only at a; omega, Nat.le_refl _⟩
      rw [forLoop, if_pos (same_none _ _)]
      show turnS (evSs _ l__law_rounds_0 (rEnv fl fd { s with lap := some i }) _) _ = _
      rw [e1, turnS_brk]
      rfl
    · obtain ⟨s2, q1, q2, q3, q4, q5⟩ := t_rounds_for n ok (fd := fd) (first := first) is s1 (by omega) (by
        rcases h2 with h2 | h2
        · rw [List.length_cons] at h2; left; omega
        · exact absurd h2 e)
      refine ⟨s2, ?_, q2, q3, fun j a b => ?_, by omega⟩
      · rw [forLoop, if_pos (same_none _ _)]
        show turnS (evSs _ l__law_rounds_0 (rEnv fl fd { s with lap := some i }) _) _ = _
        rw [e1, turnS_next, ← k1]
        exact q1
      · by_cases c : j = s.k
        · rw [c]; exact e
        · exact q4 j a (by omega)
/-- the number of rounds -/
noncomputable def lastR (h w : Nat) (fl : List (List Int)) (first : List Tl) : Nat := Classical.epsilon fun k => rnd h w (need fl) first k = endN h w (need fl) first ∧ k ≤ h * w ∧ ∀ j, j < k → newT h w (need fl) (rnd h w (need fl) first j) ≠ []
theorem lastR_uniq {first : List Tl} {k : Nat} (h1 : rnd h w (need fl) first k = endN h w (need fl) first) (h2 : k ≤ h * w) (h3 : ∀ j, j < k → newT h w (need fl) (rnd h w (need fl) first j) ≠ []) : lastR h w fl first = k := by
  have hs := Classical.epsilon_spec (p := fun k => rnd h w (need fl) first k = endN h w (need fl) first ∧ k ≤ h * w ∧ ∀ j, j < k → newT h w (need fl) (rnd h w (need fl) first j) ≠ []) ⟨k, h1, h2, h3⟩
  obtain ⟨q1, q2, q3⟩ := hs
  change rnd h w (need fl) first (lastR h w fl first) = _ at q1
  change ∀ j, j < lastR h w fl first → _ at q3
  rcases Nat.lt_trichotomy (lastR h w fl first) k with c | c | c
  · exact absurd (by rw [q1]; exact endN_new) (h3 _ c)
  · exact c
  · exact absurd (by rw [h1]; exact endN_new) (q3 _ c)
theorem s_law_rounds (n : Nat) (ok : OkF h w fl) {fd : D} {first : List Tl} (hs : evB .sorted [fd] = some (.lst ((lot h w first).map T))) (hd : ∀ M, drf M fd = fd) (hf : flatD fd = true) (M : List C) : Pv.run Φ G (n + 5) "_law_rounds" [FL fl, fd] [] M = some (.ok (.lst ((List.range (lastR h w fl first + 1)).map fun j => Ts (rnd h w (need fl) first j))), M) := by
  obtain ⟨xs, e0, l0⟩ := ok.ix0
  have few := ok.few
  have hl := ok.len
  have q1 : h ≤ 100000 := by have := ok.h6; omega
  have q3 : (h * w : Nat) ≤ 100000 := by omega
  obtain ⟨s', e, r1, r2, r3, _⟩ := t_rounds_for n ok (fd := fd) (first := first) ((List.range (h * w)).map fun (i : Nat) => D.int i) ⟨0, none, none⟩ (by simp) (.inl (by simp))
  rw [lastR_uniq r1 r2 fun j a => r3 j a (Nat.zero_le _)]
  refine run_cell (M' := rCells h w (need fl) first s'.k) F__law_rounds rfl rfl (by simp (maxDischargeDepth := 9) +contextual [-Prod.forall, flatFL, hf]) (d := .cell 0) ?_ ?_
  · have hg : forLoop none [C.lst [Ts (lot h w first)]] = forLoop none [] := by
      funext p body ds
      induction ds with
      | nil => funext ρ M; rw [forLoop, forLoop]; rfl
      | cons d ds ih => funext ρ M; rw [forLoop, forLoop, ih]; rfl
    have e' : rCells h w (need fl) first 0 = [C.lst [Ts (lot h w first)]] := rfl
    rw [e'] at e
    simp only [rEnv] at e
    have e2 : ((h : Int) * (w : Int)) = ((h * w : Nat) : Int) := by simp
    simp (maxDischargeDepth := 9) +contextual [-Prod.forall, f__law_rounds, b__law_rounds, startE, hs, hd, e0, l0, hl, q1, -Int.natCast_mul, e2, q3, hg, e]
  · refine frz_of (by rw [drf_cell]; rfl) ?_
    rw [flat_lst, flats_all]
    exact List.all_eq_true.mpr fun x hx => by
      obtain ⟨t, _, rfl⟩ := List.mem_map.mp hx
      exact flatTs _
theorem lastR_end (h w : Nat) (fl : List (List Int)) (first : List Tl) : rnd h w (need fl) first (lastR h w fl first) = endN h w (need fl) first ∧ lastR h w fl first ≤ h * w := by
  have : ∃ k, rnd h w (need fl) first k = endN h w (need fl) first ∧ k ≤ h * w ∧ ∀ j, j < k → newT h w (need fl) (rnd h w (need fl) first j) ≠ [] := by
    obtain ⟨k, hk, e⟩ := rnd_closed (h := h) (w := w) (nd := need fl) (first := first)
    have : ∀ m, m ≤ h * w → newT h w (need fl) (rnd h w (need fl) first m) = [] → ∃ k, rnd h w (need fl) first k = endN h w (need fl) first ∧ k ≤ h * w ∧ ∀ j, j < k → newT h w (need fl) (rnd h w (need fl) first j) ≠ [] := fun m => by
      induction m using Nat.strongRecOn with
      | ind m ih =>
        intro hm em
        by_cases c : ∃ j, j < m ∧ newT h w (need fl) (rnd h w (need fl) first j) = []
        · obtain ⟨j, hj, ej⟩ := c
          exact ih j hj (by omega) ej
        · exact ⟨m, endN_stop hm em, hm, fun j hj ej => c ⟨j, hj, ej⟩⟩
    exact this k hk e
  exact ⟨(Classical.epsilon_spec this).1, (Classical.epsilon_spec this).2.1⟩
theorem s_law_end (n : Nat) (ok : OkF h w fl) {first : List Tl} (hn : first.Nodup) (hi : ∀ t ∈ first, t ∈ tilesN h w) (M : List C) : Pv.run Φ G (n + 6) "_law_end" [FL fl, Ts first] [] M = some (.ok (Ts (endN h w (need fl) first)), M) := by
  refine run_pure (M' := []) F__law_end rfl rfl (by simp (maxDischargeDepth := 9) +contextual [-Prod.forall, flatFL, flatTs]) ?_ (flatTs _)
  have hs : evB .sorted [Ts first] = some (.lst ((lot h w first).map T)) := by rw [sorted_Ts, sortT hn hi]; rfl
  have e0 : ixD (.lst ((List.range (lastR h w fl first + 1)).map fun j => Ts (rnd h w (need fl) first j))) (.int (-1)) = some (Ts (endN h w (need fl) first)) := ix_lst_last (by rw [List.range_succ]; simp (maxDischargeDepth := 9) +contextual [-Prod.forall, (lastR_end h w fl first).1])
  simp (maxDischargeDepth := 9) +contextual [-Prod.forall, f__law_end, b__law_end, startE, s_law_rounds _ ok hs (fun _ => rfl) (flatTs _), e0]
end
end Sp

end T_S3
section T_Mo
/-! Mo: sets of tiles, their order; draws. -/
namespace Pv
open PySem
theorem small_append {α : Type} {as bs : List α} (h : as.length + bs.length ≤ 100000) : Small (as ++ bs) := by unfold Small; rw [List.length_append]; exact h
/-! all lots of some tiles -/
def subsF {α : Type} (ts : List α) : List (List α) := ts.foldl (fun fs t => fs ++ fs.map (· ++ [t])) [[]]
section
variable {α : Type}
theorem subsF_snoc {ts : List α} {t : α} : subsF (ts ++ [t]) = subsF ts ++ (subsF ts).map (· ++ [t]) := by unfold subsF; rw [List.foldl_append]; rfl
theorem snoc_ind {p : List α → Prop} (h0 : p []) (h1 : ∀ ts t, p ts → p (ts ++ [t])) : ∀ ts, p ts := fun ts => by
  have : ∀ n, ∀ ts : List α, ts.length = n → p ts := fun n => by
    induction n with
    | zero => intro ts e; rw [List.length_eq_zero_iff.mp e]; exact h0
    | succ n ih =>
      intro ts e
      have hne : ts ≠ [] := by intro z; rw [z] at e; cases e
      rw [← List.dropLast_concat_getLast hne]
      exact h1 _ _ (ih _ (by rw [List.length_dropLast, e]; rfl))
  exact this _ ts rfl
theorem sub_single {L : List α} {t : α} (h : L.Sublist [t]) : L = [] ∨ L = [t] := by
  rcases List.sublist_cons_iff.mp h with h | ⟨r, e, h⟩
  · exact .inl (List.sublist_nil.mp h)
  · right; rw [e, List.sublist_nil.mp h]
theorem mem_subsF : ∀ {ts L : List α}, L ∈ subsF ts ↔ L.Sublist ts := fun {ts} => by
  induction ts using snoc_ind with
  | h0 => intro L; unfold subsF; simp
  | h1 ts t ih =>
    intro L
    rw [subsF_snoc, List.mem_append, List.mem_map, List.sublist_append_iff]
    constructor
    · rintro (h | ⟨L', h, rfl⟩)
      · exact ⟨L, [], by simp, ih.mp h, List.nil_sublist _⟩
      · exact ⟨L', [t], rfl, ih.mp h, List.Sublist.refl _⟩
    · rintro ⟨l1, l2, rfl, h1, h2⟩
      rcases sub_single h2 with rfl | rfl
      · left; simpa using ih.mpr h1
      · exact .inr ⟨l1, ih.mpr h1, rfl⟩
theorem len_subsF : ∀ ts : List α, (subsF ts).length = 2 ^ ts.length := fun ts => by
  induction ts using snoc_ind with
  | h0 => rfl
  | h1 ts t ih =>
    rw [subsF_snoc, List.length_append, List.length_map, ih]
    simp
    omega
theorem nodup_subsF : ∀ ts : List α, ts.Nodup → (subsF ts).Nodup := fun ts => by
  induction ts using snoc_ind with
  | h0 => intro _; unfold subsF; simp
  | h1 ts t ih =>
    intro hn
    obtain ⟨n1, n2, n3⟩ := List.nodup_append.mp hn
    rw [subsF_snoc]
    refine List.nodup_append.mpr ⟨ih n1, ?_, ?_⟩
    · refine List.pairwise_map.mpr ((ih n1).imp fun h e => h (List.append_cancel_right e))
    · intro a ha b hb e
      obtain ⟨c, hc, rfl⟩ := List.mem_map.mp hb
      have : t ∈ a := by rw [e]; simp
      exact n3 t ((mem_subsF.mp ha).subset this) t (by simp) rfl
theorem mem_combos : ∀ {ts : List α} {n : Nat} {L : List α}, L ∈ combos ts n ↔ L.Sublist ts ∧ L.length = n
  | ts, 0, L => by
    have e : combos ts 0 = [[]] := by unfold combos; rfl
    rw [e, List.mem_singleton]
    exact ⟨(fun h => by subst h; exact ⟨List.nil_sublist _, rfl⟩), fun h => List.length_eq_zero_iff.mp h.2⟩
  | [], n + 1, L => by
    have e : combos ([] : List α) (n + 1) = [] := by unfold combos; rfl
    rw [e]
    refine ⟨(fun h => nomatch h), fun ⟨h1, h2⟩ => ?_⟩
    rw [List.sublist_nil.mp h1] at h2
    cases h2
  | t :: ts, n + 1, L => by
    have e : combos (t :: ts) (n + 1) = (combos ts n).map (t :: ·) ++ combos ts (n + 1) := by rw [combos]
    rw [e, List.mem_append, List.mem_map, mem_combos, List.sublist_cons_iff]
    constructor
    · rintro (⟨L', h, rfl⟩ | ⟨h1, h2⟩)
      · have h := mem_combos.mp h
        exact ⟨.inr ⟨L', rfl, h.1⟩, by simp [h.2]⟩
      · exact ⟨.inl h1, h2⟩
    · rintro ⟨h1 | ⟨r, rfl, h1⟩, h2⟩
      · exact .inr ⟨h1, h2⟩
      · exact .inl ⟨r, mem_combos.mpr ⟨h1, by simpa using h2⟩, rfl⟩
theorem combos_mapM {β : Type} {f : α → β} : ∀ (ts : List α) (n : Nat), combos (ts.map f) n = (combos ts n).map (List.map f)
  | ts, 0 => by cases ts <;> rfl
  | [], n + 1 => rfl
  | t :: ts, n + 1 => by
    rw [List.map_cons, combos, combos, combos_mapM ts n, combos_mapM ts (n + 1), List.map_append, List.map_map, List.map_map]
    rfl
theorem len_combos : ∀ (ts : List α) (n : Nat), (combos ts n).length ≤ 2 ^ ts.length
  | ts, 0 => by
    have e : combos ts 0 = [[]] := by unfold combos; rfl
    rw [e]
    exact Nat.one_le_two_pow
  | [], n + 1 => by
    have e : combos ([] : List α) (n + 1) = [] := by unfold combos; rfl
    rw [e]; simp
  | t :: ts, n + 1 => by
    rw [combos, List.length_append, List.length_map, List.length_cons, Nat.pow_succ]
    have := len_combos ts n
    have := len_combos ts (n + 1)
    omega
end
/-- by how many, then ascending -/
def pairL (s : List Tl) : D := .tup [.int s.length, Ts s]
def leL (a b : List Tl) : Bool := leD (pairL a) (pairL b)
def setsL (ts : List Tl) : List (List Tl) := (subsF ts).mergeSort leL
theorem shPair (s : List Tl) : hasSh (.two .int (.seq (.two .int .int))) (pairL s) = true := by
  have := shTs s
  unfold pairL
  rw [hasSh]
  simp only [this, Bool.and_true]
  rfl
theorem pairL_inj {a b : List Tl} (h : pairL a = pairL b) : a = b := by
  unfold pairL at h
  injection h with h
  injection h with _ h
  injection h with h _
  unfold Ts at h
  injection h with h
  exact (List.map_inj_right fun _ _ => T_inj).mp h
theorem sort_pairs (fs : List (List Tl)) : sortD (fs.map pairL) = some ((fs.mergeSort leL).map pairL) := by
  rw [sortD_sh (s := .two .int (.seq (.two .int .int))) (List.all_eq_true.mpr fun x hx => by
    obtain ⟨s, _, rfl⟩ := List.mem_map.mp hx
    exact shPair s) (by decide) (.inl (.inr (List.all_eq_true.mpr fun x hx => by
    obtain ⟨s, _, rfl⟩ := List.mem_map.mp hx
    rfl)))]
  rw [List.map_mergeSort (r := leL) (s := leD) (f := pairL) fun a _ b _ => rfl]
theorem mem_setsL {ts L : List Tl} : L ∈ setsL ts ↔ L.Sublist ts := by
  unfold setsL
  rw [(List.mergeSort_perm _ _).mem_iff, mem_subsF]
theorem len_setsL (ts : List Tl) : (setsL ts).length = 2 ^ ts.length := by
  unfold setsL
  rw [(List.mergeSort_perm _ _).length_eq, len_subsF]
theorem IsLot.sub {h w : Nat} {L : List Tl} (l : IsLot h w L) : L.Sublist (tilesN h w) := by
  rw [← l.eq]
  exact List.filter_sublist
theorem isLot_sub {h w : Nat} {L : List Tl} (l : L.Sublist (tilesN h w)) : IsLot h w L := ⟨tilesN_sorted.sublist l, fun t m => l.subset m⟩
/-! draws -/
def wl (a b c : Int) : C := .lst [.int a, .int b, .int c]
def WellAt (i : Nat) (M : List C) : Prop := ∃ a b c, M[i]? = some (wl a b c)
def Dr (i : Nat) (M M' : List C) : Prop := ∃ a b c, M' = M.set i (wl a b c)
theorem WellAt.len {i : Nat} {M : List C} (h : WellAt i M) : i < M.length := by
  obtain ⟨a, b, c, e⟩ := h
  exact (List.getElem?_eq_some_iff.mp e).1
theorem WellAt.dr {i j : Nat} {M M' : List C} (h : WellAt i M) (d : Dr j M M') : WellAt i M' := by
  obtain ⟨a, b, c, rfl⟩ := d
  by_cases e : i = j
  · subst e
    exact ⟨a, b, c, by rw [List.getElem?_set_self h.len]⟩
  · obtain ⟨a, b, c, e2⟩ := h
    exact ⟨a, b, c, by rw [List.getElem?_set_ne (fun z => e z.symm)]; exact e2⟩
theorem Dr.trans {i : Nat} {M M' M'' : List C} (d : Dr i M M') (d2 : Dr i M' M'') : Dr i M M'' := by
  obtain ⟨a, b, c, rfl⟩ := d
  obtain ⟨a', b', c', rfl⟩ := d2
  exact ⟨a', b', c', by rw [List.set_set]⟩
theorem WellAt.refl {i : Nat} {M : List C} (h : WellAt i M) : Dr i M M := by
  obtain ⟨a, b, c, e⟩ := h
  refine ⟨a, b, c, ?_⟩
  have hl := (List.getElem?_eq_some_iff.mp e).1
  refine List.ext_getElem? fun j => ?_
  by_cases z : i = j
  · subst z; rw [List.getElem?_set_self hl, e]
  · rw [List.getElem?_set_ne z]
theorem run_imp {Φ : Str → Option Fn} {G : Str → Option D} {n : Nat} {x : Str} {f : Fn} {ds as : List D} {kw : List (Str × D)} {M : List C} {z : Res D} (h : Φ x = some f) (hb : bindA f.ps ds kw = some as) (hf : (f.pure && flatDs as) = false)
    (e : endF (evSs ⟨run Φ G n, G⟩ f.body (startE f.many as) M) = z) : run Φ G (n + 1) x ds kw M = z := by
  rw [run, h]
  dsimp only
  rw [hb]
  dsimp only
  rw [runB, hf, if_neg (by decide)]
  exact e
section
variable {M : List C} {ρ : Env} {x y z d : D} {n : Nat}
@[simp] theorem st3_0 : stR (some (.lst [x, y, z])) n (.int 0) d ρ M = some (.ok ρ, M.set n (.lst [d, y, z])) := rfl
@[simp] theorem st3_1 : stR (some (.lst [x, y, z])) n (.int 1) d ρ M = some (.ok ρ, M.set n (.lst [x, d, z])) := rfl
@[simp] theorem st3_2 : stR (some (.lst [x, y, z])) n (.int 2) d ρ M = some (.ok ρ, M.set n (.lst [x, y, d])) := rfl
@[simp] theorem ix3_0 : ixD (.lst [x, y, z]) (.int 0) = some x := rfl
@[simp] theorem ix3_1 : ixD (.lst [x, y, z]) (.int 1) = some y := rfl
@[simp] theorem ix3_2 : ixD (.lst [x, y, z]) (.int 2) = some z := rfl
end
/-- a comprehension that draws -/
theorem lcLoop_dr {i : Nat} {M0 : List C} {body : D → List C → Res (Option D)} {Q : D → Prop} : ∀ (ds acc : List D) (M : List C), WellAt i M →
    (∀ d ∈ ds, ∀ M, WellAt i M → ∃ v M', body d M = some (.ok (some v), M') ∧ Dr i M M' ∧ Q v) →
    ∃ vs M', lcLoop none M0 body ds acc M = some (.ok (acc ++ vs), M') ∧ Dr i M M' ∧ vs.length = ds.length ∧ ∀ v ∈ vs, Q v
  | [], acc, M, hw, _ => ⟨[], M, by rw [lcLoop]; simp, hw.refl, rfl, fun v m => by cases m⟩
  | d :: ds, acc, M, hw, h => by
    obtain ⟨v, M1, e1, d1, q1⟩ := h d List.mem_cons_self M hw
    obtain ⟨vs, M2, e2, d2, l2, q2⟩ := lcLoop_dr ds (acc ++ [v]) M1 (hw.dr d1) fun x hx => h x (List.mem_cons_of_mem _ hx)
    refine ⟨v :: vs, M2, ?_, d1.trans d2, by simp [l2], fun x hx => ?_⟩
    · rw [lcLoop, if_pos (same_none _ _), e1, bndN_ok]
      dsimp only
      rw [e2]
      simp
    · rcases List.mem_cons.mp hx with rfl | hx
      · exact q1
      · exact q2 x hx
theorem em_lc_dr {Γ : Ctx} {elt : E} {v i : Nat} {it : I} {ρ : Env} {M : List C} {ds : List D} {Q : D → Prop} (hi : evI Γ it ρ M = some (.ok (ds, none), M)) (hw : WellAt i M) (hv : v < ρ.length) (hs : ds.length ≤ 100000)
    (hb : ∀ d ∈ ds, ∀ M, WellAt i M → ∃ x M', evE Γ elt (ρ.set v (some d)) M = some (.ok x, M') ∧ Dr i M M' ∧ Q x) :
    ∃ vs M', evE Γ (.lc elt (.var v) it []) ρ M = some (.ok (.lst vs), M') ∧ Dr i M M' ∧ vs.length = ds.length ∧ ∀ x ∈ vs, Q x := by
  obtain ⟨vs, M', e, d, l, q⟩ := lcLoop_dr (i := i) (M0 := M) (body := fun d M => optR (bindP (.var v) d (wipeE ρ (varsP (.var v)))) fun ρ' => bndN (evCs Γ [] ρ' M) fun b M' => if b = true then bndN (evE Γ elt ρ' M') fun r M'' => some (.ok (some r), M'') else some (.ok none, M')) (Q := Q) ds [] M hw (fun d hd M hw => by
    obtain ⟨x, M', e, d', q⟩ := hb d hd M hw
    refine ⟨x, M', ?_, d', q⟩
    simp [hv, e])
  refine ⟨vs, M', ?_, d, l, q⟩
  rw [em_lc, hi, bnd_ok]
  dsimp only
  rw [e, bndN_ok, List.nil_append, szd_ok]
  unfold Small
  omega
/-- a comprehension that keeps something of the cells -/
theorem lcLoop_inv {I : List C → Prop} {M0 : List C} {body : D → List C → Res (Option D)} {Q : D → Prop} : ∀ (ds acc : List D) (M : List C), I M →
    (∀ d ∈ ds, ∀ M, I M → ∃ v M', body d M = some (.ok (some v), M') ∧ I M' ∧ Q v) →
    ∃ vs M', lcLoop none M0 body ds acc M = some (.ok (acc ++ vs), M') ∧ I M' ∧ vs.length = ds.length ∧ ∀ v ∈ vs, Q v
  | [], acc, M, hw, _ => ⟨[], M, by rw [lcLoop]; simp, hw, rfl, fun v m => by cases m⟩
  | d :: ds, acc, M, hw, h => by
    obtain ⟨v, M1, e1, d1, q1⟩ := h d List.mem_cons_self M hw
    obtain ⟨vs, M2, e2, d2, l2, q2⟩ := lcLoop_inv ds (acc ++ [v]) M1 d1 fun x hx => h x (List.mem_cons_of_mem _ hx)
    refine ⟨v :: vs, M2, ?_, d2, by simp [l2], fun x hx => ?_⟩
    · rw [lcLoop, if_pos (same_none _ _), e1, bndN_ok]
      dsimp only
      rw [e2]
      simp
    · rcases List.mem_cons.mp hx with rfl | hx
      · exact q1
      · exact q2 x hx
theorem em_lc_inv {Γ : Ctx} {elt : E} {v : Nat} {it : I} {ρ : Env} {M : List C} {ds : List D} {J : List C → Prop} {Q : D → Prop} (hi : evI Γ it ρ M = some (.ok (ds, none), M)) (hw : J M) (hv : v < ρ.length) (hs : ds.length ≤ 100000)
    (hb : ∀ d ∈ ds, ∀ M, J M → ∃ x M', evE Γ elt (ρ.set v (some d)) M = some (.ok x, M') ∧ J M' ∧ Q x) :
    ∃ vs M', evE Γ (.lc elt (.var v) it []) ρ M = some (.ok (.lst vs), M') ∧ J M' ∧ vs.length = ds.length ∧ ∀ x ∈ vs, Q x := by
  obtain ⟨vs, M', e, d, l, q⟩ := lcLoop_inv (I := J) (M0 := M) (body := fun d M => optR (bindP (.var v) d (wipeE ρ (varsP (.var v)))) fun ρ' => bndN (evCs Γ [] ρ' M) fun b M' => if b = true then bndN (evE Γ elt ρ' M') fun r M'' => some (.ok (some r), M'') else some (.ok none, M')) (Q := Q) ds [] M hw (fun d hd M hw => by
    obtain ⟨x, M', e, d', q⟩ := hb d hd M hw
    refine ⟨x, M', ?_, d', q⟩
    simp [hv, e])
  refine ⟨vs, M', ?_, d, l, q⟩
  rw [em_lc, hi, bnd_ok]
  dsimp only
  rw [e, bndN_ok, List.nil_append, szd_ok]
  unfold Small
  omega
theorem em_tuple_lst {Γ : Ctx} {e : E} {ρ : Env} {M M' : List C} {vs : List D} (h : evE Γ e ρ M = some (.ok (.lst vs), M')) : evE Γ (.blt .tuple [e]) ρ M = some (.ok (.tup vs), M') := by
  rw [em_blt, em_cons, h, bnd_ok, em_nil, bnd_ok, bnd_ok]
  rfl
theorem all_true {xs : List D} (h : ∀ x ∈ xs, x = .bl true) : evB .all [.lst xs] = some (.bl true) := by
  have e : xs = xs.map fun _ => D.bl true := by
    conv => lhs; rw [← List.map_id xs]
    exact List.map_congr_left fun x hx => h x hx
  rw [e, all_map]
  simp
theorem flatMap_congr' {α β : Type} {as : List α} {f g : α → List β} (h : ∀ a ∈ as, f a = g a) : as.flatMap f = as.flatMap g := by
  induction as with
  | nil => rfl
  | cons a as ih => rw [List.flatMap_cons, List.flatMap_cons, h a List.mem_cons_self, ih fun x hx => h x (List.mem_cons_of_mem _ hx)]
theorem len_flatMap {α β : Type} {as : List α} {f : α → List β} {k : Nat} (h : ∀ a ∈ as, (f a).length = k) : (as.flatMap f).length = as.length * k := by
  induction as with
  | nil => simp
  | cons a as ih => rw [List.flatMap_cons, List.length_append, h a List.mem_cons_self, ih fun x hx => h x (List.mem_cons_of_mem _ hx), List.length_cons, Nat.succ_mul, Nat.add_comm]
@[simp] theorem eqD_lfnil {α : Type} {f : α → List Tl} {as : List α} : eqD (.lst (as.map fun a => Ts (f a))) (.lst []) = some (decide (as = [])) := by
  have : (as.map fun a => Ts (f a)) = (as.map f).map Ts := by rw [List.map_map]; rfl
  rw [this, eqD_lTsnil]
  simp
theorem ix_range {α : Type} {f : α → D} {as : List α} {z : α} {k : Nat} (h : k < as.length) : ixD (.lst (as.map f)) (.int k) = some (f (as[k]?.getD z)) := by
  refine ix_lstN ?_
  rw [List.getElem?_map, List.getElem?_eq_getElem h]
  rfl
theorem range_get {α : Type} {z : α} {as : List α} : (List.range as.length).map (fun k => as[k]?.getD z) = as := by
  refine List.ext_getElem? fun j => ?_
  rw [List.getElem?_map]
  rcases Nat.lt_or_ge j as.length with h | h
  · rw [List.getElem?_range h, Option.map_some, List.getElem?_eq_getElem h]; rfl
  · rw [List.getElem?_eq_none (by simpa using h), List.getElem?_eq_none h]; rfl
theorem range_fm {α β : Type} {p : α → Bool} {v : α → β} {z : α} {as : List α} : ((List.range as.length).filter fun k => p (as[k]?.getD z)).map (fun k => v (as[k]?.getD z)) = (as.filter p).map v := by
  conv => rhs; rw [← range_get (as := as) (z := z)]
  rw [List.filter_map, List.map_map]
  rfl
@[simp] theorem ix_lst0 {x : D} {xs : List D} : ixD (.lst (x :: xs)) (.int 0) = some x := by
  show L2.atI _ _ = _
  unfold L2.atI L2.ixN
  simp
@[simp] theorem ix_lst1 {x y : D} {xs : List D} : ixD (.lst (x :: y :: xs)) (.int 1) = some y := by
  show L2.atI _ _ = _
  unfold L2.atI L2.ixN
  rw [if_pos (by omega), if_pos (by simp; omega)]
  rfl
theorem cut_to {xs : List D} {k : Nat} : sliceD (.lst xs) none (some (.int k)) = some (.lst (xs.take k)) := by
  show some (D.lst (cutD xs none (some (k : Int)))) = _
  unfold cutD
  rw [HT.sIx_none, HT.sIx_nat, List.drop_zero, Nat.sub_zero]
  congr 2
  rw [List.take_eq_take_iff]
  omega
/-! statement by statement -/
section
variable {Γ : Ctx} {ρ ρ' : Env} {M M1 M' : List C} {d : D} {ss a b : List S} {z : SRes}
theorem sq_asg {i : Nat} {e : E} (d : D) (h : evE Γ e ρ M = some (.ok d, M1)) (hi : i < ρ.length) (k : evSs Γ ss (ρ.set i (some d)) M1 = z) : evSs Γ (.asg (.var i) e :: ss) ρ M = z := by
  rw [evs_cons, evs_asg, h, bndS_ok, asg_var, if_pos hi, nextS_ok, seqS_next]
  exact k
theorem sq_expr {e : E} (h : evE Γ e ρ M = some (.ok d, M1)) (k : evSs Γ ss ρ M1 = z) : evSs Γ (.expr e :: ss) ρ M = z := by
  rw [evs_cons, evs_expr, h, bndS_ok, seqS_next]
  exact k
theorem sq_if0 {c : E} (h : evT Γ c ρ M = some (.ok false, M1)) (k : evSs Γ ss ρ M1 = z) : evSs Γ (.iff c a [] :: ss) ρ M = z := by
  rw [evs_cons, evs_iff, h, bndS_ok, if_neg (by decide), evs_nil, seqS_next]
  exact k
theorem sq_ifT {c : E} (h : evT Γ c ρ M = some (.ok true, M1)) (k : seqS (evSs Γ a ρ M1) (fun ρ' M' => evSs Γ ss ρ' M') = z) : evSs Γ (.iff c a b :: ss) ρ M = z := by
  rw [evs_cons, evs_iff, h, bndS_ok, if_pos rfl]
  exact k
theorem sq_nil (k : some (.next ρ, M) = z) : evSs Γ [] ρ M = z := by rw [evs_nil]; exact k
theorem sq_ret {e : E} (h : evE Γ e ρ M = some (.ok d, M1)) (k : some (.ret d, M1) = z) : evSs Γ (.ret e :: ss) ρ M = z := by
  rw [evs_cons, evs_ret, h, bndS_ok, seqS_ret]
  exact k
theorem sq_for {p : P} {it : I} {body : List S} {ds : List D} {g : Option Nat} (h : evI Γ it ρ M = some (.ok (ds, g), M1)) (h2 : forLoop g M1 p (fun ρ M => evSs Γ body ρ M) ds ρ M1 = some (.next ρ', M')) (k : evSs Γ ss ρ' M' = z) : evSs Γ (.for p it body :: ss) ρ M = z := by
  rw [evs_cons, evs_for, h, bndS_ok]
  dsimp only
  rw [h2, seqS_next]
  exact k
end
/-- max of ints -/
theorem maxD_int {α : Type} {f : α → Int} {as : List α} (ne : as ≠ []) : ∃ m, maxD (as.map fun a => D.int (f a)) = some (D.int m) ∧ (∃ a ∈ as, f a = m) ∧ ∀ a ∈ as, f a ≤ m := by
  have key : ∀ (as : List α) (x : Int), ∃ m, (as.map fun a => D.int (f a)).foldl (fun a b => if W.dataLt (pyD a) (pyD b) = true then b else a) (D.int x) = D.int m ∧ (m = x ∨ ∃ a ∈ as, f a = m) ∧ x ≤ m ∧ ∀ a ∈ as, f a ≤ m := fun as => by
    induction as with
    | nil => intro x; exact ⟨x, rfl, .inl rfl, Int.le_refl _, fun a m => by cases m⟩
    | cons a as ih =>
      intro x
      rw [List.map_cons, List.foldl_cons]
      have e : W.dataLt (pyD (D.int x)) (pyD (D.int (f a))) = decide (x < f a) := W.dataLt_int _ _
      rw [e]
      by_cases c : x < f a
      · rw [if_pos (decide_eq_true c)]
        obtain ⟨m, e1, e2, e3, e4⟩ := ih (f a)
        refine ⟨m, e1, .inr ?_, by omega, fun b hb => ?_⟩
        · rcases e2 with rfl | ⟨b, hb, e2⟩
          · exact ⟨a, List.mem_cons_self, rfl⟩
          · exact ⟨b, List.mem_cons_of_mem _ hb, e2⟩
        · rcases List.mem_cons.mp hb with rfl | hb
          · exact e3
          · exact e4 b hb
      · rw [if_neg (by simpa using c)]
        obtain ⟨m, e1, e2, e3, e4⟩ := ih x
        refine ⟨m, e1, ?_, e3, fun b hb => ?_⟩
        · rcases e2 with rfl | ⟨b, hb, e2⟩
          · exact .inl rfl
          · exact .inr ⟨b, List.mem_cons_of_mem _ hb, e2⟩
        · rcases List.mem_cons.mp hb with rfl | hb
          · omega
          · exact e4 b hb
  cases as with
  | nil => exact absurd rfl ne
  | cons a as =>
    obtain ⟨m, e1, e2, e3, e4⟩ := key as (f a)
    refine ⟨m, ?_, ?_, fun b hb => ?_⟩
    · rw [List.map_cons]
      unfold maxD
      have h1 : ((D.int (f a)) :: as.map fun a => D.int (f a)).all (hasSh .int) = true := List.all_eq_true.mpr fun x hx => by
        rcases List.mem_cons.mp hx with rfl | hx
        · rfl
        · obtain ⟨b, _, rfl⟩ := List.mem_map.mp hx; rfl
      obtain ⟨ps, e, _⟩ := toPys_of (toPy_of 0) _ (List.all_eq_true.mpr fun x hx => sh_it .int x (List.all_eq_true.mp h1 x hx))
      dsimp only
      rw [e]
      dsimp only
      rw [if_pos, e1]
      rw [alikeD_of h1 e, Bool.true_and]
      refine List.all_eq_true.mpr fun p hp => ?_
      rw [Bool.and_eq_true]
      refine ⟨?_, decide_eq_true (dep_of h1 e (by decide) p hp)⟩
      obtain ⟨z, hz, e1⟩ := mem_toPys e p hp
      obtain ⟨i, rfl⟩ := sh_int (List.all_eq_true.mp h1 z hz)
      cases e1; rfl
    · rcases e2 with rfl | ⟨b, hb, e2⟩
      · exact ⟨a, List.mem_cons_self, rfl⟩
      · exact ⟨b, List.mem_cons_of_mem _ hb, e2⟩
    · rcases List.mem_cons.mp hb with rfl | hb
      · exact e3
      · exact e4 b hb
end Pv

end T_Mo
section T_S4
set_option maxRecDepth 10000
namespace Sp
open PySem Pv PvK
/-- data of ints, truths, None, and tuples that are not long -/
def okD : Nat → D → Prop
  | _, .int _ => True
  | _, .bl _ => True
  | _, .non => True
  | n + 1, .tup xs => Small xs ∧ ∀ x ∈ xs, okD n x
  | _, _ => False
theorem okD_tup {n : Nat} {xs : List D} : okD (n + 1) (.tup xs) ↔ Small xs ∧ ∀ x ∈ xs, okD n x := by rw [okD]
theorem flat_ok : ∀ (k : Nat) (d : D), okD k d → flatD d = true := fun k => by
  induction k with
  | zero => intro d h; cases d with | int i => rfl | bl i => rfl | non => rfl | _ => cases h
  | succ k ih =>
    intro d h
    cases d with
    | int i => rfl
    | bl i => rfl
    | non => rfl
    | tup xs =>
      rw [okD_tup] at h
      rw [flat_tup, flats_all]
      exact List.all_eq_true.mpr fun x hx => ih x (h.2 x hx)
    | _ => cases h
theorem eq_bl {b : Bool} : eqD (.bl b) (.bl b) = some true := by cases b <;> rfl
theorem eq_non : eqD .non .non = some true := rfl
theorem okD_Ts {ts : List Tl} (h : Small ts) : okD 2 (Ts ts) := by
  unfold Ts
  rw [okD_tup]
  refine ⟨by simpa using h, fun x hx => ?_⟩
  obtain ⟨t, _, rfl⟩ := List.mem_map.mp hx
  unfold T
  rw [okD_tup]
  exact ⟨by unfold Small; simp, fun x hx => by simp at hx; rcases hx with rfl | rfl <;> trivial⟩
theorem okD_two {k : Nat} {d : D} (h : okD k d) : okD (k + 1) (.tup [d, d]) := by
  rw [okD_tup]
  exact ⟨by unfold Small; simp, fun x hx => by simp at hx; rw [hx]; exact h⟩
theorem ix_getD {xs : List D} {k : Nat} (h : k < xs.length) : ixD (.tup xs) (.int k) = some (xs[k]?.getD .non) := by
  refine ix_tupN ?_
  rw [List.getElem?_eq_getElem h]
  rfl
theorem s_law_same : ∀ (k n : Nat) (d : D) (M : List C), okD k d → Pv.run Φ G (n + k + 1) "_law_same" [d, d] [] M = some (.ok (.bl true), M) := fun k => by
  have base : ∀ (n : Nat) (d : D) (M : List C), okD 0 d → Pv.run Φ G (n + 1) "_law_same" [d, d] [] M = some (.ok (.bl true), M) := fun n d M h => by
    refine run_pure (M' := []) F__law_same rfl rfl (by simp (maxDischargeDepth := 9) +contextual [-Prod.forall, flat_ok 0 d h]) ?_ rfl
    cases d with
    | int i => simp (maxDischargeDepth := 9) +contextual [-Prod.forall, f__law_same, b__law_same, startE, eq_bl]
    | bl i => simp (maxDischargeDepth := 9) +contextual [-Prod.forall, f__law_same, b__law_same, startE, eq_bl]
    | non => simp (maxDischargeDepth := 9) +contextual [-Prod.forall, f__law_same, b__law_same, startE, eq_bl, eq_non]
    | _ => cases h
  induction k with
  | zero => exact base
  | succ k ih =>
    intro n d M h
    cases d with
    | int i => exact base _ _ _ h
    | bl i => exact base _ _ _ h
    | non => exact base _ _ _ h
    | tup xs =>
      obtain ⟨hs, hx⟩ := okD_tup.mp h
      refine run_pure (M' := []) F__law_same rfl rfl (by simp (maxDischargeDepth := 9) +contextual [-Prod.forall, flats_all]; exact fun x hx' => flat_ok k x (hx x hx')) ?_ rfl
      have hs' : Small (List.range xs.length) := by unfold Small; rw [List.length_range]; exact hs
      have ih' : ∀ i ∈ List.range xs.length, ∀ M, Pv.run Φ G (n + (k + 1)) "_law_same" [xs[i]?.getD .non, xs[i]?.getD .non] [] M = some (.ok (.bl true), M) := fun i hi M => by
        have hi := List.mem_range.mp hi
        refine ih n _ M (hx _ ?_)
        rw [List.getElem?_eq_getElem hi]
        exact List.getElem_mem hi
      have hi' : ∀ i ∈ List.range xs.length, ixD (.tup xs) (.int i) = some (xs[i]?.getD .non) := fun i hi => ix_getD (List.mem_range.mp hi)
      simp (maxDischargeDepth := 9) +contextual [-Prod.forall, f__law_same, b__law_same, startE, hs, hs', ih', hi', rangeR_nat hs, -List.mem_range]
    | _ => cases h
theorem bin_Tsnoc {s : List Tl} {t : Tl} (h : Small s) : binX .add (Ts s) (.tup [T t]) = some (Ts (s ++ [t])) := bin_Ts (bs := [t]) ⟨h, by unfold Small; simp⟩
theorem s_law_sets (n : Nat) (ts : List Tl) (hl : ts.length ≤ 12) (M : List C) : Pv.run Φ G (n + 1) "_law_sets" [Ts ts] [] M = some (.ok (.lst ((setsL ts).map Ts)), M) := by
  refine run_pure (M' := []) F__law_sets rfl rfl (by simp (maxDischargeDepth := 9) +contextual [-Prod.forall, flatTs]) ?_ (by
    rw [flat_lst, flats_all]
    exact List.all_eq_true.mpr fun x hx => by
      obtain ⟨t, _, rfl⟩ := List.mem_map.mp hx
      exact flatTs _)
  have p12 : ∀ m, m ≤ 12 → 2 ^ m ≤ 4096 := fun m hm => Nat.le_trans (Nat.pow_le_pow_right (by omega) hm) (by decide)
  have small : ∀ xs : List Tl, xs.length ≤ 12 → Small (subsF xs) := fun xs h => by
    unfold Small
    rw [len_subsF]
    have := p12 _ h
    omega
  obtain ⟨s', e, i, _⟩ := for_st (M0 := []) (p := .var 2) (body := fun (_ : Unit) ρ M => evSs ⟨Pv.run Φ G n, G⟩ l__law_sets_0 ρ M) (em := T) (fun (s : List (List Tl) × Option D) => ([some (Ts ts), some (.lst (s.1.map Ts)), s.2, none, none], ([] : List C)))
    (fun xs ys s => s.1 = subsF xs ∧ xs ++ ys = ts) (fun xs y ys s ⟨j1, j2⟩ => by
      have hx : xs.length ≤ 12 := by have := congrArg List.length j2; simp at this; omega
      have hx' : xs.length + 1 ≤ 12 := by have := congrArg List.length j2; simp at this; omega
      refine ⟨_, (subsF (xs ++ [y]), some (T y)), rfl, fun _ => ?_, rfl, by rw [← j2]; simp⟩
      have sm := small xs hx
      have sb : ∀ b ∈ subsF xs, Small b := fun b hb => by have := (mem_subsF.mp hb).length_le; unfold Small; omega
      rw [l__law_sets_0]
      simp (maxDischargeDepth := 9) +contextual [-Prod.forall, j1, subsF_snoc, sm, bin_Tsnoc, sb]) ts [] ([[]], none) ⟨rfl, rfl⟩
  have e := e ()
  rw [List.nil_append] at i
  have sm := small ts hl
  have sb : Small (setsL ts) := by unfold Small; rw [len_setsL]; have := p12 _ hl; omega
  have hp : (fun a => D.tup [D.int ↑a.length, Ts a]) = pairL := rfl
  have hb : ∀ a ps ρ, bindP (.tup ps) (pairL a) ρ = bindPs ps [.int a.length, Ts a] ρ := fun a ps ρ => by unfold pairL; rw [bindP]
  have sp := sort_pairs (subsF ts)
  have e1 : D.tup [] = Ts [] := rfl
  dsimp only at e
  rw [i] at e
  simp only [List.map_cons, List.map_nil] at e
  change _ = some ((setsL ts).map pairL) at sp
  simp (maxDischargeDepth := 9) +contextual [-Prod.forall, f__law_sets, b__law_sets, startE, e1, e, sm, hp, sp, hb, sb]
theorem s_law_draw (n : Nat) {i : Nat} {lim : Int} {M : List C} (hw : WellAt i M) (h1 : 0 < lim) (h2 : lim ≤ 1000000) : ∃ r M', Pv.run Φ G (n + 1) "_law_draw" [.cell i, .int lim] [] M = some (.ok (.int r), M') ∧ Dr i M M' ∧ 0 ≤ r ∧ r < lim := by
  obtain ⟨a, b, c, e⟩ := hw
  unfold wl at e
  have hl := (List.getElem?_eq_some_iff.mp e).1
  have hg : ∀ x, (M.set i x)[i]? = some x := fun x => List.getElem?_set_self hl
  by_cases ha : 0 < a
  · refine ⟨a % lim, M.set i (wl (a / lim) b c), run_imp F__law_draw rfl rfl ?_, ⟨_, _, _, rfl⟩, Int.emod_nonneg _ (by omega), Int.emod_lt_of_pos _ h1⟩
    simp (maxDischargeDepth := 9) +contextual [-Prod.forall, f__law_draw, b__law_draw, startE, e, ha, evX_divmod, h1, show lim < 1073741824 by omega, wl]
  · have s0 : 0 ≤ (b * 40037 + 13001 * (c + 1) + 7) % 2147483563 ∧ (b * 40037 + 13001 * (c + 1) + 7) % 2147483563 ≤ 10000000000 := ⟨Int.emod_nonneg _ (by decide), by omega⟩
    generalize hs : (b * 40037 + 13001 * (c + 1) + 7) % 2147483563 = st at s0
    generalize hb : (st * (st % 5009 + 20023) + (c + 1)) % 2147483563 = b'
    refine ⟨(b' / 1013) % lim, M.set i (wl a b' (c + 1)), run_imp F__law_draw rfl rfl ?_, ⟨_, _, _, rfl⟩, Int.emod_nonneg _ (by omega), Int.emod_lt_of_pos _ h1⟩
    simp (maxDischargeDepth := 9) +contextual [-Prod.forall, f__law_draw, b__law_draw, startE, e, ha, bin_mod, bin_fdiv, h1, wl, bin_mulc, bin_mulc', hg, hs, s0, hb]
theorem s_law_of (n : Nat) {i : Nat} {xs : List D} {M : List C} (hw : WellAt i M) (h1 : xs ≠ []) (h2 : xs.length ≤ 100000) : ∃ r M', Pv.run Φ G (n + 2) "_law_of" [.cell i, .tup xs] [] M = some (.ok r, M') ∧ Dr i M M' ∧ r ∈ xs := by
  have hl := List.length_pos_iff.mpr h1
  obtain ⟨r, M', e, d, r1, r2⟩ := s_law_draw n (lim := xs.length) hw (by omega) (by omega)
  have hr : r.toNat < xs.length := by omega
  refine ⟨xs[r.toNat], M', run_imp F__law_of rfl rfl ?_, d, List.getElem_mem _⟩
  have e1 : ixD (.tup xs) (.int r) = some xs[r.toNat] := by
    have : r = (r.toNat : Int) := by omega
    conv => lhs; rw [this]
    exact ix_tupN (List.getElem?_eq_getElem hr)
  simp (maxDischargeDepth := 9) +contextual [-Prod.forall, f__law_of, b__law_of, startE, e, e1]
theorem menus {r : D} (h : r ∈ [D.tup [.int 1, .int 2, .int 2, .int 3], .tup [.int 1, .int 2, .int 3], .tup [.int 0, .int 1, .int 2, .int 3, .int 4, .int 5], .tup [.int 2], .tup [.int 1, .int 1, .int 2, .int 4], .tup [.int 3, .int 2]]) :
    ∃ xs, r = .tup xs ∧ xs ≠ [] ∧ xs.length ≤ 100000 ∧ ∀ x ∈ xs, ∃ k : Int, x = .int k ∧ 0 ≤ k ∧ k ≤ 5 := by
  simp only [List.mem_cons, List.not_mem_nil, or_false] at h
  rcases h with rfl | rfl | rfl | rfl | rfl | rfl <;> refine ⟨_, rfl, by simp, by simp, ?_⟩ <;> simp
theorem s_law_sized (n : Nat) {i : Nat} {h w : Nat} {M : List C} (hw : WellAt i M) (h1 : 1 ≤ h) (h6 : h ≤ 6) (w1 : 1 ≤ w) (w6 : w ≤ 6) (few : h * w ≤ 24) : ∃ fl M', Pv.run Φ G (n + 3) "_law_sized" [.cell i, .int h, .int w] [] M = some (.ok (FL fl), M') ∧ Dr i M M' ∧ OkF h w fl := by
  obtain ⟨menu, M1, e1, d1, hm⟩ := s_law_of n (xs := [D.tup [.int 1, .int 2, .int 2, .int 3], .tup [.int 1, .int 2, .int 3], .tup [.int 0, .int 1, .int 2, .int 3, .int 4, .int 5], .tup [.int 2], .tup [.int 1, .int 1, .int 2, .int 4], .tup [.int 3, .int 2]]) hw (by simp) (by simp)
  obtain ⟨xs, rfl, x1, x2, x3⟩ := menus hm
  have q1 : h ≤ 100000 := by omega
  have q2 : w ≤ 100000 := by omega
  obtain ⟨vs, M2, e2, d2, l2, q⟩ := em_lc_dr (Γ := ⟨Pv.run Φ G (n + 2), G⟩) (elt := .blt .tuple [.lc (.call "_law_of" [.var 0, .var 3] [] []) (.var 5) (.range [.var 2]) []]) (v := 4) (it := .range [.var 1]) (ρ := [some (.cell i), some (.int h), some (.int w), some (.tup xs), none, none]) (ds := (List.range h).map fun (i : Nat) => D.int i) (Q := fun v => ∃ r : List Int, v = .tup (r.map .int) ∧ r.length = w ∧ ∀ k ∈ r, 0 ≤ k ∧ k ≤ 5) (by simp (maxDischargeDepth := 9) +contextual [-Prod.forall, q1]) (hw.dr d1) (by simp) (by simp; omega) (fun d _ M hw => by
    obtain ⟨vs, M', e, d', l, q⟩ := em_lc_dr (Γ := ⟨Pv.run Φ G (n + 2), G⟩) (elt := .call "_law_of" [.var 0, .var 3] [] []) (v := 5) (it := .range [.var 2]) (ρ := [some (.cell i), some (.int h), some (.int w), some (.tup xs), some d, none]) (ds := (List.range w).map fun (i : Nat) => D.int i) (Q := fun v => ∃ k : Int, v = .int k ∧ 0 ≤ k ∧ k ≤ 5) (by simp (maxDischargeDepth := 9) +contextual [-Prod.forall, q2]) hw (by simp) (by simp; omega) (fun d2 _ M hw => by
      obtain ⟨r, M', e, d', m⟩ := s_law_of n (xs := xs) hw x1 x2
      refine ⟨r, M', ?_, d', x3 r m⟩
      simp (maxDischargeDepth := 9) +contextual [-Prod.forall, e])
    refine ⟨.tup vs, M', ?_, d', ?_⟩
    · exact em_tuple_lst e
    · have : ∀ vs : List D, (∀ v ∈ vs, ∃ k : Int, v = .int k ∧ 0 ≤ k ∧ k ≤ 5) → ∃ r : List Int, vs = r.map .int ∧ ∀ k ∈ r, 0 ≤ k ∧ k ≤ 5 := fun vs => by
        induction vs with
        | nil => intro _; exact ⟨[], rfl, fun k m => by cases m⟩
        | cons v vs ih =>
          intro q
          obtain ⟨k, rfl, hk⟩ := q v List.mem_cons_self
          obtain ⟨r, rfl, hr⟩ := ih fun x hx => q x (List.mem_cons_of_mem _ hx)
          exact ⟨k :: r, rfl, fun x hx => (List.mem_cons.mp hx).elim (fun e => e ▸ hk) (hr x)⟩
      obtain ⟨r, rfl, hr⟩ := this vs q
      exact ⟨r, rfl, by simpa using l, hr⟩)
  have : ∀ vs : List D, (∀ v ∈ vs, ∃ r : List Int, v = .tup (r.map .int) ∧ r.length = w ∧ ∀ k ∈ r, 0 ≤ k ∧ k ≤ 5) → ∃ fl : List (List Int), vs = fl.map (fun r => .tup (r.map .int)) ∧ ∀ r ∈ fl, r.length = w ∧ ∀ k ∈ r, 0 ≤ k ∧ k ≤ 5 := fun vs => by
    induction vs with
    | nil => intro _; exact ⟨[], rfl, fun k m => by cases m⟩
    | cons v vs ih =>
      intro q
      obtain ⟨k, rfl, hk⟩ := q v List.mem_cons_self
      obtain ⟨r, rfl, hr⟩ := ih fun x hx => q x (List.mem_cons_of_mem _ hx)
      exact ⟨k :: r, rfl, fun x hx => (List.mem_cons.mp hx).elim (fun e => e ▸ hk) (hr x)⟩
  obtain ⟨fl, rfl, hfl⟩ := this vs q
  refine ⟨fl, M2, run_imp F__law_sized rfl rfl ?_, d1.trans d2, ⟨by simpa using l2, fun r hr => (hfl r hr).1, h1, w1, h6, w6, few, fun r hr => (hfl r hr).2⟩⟩
  have e2 := em_tuple_lst e2
  have e3 : evS ⟨Pv.run Φ G (n + 2), G⟩ (.asg (.var 3) (.call "_law_of" [.var 0, .tup [.tup [.lit (.int 1), .lit (.int 2), .lit (.int 2), .lit (.int 3)], .tup [.lit (.int 1), .lit (.int 2), .lit (.int 3)], .tup [.lit (.int 0), .lit (.int 1), .lit (.int 2), .lit (.int 3), .lit (.int 4), .lit (.int 5)], .tup [.lit (.int 2)], .tup [.lit (.int 1), .lit (.int 1), .lit (.int 2), .lit (.int 4)], .tup [.lit (.int 3), .lit (.int 2)]]] [] [])) [some (.cell i), some (.int h), some (.int w), none, none, none] M = some (.next [some (.cell i), some (.int h), some (.int w), some (.tup xs), none, none], M1) := by
    simp (maxDischargeDepth := 9) +contextual [-Prod.forall, e1]
  show endF (evSs _ b__law_sized [some (.cell i), some (.int h), some (.int w), none, none, none] M) = _
  rw [b__law_sized, evs_cons, e3, seqS_next, evs_cons, evs_ret, e2]
  rfl
theorem s_law_floor (n : Nat) {i : Nat} {most : Nat} {M : List C} (hw : WellAt i M) (m1 : 1 ≤ most) (m2 : most ≤ 24) : ∃ h w fl M', Pv.run Φ G (n + 4) "_law_floor" [.cell i, .int most] [] M = some (.ok (FL fl), M') ∧ Dr i M M' ∧ OkF h w fl ∧ h * w ≤ most := by
  obtain ⟨r, M1, e1, d1, a1, a2⟩ := s_law_draw (n + 2) (lim := if (most : Int) < 6 then (most : Int) else 6) hw (by split <;> omega) (by split <;> omega)
  have ha : 0 < 1 + r ∧ 1 + r < 1073741824 := by split at a2 <;> omega
  have hq : 1 ≤ (most : Int) / (1 + r) := by
    rw [Int.le_ediv_iff_mul_le ha.1]
    split at a2 <;> omega
  obtain ⟨r2, M2, e2, d2, b1, b2⟩ := s_law_draw (n + 2) (lim := if (most : Int) / (1 + r) < 6 then (most : Int) / (1 + r) else 6) (hw.dr d1) (by split <;> omega) (by split <;> omega)
  have hm : (1 + r).toNat * (1 + r2).toNat ≤ most := by
    have h1 : (1 + r2) ≤ (most : Int) / (1 + r) := by split at b2 <;> omega
    have h2 : (1 + r2) * (1 + r) ≤ most := (Int.le_ediv_iff_mul_le ha.1).mp h1
    have h3 : (((1 + r).toNat * (1 + r2).toNat : Nat) : Int) = (1 + r2) * (1 + r) := by
      rw [Int.natCast_mul, Int.toNat_of_nonneg (by omega), Int.toNat_of_nonneg (by omega), Int.mul_comm]
    omega
  obtain ⟨fl, M3, e3, d3, ok⟩ := s_law_sized n (h := (1 + r).toNat) (w := (1 + r2).toNat) (hw.dr (d1.trans d2)) (by omega) (by split at a2 <;> omega) (by omega) (by split at b2 <;> omega) (by omega)
  have c1 : (((1 + r).toNat : Nat) : Int) = 1 + r := by omega
  have c2 : (((1 + r2).toNat : Nat) : Int) = 1 + r2 := by omega
  rw [c1, c2] at e3
  refine ⟨_, _, fl, M3, run_imp F__law_floor rfl rfl ?_, (d1.trans d2).trans d3, ok, hm⟩
  simp (maxDischargeDepth := 9) +contextual [-Prod.forall, f__law_floor, b__law_floor, startE, e1, bin_fdiv, ha, e2, e3]
end Sp

end T_S4
section T_S2
set_option maxRecDepth 10000
namespace Sp
open PySem Pv PvK
/-- a lot of first ones, as a tuple or a list -/
structure FD (fd : D) (first : List Tl) : Prop where
  flat : flatD fd = true
  drf : ∀ M, Pv.drf M fd = fd
  list : evB .list [fd] = some (.lst (first.map T))
  inn : ∀ t, inD (T t) fd = some (decide (t ∈ first))
theorem fd_tup (ts : List Tl) : FD (Ts ts) ts := ⟨flatTs ts, fun _ => rfl, rfl, fun t => inTs⟩
theorem fd_lst (ts : List Tl) : FD (.lst (ts.map T)) ts := ⟨flatTs ts, fun _ => rfl, rfl, fun t => in_lstT⟩
/-- the damp ones -/
def dampV (line : List Tl) : D := .dic (line.map T) (line.map fun _ => .bl true)
structure DmS where
  k : Nat
  line : List Tl
  c : Tl → Int
  o : Option D
def dEnv (web fd : D) (s : DmS) : Pv.Env := [some web, some fd, some (.cell 0), some (.cell 1), some (.cell 2), some (.int s.k), s.o, none, none, none]
def dCells (h w : Nat) (s : DmS) : List C := [.lst (s.line.map T), .dic (s.line.map T) (s.line.map fun _ => .bl true), .dic ((tilesN h w).map T) ((tilesN h w).map fun t => .int (s.c t))]
theorem need0 {h w : Nat} {fl : List (List Int)} (ok : OkF h w fl) {t : Tl} (m : t ∈ tilesN h w) : 0 ≤ need fl t ∧ need fl t ≤ 5 := by
  obtain ⟨h1, h2, h3, h4⟩ := mem_tilesN.mp m
  have l : t.1.toNat < fl.length := by have := ok.len; omega
  have l2 : t.2.toNat < (fl[t.1.toNat]).length := by have := ok.row _ (List.getElem_mem l); omega
  unfold need
  rw [List.getElem?_eq_getElem l, Option.getD_some, List.getElem?_eq_getElem l2, Option.getD_some]
  exact ok.need _ (List.getElem_mem l) _ (List.getElem_mem l2)
abbrev DIf (h w : Nat) (fl : List (List Int)) (first : List Tl) := DI (tilesN h w) (beside h w) (need fl) first
section
variable {Γ : Pv.Ctx} {h w : Nat} {fl : List (List Int)} {fd : D} {first : List Tl}
theorem DIf.small (ok : OkF h w fl) {k : Nat} {xs line : List Tl} {c : Tl → Int} (d : DIf h w fl first k xs line c) : Small line := by
  have := d.len
  have hlen : (tilesN h w).length ≤ 24 := by rw [len_tilesN]; exact ok.few
  unfold Small
  omega
theorem t_damp_in (ok : OkF h w fl) (z : DmS) {xs : List Tl} (j : DIf h w fl first z.k xs z.line z.c) {y : Tl} (yt : y ∈ tilesN h w) :
    evSs Γ l_damp_by_0 (dEnv (webD h w fl) fd { z with o := some (T y) }) (dCells h w z) =
      some (.next (dEnv (webD h w fl) fd { z with o := some (T y) }), dCells h w ⟨z.k, if y ∉ z.line ∧ need fl y ≤ z.c y + 1 then z.line ++ [y] else z.line, updT z.c y (z.c y + 1), some (T y)⟩) := by
  have hz : Small (tilesN h w) := small_tiles ok
  have us : updT z.c y (z.c y + 1) y = z.c y + 1 := by unfold updT; rw [if_pos rfl]
  have hm : (tilesN h w).map (updT (fun t => D.int (z.c t)) y (D.int (z.c y + 1))) = (tilesN h w).map fun t => D.int (updT z.c y (z.c y + 1) t) := by
    refine List.map_congr_left fun x _ => ?_
    unfold updT
    split <;> rfl
  rw [l_damp_by_0]
  by_cases c1 : y ∈ z.line
  · simp (maxDischargeDepth := 9) +contextual [-Prod.forall, dEnv, dCells, yt, stR_T nodup_tilesN yt hz, hm, c1]
  · by_cases c2 : need fl y ≤ z.c y + 1
    · simp (maxDischargeDepth := 9) +contextual [-Prod.forall, dEnv, dCells, yt, stR_T nodup_tilesN yt hz, hm, c1, c2, ix_dicT yt, webD, webV, us, stR_Tnew c1 (j.small ok), j.small ok]
    · simp (maxDischargeDepth := 9) +contextual [-Prod.forall, dEnv, dCells, yt, stR_T nodup_tilesN yt hz, hm, c1, c2, ix_dicT yt, webD, webV, us]
theorem t_damp_turn (ok : OkF h w fl) (s : DmS) (i : DIf h w fl first s.k [] s.line s.c) (hl : s.k < s.line.length) :
    ∃ s', (∀ Γ, evSs Γ l_damp_by_1 (dEnv (webD h w fl) fd s) (dCells h w s) = some (.next (dEnv (webD h w fl) fd s'), dCells h w s')) ∧ DIf h w fl first s'.k [] s'.line s'.c ∧ s'.k ≤ s'.line.length ∧ s'.k = s.k + 1 := by
  obtain ⟨u, hu⟩ : ∃ u, s.line[s.k]? = some u := ⟨_, List.getElem?_eq_getElem hl⟩
  have ut : u ∈ tilesN h w := i.inT u (List.mem_of_getElem? hu)
  obtain ⟨s1, e1, q1, q2, q3, _⟩ := for_st (M0 := dCells h w s) (p := .var 6) (em := T) (body := fun Γ ρ M => evSs Γ l_damp_by_0 ρ M)
    (fun s => (dEnv (webD h w fl) fd s, dCells h w s)) (fun xs ys z => DIf h w fl first s.k xs z.line z.c ∧ z.k = s.k ∧ z.line[s.k]? = some u ∧ beside h w u = xs ++ ys) (fun xs y ys z ⟨j1, j2, j3, j4⟩ => by
      have yt : y ∈ tilesN h w := beside_in (t := u) (by rw [j4]; simp)
      have hk : s.k < z.line.length := (List.getElem?_eq_some_iff.mp j3).1
      refine ⟨_, ⟨z.k, if y ∉ z.line ∧ need fl y ≤ z.c y + 1 then z.line ++ [y] else z.line, updT z.c y (z.c y + 1), some (T y)⟩, rfl, fun Γ => t_damp_in ok z (j2 ▸ j1) yt, j1.step j3 j4 beside_nodup yt, j2, ?_, by rw [j4]; simp⟩
      show (if y ∉ z.line ∧ need fl y ≤ z.c y + 1 then z.line ++ [y] else z.line)[s.k]? = some u
      split
      · rw [List.getElem?_append_left hk]; exact j3
      · exact j3) (beside h w u) [] s ⟨i, rfl, hu, rfl⟩
  rw [List.nil_append] at q1
  refine ⟨⟨s.k + 1, s1.line, s1.c, s1.o⟩, fun Γ => ?_, q1.turn q3 beside_nodup, (List.getElem?_eq_some_iff.mp q3).1, rfl⟩
  have e0 : ixD (D.lst (s.line.map T)) (.int s.k) = some (T u) := ix_lstN (by rw [List.getElem?_map, hu]; rfl)
  have e2 : ixD (webD h w fl) (T u) = some (webV h w fl u) := ix_dicT ut
  have ea : evI Γ (.ex (.ix (.ix (.var 0) (.ix (.var 2) (.var 5))) (.lit (.int 1)))) (dEnv (webD h w fl) fd s) (dCells h w s) = some (.ok ((beside h w u).map T, none), dCells h w s) := by
    simp (maxDischargeDepth := 9) +contextual [-Prod.forall, dEnv, dCells, e0, e2, webV]
  rw [l_damp_by_1, evs_cons, evs_for, ea, bndS_ok]
  dsimp only at e1 ⊢
  rw [e1, seqS_next]
  simp (maxDischargeDepth := 9) +contextual [-Prod.forall, dEnv, dCells, q2]
theorem t_damp_loop (ok : OkF h w fl) (s : DmS) (i : DIf h w fl first s.k [] s.line s.c) (hk : s.k ≤ s.line.length) :
    ∃ s', (∀ Γ, evS Γ (.while (.cmp .lt (.var 5) (.blt .len [.var 2])) l_damp_by_1) (dEnv (webD h w fl) fd s) (dCells h w s) = some (.next (dEnv (webD h w fl) fd s'), dCells h w s')) ∧ Least (tilesN h w) (beside h w) (need fl) first s'.line := by
  obtain ⟨s', e1, ⟨i1, i2⟩, q1⟩ := while_st (c := fun Γ ρ M => evT Γ (.cmp .lt (.var 5) (.blt .len [.var 2])) ρ M) (body := fun Γ ρ M => evSs Γ l_damp_by_1 ρ M)
      (fun s => (dEnv (webD h w fl) fd s, dCells h w s)) (fun s => DIf h w fl first s.k [] s.line s.c ∧ s.k ≤ s.line.length) (fun s => s.line.length ≤ s.k) (fun s => 24 - s.k) (fun s ⟨i, hk⟩ => by
    by_cases hl : s.k < s.line.length
    · right
      refine ⟨fun Γ => by simp (maxDischargeDepth := 9) +contextual [-Prod.forall, dEnv, dCells, hl], ?_⟩
      obtain ⟨s', e, i', h', k'⟩ := t_damp_turn (fd := fd) ok s i hl
      refine ⟨s', e, ⟨i', h'⟩, ?_⟩
      have := i.len
      have hlen : (tilesN h w).length ≤ 24 := by rw [len_tilesN]; exact ok.few
      rw [k']
      omega
    · left
      exact ⟨fun Γ => by simp (maxDischargeDepth := 9) +contextual [-Prod.forall, dEnv, dCells, hl], by omega⟩) WF s ⟨i, hk⟩ (by show 24 - s.k < WF; unfold WF; omega)
  exact ⟨s', fun Γ => by rw [evs_while]; exact e1 Γ, i1.done q1⟩
theorem t_damp (ok : OkF h w fl) (fo : FD fd first) (hf : first.Nodup) (hi : ∀ t ∈ first, t ∈ tilesN h w) :
    ∃ line M', (∀ Γ, endF (evSs Γ b_damp_by (startE 10 [webD h w fl, fd]) []) = some (.ok (.cell 1), M')) ∧ M'[1]? = some (.dic (line.map T) (line.map fun _ => .bl true)) ∧ Least (tilesN h w) (beside h w) (need fl) first line := by
  have hz : Small (tilesN h w) := small_tiles ok
  have d0 := DI.start (bs := beside h w) (nd := need fl) hf hi nodup_tilesN fun t ht => (need0 ok ht).1
  obtain ⟨s', e, l⟩ := t_damp_loop (fd := fd) ok ⟨0, first ++ (tilesN h w).filter (fun t => decide (need fl t = 0 ∧ t ∉ first)), fun _ => 0, none⟩ d0 (by simp)
  refine ⟨s'.line, dCells h w s', fun Γ => ?_, rfl, l⟩
  have sl := DIf.small ok d0
  have sn := d0.nodup
  have e0 : List.map T first ++ (List.filter (fun a => decide (need fl a = 0) && !decide (a ∈ first)) (tilesN h w)).map T = (first ++ (tilesN h w).filter fun t => decide (need fl t = 0 ∧ t ∉ first)).map T := by
    rw [List.map_append]; simp
  generalize first ++ (tilesN h w).filter (fun t => decide (need fl t = 0 ∧ t ∉ first)) = line at *
  have e1 : evS Γ (.asg (.var 2) (.mk (.cat (.blt .list [.var 1]) (.lc (.var 7) (.tup [.var 7, .tup [.var 8, .var 9]]) (.items (.var 0)) [.and (.cmp .eq (.var 8) (.lit (.int 0))) (.cmp .notin (.var 7) (.var 1))])))) (startE 10 [webD h w fl, fd]) [] =
      some (.next [some (webD h w fl), some fd, some (.cell 0), none, none, none, none, none, none, none], [.lst (line.map T)]) := by
    simp (maxDischargeDepth := 9) +contextual [-Prod.forall, startE, fo.drf, fo.list, fo.inn, webD, webV, hz, e0, sl]
  have e2 : evS Γ (.asg (.tup [.var 3, .var 4, .var 5]) (.tup [.mk (.dc (.var 7) (.lit (.bl true)) (.var 7) (.ex (.var 2))), .mk (.dc (.var 7) (.lit (.int 0)) (.var 7) (.ex (.var 0))), .lit (.int 0)])) [some (webD h w fl), some fd, some (.cell 0), none, none, none, none, none, none, none] [.lst (line.map T)] =
      some (.next (dEnv (webD h w fl) fd ⟨0, line, fun _ => 0, none⟩), dCells h w ⟨0, line, fun _ => 0, none⟩) := by
    simp (maxDischargeDepth := 9) +contextual [-Prod.forall, dEnv, dCells, hz, sl, sn, nodup_tilesN]
  rw [b_damp_by, evs_cons, e1, seqS_next, evs_cons, e2, seqS_next, evs_cons, e, seqS_next]
  simp (maxDischargeDepth := 9) +contextual [-Prod.forall, dEnv]
theorem flat_dampV {line : List Tl} : flatD (dampV line) = true := by
  rw [dampV, flat_dic, show flatDs (line.map T) = true from flatTs _, flats_all]
  exact List.all_eq_true.mpr fun x hx => by
    obtain ⟨t, _, rfl⟩ := List.mem_map.mp hx
    rfl
theorem damp_ex (ok : OkF h w fl) (fo : FD fd first) (hf : first.Nodup) (hi : ∀ t ∈ first, t ∈ tilesN h w) :
    ∃ line, Least (tilesN h w) (beside h w) (need fl) first line ∧ ∀ n M, Pv.run Φ G (n + 1) "damp_by" [webD h w fl, fd] [] M = some (.ok (dampV line), M) := by
  obtain ⟨line, M', e, e1, l⟩ := t_damp ok fo hf hi
  refine ⟨line, l, fun n M => run_cell F_damp_by rfl rfl (by simp (maxDischargeDepth := 9) +contextual [-Prod.forall, flat_webD, fo.flat]) (e _) ?_⟩
  exact frz_of (by rw [drf_cell, e1]; rfl) flat_dampV
/-- the damp ones at the end, in the order in which damp_by finds them -/
noncomputable def dampL (h w : Nat) (fl : List (List Int)) (fd : D) (first : List Tl) : List Tl := Classical.epsilon fun line => Least (tilesN h w) (beside h w) (need fl) first line ∧ ∀ n M, Pv.run Φ G (n + 1) "damp_by" [webD h w fl, fd] [] M = some (.ok (dampV line), M)
theorem damp_least (ok : OkF h w fl) (fo : FD fd first) (hf : first.Nodup) (hi : ∀ t ∈ first, t ∈ tilesN h w) : Least (tilesN h w) (beside h w) (need fl) first (dampL h w fl fd first) := (Classical.epsilon_spec (damp_ex ok fo hf hi)).1
theorem s_damp_by (n : Nat) (ok : OkF h w fl) (fo : FD fd first) (hf : first.Nodup) (hi : ∀ t ∈ first, t ∈ tilesN h w) (M : List C) : Pv.run Φ G (n + 1) "damp_by" [webD h w fl, fd] [] M = some (.ok (dampV (dampL h w fl fd first)), M) := (Classical.epsilon_spec (damp_ex ok fo hf hi)).2 n M
end
end Sp

end T_S2
section T_S5
set_option maxRecDepth 10000
namespace Sp
open PySem Pv PvK
section
variable {Γ : Pv.Ctx} {h w : Nat} {fl : List (List Int)}
theorem s_is_floor_form (n : Nat) (ok : OkF h w fl) (M : List C) : Pv.run Φ G (n + 3) "is_floor_form" [FL fl] [] M = some (.ok (.bl true), M) := by
  refine run_pure (M' := []) F_is_floor_form rfl rfl (by simp (maxDischargeDepth := 9) +contextual [-Prod.forall, flatFL]) ?_ rfl
  obtain ⟨xs, e0, l0⟩ := ok.ix0
  have hl := ok.len
  have h1 := ok.h1
  have h6 := ok.h6
  have w1 := ok.w1
  have w6 := ok.w6
  have q1 : h ≤ 100000 := by omega
  have sf : Small fl := by unfold Small; omega
  have hr : ∀ r ∈ fl, r.length = w := ok.row
  have e2 : ((h : Int) * (w : Int)) = ((h * w : Nat) : Int) := by simp
  have few := ok.few
  have la : evE ⟨Pv.run Φ G (n + 2), G⟩ (.lc2 (.call "is_number" [.var 2, .lit (.int 0), .glob "MOST_NEED"] [] []) (.var 1) (.ex (.var 0)) (.var 2) (.ex (.var 1))) [some (FL fl), none, none] [] = some (.ok (.lst (fl.flatMap fun r => r.map fun a => D.bl (decide (0 ≤ a) && decide (a ≤ 5)))), []) := by
    refine em_lc2 (xs := fl.map fun r => .tup (r.map .int)) (by simp) ?_ ?_
    · simp (maxDischargeDepth := 9) +contextual [-Prod.forall, mlc2B, G_MOST_NEED]
    · unfold Small
      rw [len_flatMap (k := w) fun r hr' => by rw [List.length_map]; exact hr r hr', hl]
      omega
  have at' : evB .all [.lst (fl.flatMap fun r => r.map fun a => D.bl (decide (0 ≤ a) && decide (a ≤ 5)))] = some (.bl true) := all_true fun x hx => by
    obtain ⟨r, hr, hx⟩ := List.mem_flatMap.mp hx
    obtain ⟨a, ha, rfl⟩ := List.mem_map.mp hx
    have := ok.need r hr a ha
    simp (maxDischargeDepth := 9) +contextual [-Prod.forall, this]
  simp (maxDischargeDepth := 9) +contextual [-Prod.forall, f_is_floor_form, b_is_floor_form, startE, e0, l0, hl, h1, h6, w1, w6, sf, hr, G_MOST_ROWS, G_MOST_WIDE, G_MOST_TILES, -Int.natCast_mul, e2, few, q1, la, at', show ¬ ((h : Int) < 1) by omega, show ¬ (6 < (h : Int)) by omega, show ¬ ((w : Int) < 1) by omega, show ¬ (6 < (w : Int)) by omega, show ¬ (24 < ((h * w : Nat) : Int)) by omega]
@[simp] theorem s_check_floor (n : Nat) (ok : OkF h w fl) (M : List C) : Pv.run Φ G (n + 4) "check_floor" [FL fl] [] M = some (.ok .non, M) := by
  refine run_pure (M' := []) F_check_floor rfl rfl (by simp (maxDischargeDepth := 9) +contextual [-Prod.forall, flatFL]) ?_ rfl
  simp (maxDischargeDepth := 9) +contextual [-Prod.forall, f_check_floor, b_check_floor, startE, s_is_floor_form _ ok]
@[simp] theorem s_check_many (n : Nat) (ok : OkF h w fl) {k : Nat} (hk : k ≤ h * w) (M : List C) : Pv.run Φ G (n + 4) "check_many" [FL fl, .int k] [] M = some (.ok .non, M) := by
  refine run_pure (M' := []) F_check_many rfl rfl (by simp (maxDischargeDepth := 9) +contextual [-Prod.forall, flatFL]) ?_ rfl
  obtain ⟨xs, e0, l0⟩ := ok.ix0
  have hl := ok.len
  have h6 := ok.h6
  have q1 : h ≤ 100000 := by omega
  have e2 : ((h : Int) * (w : Int)) = ((h * w : Nat) : Int) := by simp
  have ec : ∀ M, Pv.run Φ G (n + 3) "check_number" [.int k, .int 0, .non] [] M = some (.ok .non, M) := fun M => by
    refine run_pure (M' := []) F_check_number rfl rfl rfl ?_ rfl
    simp (maxDischargeDepth := 9) +contextual [-Prod.forall, f_check_number, b_check_number, startE, show ¬ ((k : Int) < 0) by omega]
  simp (maxDischargeDepth := 9) +contextual [-Prod.forall, f_check_many, b_check_many, startE, ec, e0, l0, hl, q1, -Int.natCast_mul, e2, show ¬ (((h * w : Nat) : Int) < (k : Int)) by omega]
@[simp] theorem s_check_few (n : Nat) (ok : OkF h w fl) (few : h * w ≤ 12) (M : List C) : Pv.run Φ G (n + 1) "check_few" [FL fl] [] M = some (.ok .non, M) := by
  refine run_pure (M' := []) F_check_few rfl rfl (by simp (maxDischargeDepth := 9) +contextual [-Prod.forall, flatFL]) ?_ rfl
  obtain ⟨xs, e0, l0⟩ := ok.ix0
  have hl := ok.len
  have h6 := ok.h6
  have q1 : h ≤ 100000 := by omega
  have e2 : ((h : Int) * (w : Int)) = ((h * w : Nat) : Int) := by simp
  simp (maxDischargeDepth := 9) +contextual [-Prod.forall, f_check_few, b_check_few, startE, e0, l0, hl, q1, -Int.natCast_mul, e2, G_FEW_TILES, show ¬ (12 < ((h * w : Nat) : Int)) by omega]
@[simp] theorem s_check_crowd (n : Nat) (ok : OkF h w fl) (few : h * w ≤ 12) {k : Nat} (hk : k ≤ h * w) (M : List C) : Pv.run Φ G (n + 5) "check_crowd" [FL fl, .int k] [] M = some (.ok .non, M) := by
  refine run_pure (M' := []) F_check_crowd rfl rfl (by simp (maxDischargeDepth := 9) +contextual [-Prod.forall, flatFL]) ?_ rfl
  simp (maxDischargeDepth := 9) +contextual [-Prod.forall, f_check_crowd, b_check_crowd, startE, s_check_floor _ ok, s_check_many _ ok hk, s_check_few _ ok few]
/-- lots of so many tiles -/
def crowd (h w k : Nat) : List (List Tl) := combos (tilesN h w) k
theorem mem_crowd {k : Nat} {L : List Tl} : L ∈ crowd h w k ↔ IsLot h w L ∧ L.length = k := by
  unfold crowd
  rw [mem_combos]
  exact ⟨fun ⟨a, b⟩ => ⟨isLot_sub a, b⟩, fun ⟨a, b⟩ => ⟨a.sub, b⟩⟩
theorem small_crowd (few : h * w ≤ 12) {k : Nat} : Small (crowd h w k) := by
  have := len_combos (tilesN h w) k
  rw [len_tilesN] at this
  have : 2 ^ (h * w) ≤ 4096 := Nat.le_trans (Nat.pow_le_pow_right (by omega) few) (by decide)
  unfold Small crowd
  omega
noncomputable def dmp (h w : Nat) (fl : List (List Int)) (L : List Tl) : List Tl := dampL h w fl (Ts L) L
theorem dmp_mem (ok : OkF h w fl) {L : List Tl} (l : IsLot h w L) (t : Tl) : t ∈ dmp h w fl L ↔ t ∈ endN h w (need fl) L := (damp_least ok (fd_tup L) l.nodup l.2).mem (endN_least l.2) t
theorem dmp_len (ok : OkF h w fl) {L : List Tl} (l : IsLot h w L) : (dmp h w fl L).length = (endN h w (need fl) L).length := ((damp_least ok (fd_tup L) l.nodup l.2).perm (endN_least l.2)).length_eq
theorem s_crowds_in (n : Nat) (ok : OkF h w fl) (few : h * w ≤ 12) {k : Nat} (hk : k ≤ 12) (M : List C) : Pv.run Φ G (n + 7) "crowds_in" [FL fl, .int k] [] M = some (.ok (.lst ((crowd h w k).map fun L => .tup [Ts L, dampV (dmp h w fl L)])), M) := by
  refine run_pure (M' := []) F_crowds_in rfl rfl (by simp (maxDischargeDepth := 9) +contextual [-Prod.forall, flatFL]) ?_ ?_
  · have sd : ∀ L ∈ crowd h w k, ∀ M, Pv.run Φ G (n + 6) "damp_by" [webD h w fl, Ts L] [] M = some (.ok (dampV (dmp h w fl L)), M) := fun L hL M => s_damp_by _ ok (fd_tup L) (mem_crowd.mp hL).1.nodup (mem_crowd.mp hL).1.2 M
    have e1 : combos ((tilesN h w).map T) k = (crowd h w k).map (List.map T) := combos_mapM _ _
    simp (maxDischargeDepth := 9) +contextual [-Prod.forall, f_crowds_in, b_crowds_in, startE, s_web_of _ ok, s_tiles_of _ ok, show k < 1000 by omega, e1, sd, small_crowd few]
  · rw [flat_lst, flats_all]
    refine List.all_eq_true.mpr fun x hx => ?_
    obtain ⟨L, _, rfl⟩ := List.mem_map.mp hx
    simp (maxDischargeDepth := 9) +contextual [-Prod.forall, flatTs, flat_dampV]
end
end Sp

end T_S5
section T_S6
set_option maxRecDepth 10000
namespace Pv
open PySem
def leT (a b : List Tl) : Bool := leD (Ts a) (Ts b)
def IsMinT (y : List Tl) (ls : List (List Tl)) : Prop := y ∈ ls ∧ ∀ z ∈ ls, leT y z = true
theorem allTs {ls : List (List Tl)} : (ls.map Ts).all (hasSh (.seq (.two .int .int))) = true := List.all_eq_true.mpr fun x hx => by
  obtain ⟨t, _, rfl⟩ := List.mem_map.mp hx
  exact shTs t
theorem Ts_inj {as bs : List Tl} (h : Ts as = Ts bs) : as = bs := by
  unfold Ts at h
  injection h with h
  exact (List.map_inj_right fun _ _ => T_inj).mp h
theorem minT_uniq {xs ys : List (List Tl)} {a b : List Tl} (h1 : IsMinT a xs) (h2 : IsMinT b ys) (m : ∀ z, z ∈ xs ↔ z ∈ ys) : a = b := by
  have l1 := h1.2 b ((m b).mpr h2.1)
  have l2 := h2.2 a ((m a).mp h1.1)
  unfold leT at l1 l2
  rw [leD_eq, Bool.not_eq_true'] at l1 l2
  exact Ts_inj (lt_total (shTs a) (shTs b) l2 l1)
theorem min_Ts {ls : List (List Tl)} (ne : ls ≠ []) : ∃ y, minD (ls.map Ts) = some (Ts y) ∧ IsMinT y ls := by
  obtain ⟨y, e, m, l⟩ := minD_sh (allTs (ls := ls)) (by decide) (by simpa using ne)
  obtain ⟨z, hz, rfl⟩ := List.mem_map.mp m
  exact ⟨z, e, hz, fun x hx => l (Ts x) (List.mem_map.mpr ⟨x, hx, rfl⟩)⟩
theorem sort_Ts {ls : List (List Tl)} (hf : (∀ L ∈ ls, L ≠ []) ∨ ls.length ≤ 1) : sortD (ls.map Ts) = some ((ls.mergeSort leT).map Ts) := by
  rw [sortD_sh (s := .seq (.two .int .int)) allTs (by decide) (by
    rcases hf with hf | hf
    · refine .inl (.inr (List.all_eq_true.mpr fun x hx => ?_))
      obtain ⟨L, hL, rfl⟩ := List.mem_map.mp hx
      cases L with
      | nil => exact absurd rfl (hf _ hL)
      | cons t ts => rfl
    · exact .inr (by simpa using hf))]
  rw [List.map_mergeSort (r := leT) (s := leD) (f := Ts) fun a _ b _ => rfl]
theorem sort_minT {ls : List (List Tl)} {y : List Tl} {ys : List (List Tl)} (e : ls.mergeSort leT = y :: ys) : IsMinT y ls := by
  have p := List.mergeSort_perm ls leT
  have s : (ls.mergeSort leT).Pairwise fun a b => leT a b = true := List.pairwise_mergeSort (le := leT) (fun a b c h h2 => leD_trans (Ts a) (Ts b) (Ts c) h h2) (fun a b => leD_total (Ts a) (Ts b)) ls
  rw [e] at p s
  refine ⟨p.mem_iff.mp List.mem_cons_self, fun z hz => ?_⟩
  rcases List.mem_cons.mp (p.mem_iff.mpr hz) with rfl | hz
  · unfold leT; rw [leD_eq, lt_irrefl]; rfl
  · exact (List.pairwise_cons.mp s).1 z hz
end Pv
namespace Sp
open PySem Pv PvK
section
variable {Γ : Pv.Ctx} {h w : Nat} {fl : List (List Int)} {M : List C}
@[simp] theorem drf_dampV {L : List Tl} : drf M (dampV L) = dampV L := rfl
@[simp] theorem len_dampV {L : List Tl} : evB .len [dampV L] = some (.int L.length) := by unfold dampV; simp
@[simp] theorem in_dampV {L : List Tl} {t : Tl} : inD (T t) (dampV L) = some (decide (t ∈ L)) := in_dicT
/-- the first lots with the most dry ones -/
def best (h w : Nat) (fl : List (List Int)) (m : Int) (ls : List (List Tl)) : List (List Tl) := ls.filter fun L => decide ((h * w : Nat) - ((endN h w (need fl) L).length : Int) = m)
structure IsBest (h w : Nat) (fl : List (List Int)) (ls : List (List Tl)) (m : Int) (y : List Tl) : Prop where
  ex : ∃ L ∈ ls, (h * w : Nat) - ((endN h w (need fl) L).length : Int) = m
  all : ∀ L ∈ ls, (h * w : Nat) - ((endN h w (need fl) L).length : Int) ≤ m
  min : IsMinT y (best h w fl m ls)
theorem IsBest.uniq {xs ys : List (List Tl)} {m m' : Int} {y y' : List Tl} (a : IsBest h w fl xs m y) (b : IsBest h w fl ys m' y') (hm : ∀ z, z ∈ xs ↔ z ∈ ys) : m = m' ∧ y = y' := by
  have e : m = m' := by
    obtain ⟨L, hL, e⟩ := a.ex
    obtain ⟨L', hL', e'⟩ := b.ex
    have := a.all L' ((hm _).mpr hL')
    have := b.all L ((hm _).mp hL)
    omega
  subst e
  refine ⟨rfl, minT_uniq a.min b.min fun z => ?_⟩
  unfold best
  rw [List.mem_filter, List.mem_filter, hm]
theorem crowd_ne {k : Nat} (hk : k ≤ h * w) : crowd h w k ≠ [] := by
  have : ((tilesN h w).take k) ∈ crowd h w k := mem_crowd.mpr ⟨isLot_sub (List.take_sublist _ _), by rw [List.length_take, len_tilesN]; omega⟩
  exact List.ne_nil_of_mem this
theorem s_driest_in (n : Nat) (ok : OkF h w fl) (few : h * w ≤ 12) {k : Nat} (hk : k ≤ h * w) : ∃ m y, IsBest h w fl (crowd h w k) m y ∧ ∀ M, Pv.run Φ G (n + 8) "driest_in" [FL fl, .int k] [] M = some (.ok (.tup [.int m, Ts y]), M) := by
  obtain ⟨m, e1, m1, m2⟩ := maxD_int (f := fun L => 0 - ((dmp h w fl L).length : Int)) (crowd_ne hk)
  have dl : ∀ L ∈ crowd h w k, (dmp h w fl L).length = (endN h w (need fl) L).length := fun L hL => dmp_len ok (mem_crowd.mp hL).1
  have eb : (crowd h w k).filter (fun L => decide (0 - ((dmp h w fl L).length : Int) = m)) = best h w fl ((h * w : Nat) + m) (crowd h w k) := by
    unfold best
    refine List.filter_congr fun L hL => ?_
    rw [dl L hL, Bool.eq_iff_iff, decide_eq_true_iff, decide_eq_true_iff]
    omega
  have ne : best h w fl ((h * w : Nat) + m) (crowd h w k) ≠ [] := by
    obtain ⟨L, hL, e⟩ := m1
    rw [← eb]
    exact List.ne_nil_of_mem (List.mem_filter.mpr ⟨hL, decide_eq_true e⟩)
  obtain ⟨y, e2, hy⟩ := min_Ts ne
  refine ⟨(h * w : Nat) + m, y, ⟨?_, fun L hL => ?_, hy⟩, fun M => ?_⟩
  · obtain ⟨L, hL, e⟩ := m1
    have := dl L hL
    exact ⟨L, hL, by omega⟩
  · have := m2 L hL
    have := dl L hL
    omega
  · refine run_pure (M' := []) F_driest_in rfl rfl (by simp (maxDischargeDepth := 9) +contextual [-Prod.forall, flatFL]) ?_ (by simp (maxDischargeDepth := 9) +contextual [-Prod.forall, flatTs])
    have sc := small_crowd (h := h) (w := w) (k := k) few
    have e0 : ((crowd h w k).map fun L => D.int (0 - ((dmp h w fl L).length : Int))) = (crowd h w k).map fun L => D.int (-((dmp h w fl L).length : Int)) := List.map_congr_left fun L _ => by rw [Int.zero_sub]
    rw [e0] at e1
    have eb' : (crowd h w k).filter (fun L => decide (-((dmp h w fl L).length : Int) = m)) = best h w fl ((h * w : Nat) + m) (crowd h w k) := by
      rw [← eb]
      exact List.filter_congr fun L hL => by rw [Int.zero_sub]
    have sb : Small (best h w fl ((h * w : Nat) + m) (crowd h w k)) := small_filter sc
    simp (maxDischargeDepth := 9) +contextual [-Prod.forall, f_driest_in, b_driest_in, startE, s_crowds_in _ ok few (show k ≤ 12 by omega), sc, e1, eb', e2, sb, s_tiles_of _ ok, len_tilesN, -Int.natCast_mul]
theorem s_most (n : Nat) (ok : OkF h w fl) (few : h * w ≤ 12) {k : Nat} (hk : k ≤ h * w) : ∃ m y, IsBest h w fl (crowd h w k) m y ∧
    (∀ M, Pv.run Φ G (n + 9) "most_dry" [FL fl, .int k] [] M = some (.ok (.int m), M)) ∧ (∀ M, Pv.run Φ G (n + 9) "most_dry" [FL fl] [("many", .int k)] M = some (.ok (.int m), M)) ∧
    (∀ M, Pv.run Φ G (n + 9) "driest_lot" [FL fl, .int k] [] M = some (.ok (Ts y), M)) ∧ (∀ M, Pv.run Φ G (n + 9) "driest_lot" [FL fl] [("many", .int k)] M = some (.ok (Ts y), M)) := by
  obtain ⟨m, y, hb, e⟩ := s_driest_in n ok few hk
  refine ⟨m, y, hb, fun M => ?_, fun M => ?_, fun M => ?_, fun M => ?_⟩
  · refine run_pure (M' := []) F_most_dry rfl rfl (by simp (maxDischargeDepth := 9) +contextual [-Prod.forall, flatFL]) ?_ rfl
    simp (maxDischargeDepth := 9) +contextual [-Prod.forall, f_most_dry, b_most_dry, startE, s_check_crowd _ ok few hk, e]
  · refine run_pure (M' := []) F_most_dry rfl rfl (by simp (maxDischargeDepth := 9) +contextual [-Prod.forall, flatFL]) ?_ rfl
    simp (maxDischargeDepth := 9) +contextual [-Prod.forall, f_most_dry, b_most_dry, startE, s_check_crowd _ ok few hk, e]
  · refine run_pure (M' := []) F_driest_lot rfl rfl (by simp (maxDischargeDepth := 9) +contextual [-Prod.forall, flatFL]) ?_ (flatTs _)
    simp (maxDischargeDepth := 9) +contextual [-Prod.forall, f_driest_lot, b_driest_lot, startE, s_check_crowd _ ok few hk, e]
  · refine run_pure (M' := []) F_driest_lot rfl rfl (by simp (maxDischargeDepth := 9) +contextual [-Prod.forall, flatFL]) ?_ (flatTs _)
    simp (maxDischargeDepth := 9) +contextual [-Prod.forall, f_driest_lot, b_driest_lot, startE, s_check_crowd _ ok few hk, e]
/-- the tiles that are in all ends -/
def sureL (h w : Nat) (fl : List (List Int)) (ls : List (List Tl)) : List Tl := (tilesN h w).filter fun t => ls.all fun L => decide (t ∈ endN h w (need fl) L)
theorem s_surely (n : Nat) (ok : OkF h w fl) (few : h * w ≤ 12) {k : Nat} (hk : k ≤ h * w) (kw : Bool) (M : List C) : Pv.run Φ G (n + 9) "surely_by" (if kw then [FL fl] else [FL fl, .int k]) (if kw then [("many", .int k)] else []) M = some (.ok (Ts (sureL h w fl (crowd h w k))), M) := by
  have e : endF (evSs ⟨Pv.run Φ G (n + 8), G⟩ f_surely_by.body (startE f_surely_by.many [FL fl, .int k]) []) = some (.ok (Ts (sureL h w fl (crowd h w k))), []) := by
    have sc := small_crowd (h := h) (w := w) (k := k) few
    have sz := small_tiles ok
    have es : (tilesN h w).filter (fun t => decide (∀ L, L ∈ crowd h w k → t ∈ dmp h w fl L)) = sureL h w fl (crowd h w k) := by
      unfold sureL
      refine List.filter_congr fun t _ => ?_
      rw [Bool.eq_iff_iff, List.all_eq_true, decide_eq_true_iff]
      refine forall_congr' fun L => forall_congr' fun hL => ?_
      rw [decide_eq_true_iff, dmp_mem ok (mem_crowd.mp hL).1]
    simp (maxDischargeDepth := 9) +contextual [-Prod.forall, f_surely_by, b_surely_by, startE, s_check_crowd _ ok few hk, s_crowds_in _ ok few (show k ≤ 12 by omega), sc, sz, s_tiles_of _ ok, es, show Small (sureL h w fl (crowd h w k)) from small_filter sz]
  cases kw with
  | true => exact run_pure F_surely_by rfl rfl (by simp (maxDischargeDepth := 9) +contextual [-Prod.forall, flatFL]) e (flatTs _)
  | false => exact run_pure F_surely_by rfl rfl (by simp (maxDischargeDepth := 9) +contextual [-Prod.forall, flatFL]) e (flatTs _)
end
end Sp

end T_S6
section T_S7
set_option maxRecDepth 10000
namespace Sp
open PySem Pv PvK
section
variable {Γ : Pv.Ctx} {h w : Nat} {fl : List (List Int)} {M : List C}
/-- the law's own lots of so many tiles -/
def ownL (h w k : Nat) : List (List Tl) := (setsL (tilesN h w)).filter fun L => decide ((L.length : Int) = k)
theorem mem_ownL {k : Nat} {L : List Tl} : L ∈ ownL h w k ↔ IsLot h w L ∧ L.length = k := by
  unfold ownL
  rw [List.mem_filter, mem_setsL, decide_eq_true_iff]
  exact ⟨fun ⟨a, b⟩ => ⟨isLot_sub a, by omega⟩, fun ⟨a, b⟩ => ⟨a.sub, by omega⟩⟩
theorem small_ownL (few : h * w ≤ 12) {k : Nat} : Small (ownL h w k) ∧ Small (setsL (tilesN h w)) := by
  have : 2 ^ (h * w) ≤ 4096 := Nat.le_trans (Nat.pow_le_pow_right (by omega) few) (by decide)
  have h2 : Small (setsL (tilesN h w)) := by unfold Small; rw [len_setsL, len_tilesN]; omega
  exact ⟨small_filter h2, h2⟩
theorem eqD_Tsnil {ts : List (List Tl)} : eqD (.lst (ts.map Ts)) (.lst []) = some (decide (ts = [])) := eqD_lTsnil
abbrev R6 := Option D × Option D × Option D × Option D × Option D × Option D
def rtEnv (h w : Nat) (fl : List (List Int)) (i : Nat) (k : Option D) (r : R6) : Pv.Env := [some (.cell i), some (FL fl), some (Ts (tilesN h w)), k, r.1, r.2.1, r.2.2.1, r.2.2.2.1, r.2.2.2.2.1, r.2.2.2.2.2, none, none, none, none]
theorem s_law_right_in (n : Nat) (ok : OkF h w fl) (few : h * w ≤ 12) {k : Nat} (hk : k ≤ h * w) (i : Nat) (r : R6) :
    ∃ r', evSs ⟨Pv.run Φ G (n + 20), G⟩ l__law_right_0 (rtEnv h w fl i (some (.int k)) r) M = some (.next (rtEnv h w fl i (some (.int k)) r'), M) := by
  obtain ⟨s1, s2⟩ := small_ownL (h := h) (w := w) few (k := k)
  have sz := small_tiles ok
  obtain ⟨m, y, hb, p1, p2, p3, p4⟩ := s_most (n + 11) ok few hk
  have q1 := s_surely (n + 11) ok few hk false
  have q2 := s_surely (n + 11) ok few hk true
  have ne : ownL h w k ≠ [] := by
    obtain ⟨L, hL⟩ := List.exists_mem_of_ne_nil _ (crowd_ne hk)
    exact List.ne_nil_of_mem (mem_ownL.mpr (mem_crowd.mp hL))
  obtain ⟨m', e1, m1, m2⟩ := maxD_int (f := fun L => ((h * w : Nat) : Int) - ((endN h w (need fl) L).length : Int)) ne
  have le : ∀ L ∈ ownL h w k, ∀ M, Pv.run Φ G (n + 20) "_law_end" [FL fl, Ts L] [] M = some (.ok (Ts (endN h w (need fl) L)), M) := fun L hL M => s_law_end (n + 14) ok (mem_ownL.mp hL).1.nodup (mem_ownL.mp hL).1.2 M
  have sets : ∀ M, Pv.run Φ G (n + 20) "_law_sets" [Ts (tilesN h w)] [] M = _ := s_law_sets (n + 19) (tilesN h w) (by rw [len_tilesN]; exact few)
  have same : ∀ (d : D) M, okD 3 d → Pv.run Φ G (n + 20) "_law_same" [d, d] [] M = some (.ok (.bl true), M) := fun d M hd => s_law_same 3 (n + 16) d M hd
  have f1 : (setsL (tilesN h w)).filter (fun L => decide ((L.length : Int) = k)) = ownL h w k := rfl
  have hm : (h * w : Nat) ≤ 100000 := by omega
  have hM : ∀ z, z ∈ crowd h w k ↔ z ∈ ownL h w k := fun z => by rw [mem_crowd, mem_ownL]
  have es : sureL h w fl (crowd h w k) = sureL h w fl (ownL h w k) := by
    unfold sureL
    refine List.filter_congr fun t _ => ?_
    rw [Bool.eq_iff_iff, List.all_eq_true, List.all_eq_true]
    exact forall_congr' fun z => by rw [hM]
  have best0 : best h w fl m' (ownL h w k) ≠ [] := by
    obtain ⟨L, hL, e⟩ := m1
    exact List.ne_nil_of_mem (List.mem_filter.mpr ⟨hL, decide_eq_true e⟩)
  obtain ⟨y', ys', ey⟩ : ∃ y ys, (best h w fl m' (ownL h w k)).mergeSort leT = y :: ys := by
    have hn : (best h w fl m' (ownL h w k)).mergeSort leT ≠ [] := fun e => best0 (by have := (List.mergeSort_perm (best h w fl m' (ownL h w k)) leT).length_eq; rw [e] at this; exact List.length_eq_zero_iff.mp this.symm)
    match e : (best h w fl m' (ownL h w k)).mergeSort leT, hn with
    | y :: ys, _ => exact ⟨y, ys, rfl⟩
  have hb' : IsBest h w fl (ownL h w k) m' y' := ⟨m1, m2, sort_minT ey⟩
  obtain ⟨rfl, rfl⟩ := hb.uniq hb' hM
  have so : sortD ((best h w fl m (ownL h w k)).map Ts) = some (Ts y :: ys'.map Ts) := by
    rw [sort_Ts, ey]
    · rfl
    · rcases Nat.eq_zero_or_pos k with rfl | hk0
      · right
        have : ∀ L ∈ best h w fl m (ownL h w 0), L ∈ [([] : List Tl)] := fun L hL => by
          have := (mem_ownL.mp (List.mem_filter.mp hL).1).2
          rw [List.length_eq_zero_iff.mp this]
          exact List.mem_cons_self
        have nd : (best h w fl m (ownL h w 0)).Nodup := by
          refine List.Pairwise.filter _ (List.Pairwise.filter _ ?_)
          exact (List.mergeSort_perm _ leL).nodup_iff.mpr (nodup_subsF _ nodup_tilesN)
        exact List.Nodup.length_le_of_subset nd this
      · left
        intro L hL e
        have := (mem_ownL.mp (List.mem_filter.mp hL).1).2
        rw [e] at this
        simp at this
        omega
  have sm1 : Small (best h w fl m (ownL h w k)) := small_filter s1
  have yL : y ∈ ownL h w k := (List.mem_filter.mp hb'.min.1).1
  have sy : Small y := by have := (mem_ownL.mp yL).2; unfold Small; omega
  have ss : Small (sureL h w fl (ownL h w k)) := small_filter sz
  have same1 : ∀ M, Pv.run Φ G (n + 20) "_law_same" [.tup [.int m, .int m], .tup [.int m, .int m]] [] M = some (.ok (.bl true), M) := fun M => same _ M (okD_two (k := 2) trivial)
  have same2 : ∀ M, Pv.run Φ G (n + 20) "_law_same" [.tup [Ts y, Ts y], .tup [Ts y, Ts y]] [] M = some (.ok (.bl true), M) := fun M => same _ M (okD_two (okD_Ts sy))
  have same3 : ∀ M, Pv.run Φ G (n + 20) "_law_same" [.tup [Ts (sureL h w fl (ownL h w k)), Ts (sureL h w fl (ownL h w k))], .tup [Ts (sureL h w fl (ownL h w k)), Ts (sureL h w fl (ownL h w k))]] [] M = some (.ok (.bl true), M) := fun M => same _ M (okD_two (okD_Ts ss))
  rw [es] at q1 q2
  rw [if_neg (by decide), if_neg (by decide)] at q1
  rw [if_pos rfl, if_pos rfl] at q2
  have p1' : ∀ M, Pv.run Φ G (n + 20) "most_dry" [FL fl, .int k] [] M = some (.ok (.int m), M) := p1
  have p2' : ∀ M, Pv.run Φ G (n + 20) "most_dry" [FL fl] [("many", .int k)] M = some (.ok (.int m), M) := p2
  have p3' : ∀ M, Pv.run Φ G (n + 20) "driest_lot" [FL fl, .int k] [] M = some (.ok (Ts y), M) := p3
  have p4' : ∀ M, Pv.run Φ G (n + 20) "driest_lot" [FL fl] [("many", .int k)] M = some (.ok (Ts y), M) := p4
  have q1' : ∀ M, Pv.run Φ G (n + 20) "surely_by" [FL fl, .int k] [] M = some (.ok (Ts (sureL h w fl (ownL h w k))), M) := q1
  have q2' : ∀ M, Pv.run Φ G (n + 20) "surely_by" [FL fl] [("many", .int k)] M = some (.ok (Ts (sureL h w fl (ownL h w k))), M) := q2
  refine ⟨(some (.lst ((ownL h w k).map Ts)), some (.lst ((ownL h w k).map fun L => Ts (endN h w (need fl) L))), some (.lst ((ownL h w k).map fun L => D.int (((h * w : Nat) : Int) - ((endN h w (need fl) L).length : Int)))), some (.int m), some (Ts (sureL h w fl (ownL h w k))), some (Ts y)), ?_⟩
  rw [l__law_right_0]
  unfold rtEnv
  refine sq_asg (.lst ((ownL h w k).map Ts)) (M1 := M) (by simp (maxDischargeDepth := 9) +contextual [-Prod.forall, sets, s2, f1, s1]) (by simp) ?_
  refine sq_asg (.lst ((ownL h w k).map fun L => Ts (endN h w (need fl) L))) (M1 := M) (by simp (maxDischargeDepth := 9) +contextual [-Prod.forall, le, s1]) (by simp) ?_
  refine sq_asg (.lst ((ownL h w k).map fun L => D.int (((h * w : Nat) : Int) - ((endN h w (need fl) L).length : Int)))) (M1 := M) (by simp (maxDischargeDepth := 9) +contextual [-Prod.forall, s1, len_tilesN]) (by simp) ?_
  refine sq_asg (.int m) (M1 := M) (by simp (maxDischargeDepth := 9) +contextual [-Prod.forall, e1, -Int.natCast_mul]) (by simp) ?_
  refine sq_asg (Ts (sureL h w fl (ownL h w k))) (M1 := M) ?_ (by simp) ?_
  · have : (tilesN h w).filter (fun a => decide (∀ L, L ∈ ownL h w k → a ∈ endN h w (need fl) L)) = sureL h w fl (ownL h w k) := by
      unfold sureL
      refine List.filter_congr fun t _ => ?_
      rw [Bool.eq_iff_iff, List.all_eq_true, decide_eq_true_iff]
      refine forall_congr' fun L => forall_congr' fun hL => ?_
      rw [decide_eq_true_iff]
    simp (maxDischargeDepth := 9) +contextual [-Prod.forall, s1, sz, this, ss]
  refine sq_asg (Ts y) (M1 := M) ?_ (by simp) ?_
  · have er : ((List.range (ownL h w k).length).filter fun a => decide ((h : Int) * (w : Int) - ((endN h w (need fl) ((ownL h w k)[a]?.getD [])).length : Int) = m)).map (fun a => Ts ((ownL h w k)[a]?.getD [])) = (best h w fl m (ownL h w k)).map Ts :=
      range_fm (z := []) (p := fun L => decide ((h : Int) * (w : Int) - ((endN h w (need fl) L).length : Int) = m)) (v := Ts)
    have i1 : ∀ a, a ∈ List.range (ownL h w k).length → ixD (.lst ((ownL h w k).map Ts)) (.int a) = some (Ts ((ownL h w k)[a]?.getD [])) := fun a ha => ix_range (f := Ts) (List.mem_range.mp ha)
    have i2 : ∀ a, a ∈ List.range (ownL h w k).length → ixD (.lst ((ownL h w k).map fun L => D.int ((h : Int) * (w : Int) - ((endN h w (need fl) L).length : Int)))) (.int a) = some (D.int ((h : Int) * (w : Int) - ((endN h w (need fl) ((ownL h w k)[a]?.getD [])).length : Int))) := fun a ha => ix_range (f := fun L => D.int ((h : Int) * (w : Int) - ((endN h w (need fl) L).length : Int))) (List.mem_range.mp ha)
    simp (maxDischargeDepth := 9) +contextual [-Prod.forall, rangeR_nat s1, i1, i2, -List.mem_range, er, sm1, so]
  refine sq_if0 (M1 := M) (by simp (maxDischargeDepth := 9) +contextual [-Prod.forall, p1', p2', same1]) ?_
  refine sq_if0 (M1 := M) (by simp (maxDischargeDepth := 9) +contextual [-Prod.forall, p3', p4', same2]) ?_
  refine sq_if0 (M1 := M) (by simp (maxDischargeDepth := 9) +contextual [-Prod.forall, q1', q2', same3]) ?_
  refine sq_nil ?_
  simp
theorem s_law_right (n : Nat) {i : Nat} (hw : WellAt i M) : ∃ M', Pv.run Φ G (n + 21) "_law_right" [.cell i] [] M = some (.ok (.bl true), M') ∧ Dr i M M' := by
  obtain ⟨h, w, fl, M1, e1, d1, ok, few⟩ := s_law_floor (n + 16) (most := 8) hw (by omega) (by omega)
  refine ⟨M1, run_imp F__law_right rfl rfl ?_, d1⟩
  obtain ⟨s', e, _⟩ := for_st (M0 := M1) (p := .var 3) (body := fun (_ : Unit) ρ M => evSs ⟨Pv.run Φ G (n + 20), G⟩ l__law_right_0 ρ M) (em := fun (i : Nat) => D.int i) (fun (s : Option D × R6) => (rtEnv h w fl i s.1 s.2, M1))
    (fun xs ys s => ∀ y ∈ ys, y ≤ h * w) (fun xs y ys s j => by
      obtain ⟨r', e⟩ := s_law_right_in (M := M1) n ok (by omega) (j y List.mem_cons_self) i s.2
      exact ⟨_, (some (.int y), r'), rfl, fun _ => e, fun z hz => j z (List.mem_cons_of_mem _ hz)⟩) (List.range (h * w + 1)) [] (none, (none, none, none, none, none, none)) (fun y hy => by have := List.mem_range.mp hy; omega)
  have e := e ()
  show endF (evSs _ b__law_right [some (.cell i), none, none, none, none, none, none, none, none, none, none, none, none, none] M) = _
  rw [b__law_right]
  have c8 : (8 : Int) = ((8 : Nat) : Int) := rfl
  have ef : endF (evSs ⟨Pv.run Φ G (n + 20), G⟩ [.asg (.var 1) (.call "_law_floor" [.var 0, .lit (.int 8)] [] []), .asg (.var 2) (.call "_law_tiles" [.var 1] [] []), .for (.var 3) (.range [.bin .add (.blt .len [.var 2]) (.lit (.int 1))]) l__law_right_0, .ret (.lit (.bl true))] [some (.cell i), none, none, none, none, none, none, none, none, none, none, none, none, none] M) = endF (some (.ret (.bl true), M1)) := by
    congr 1
    refine sq_asg (FL fl) (M1 := M1) (by simp; exact e1) (by simp) ?_
    refine sq_asg (Ts (tilesN h w)) (M1 := M1) (by simp (maxDischargeDepth := 9) +contextual [-Prod.forall, s_law_tiles _ ok]) (by simp) ?_
    have ec : ((h * w : Nat) : Int) + 1 = ((h * w + 1 : Nat) : Int) := by simp
    refine sq_for (ds := (List.range (h * w + 1)).map fun (i : Nat) => D.int i) (g := none) (M1 := M1) (by simp (maxDischargeDepth := 9) +contextual [-Prod.forall, len_tilesN, -Int.natCast_mul, -Int.natCast_add, ec, rangeR_nat (show h * w + 1 ≤ 100000 by omega)]) e ?_
    exact sq_ret (d := .bl true) (M1 := M1) (by simp) rfl
  exact ef
theorem s_law_well (n : Nat) {ns : List Int} {lap : Nat} (hl : lap < 2) (hs : ns.length ≤ 63) (M : List C) : ∃ a b c, Pv.run Φ G (n + 1) "_law_well" [.lst (ns.map .int), .int lap] [] M = some (.ok (.cell M.length), M ++ [wl a b c]) := by
  have e1 := for_fold (M := M) (p := .var 3) (body := fun ρ M => evSs ⟨Pv.run Φ G n, G⟩ l__law_well_0 ρ M) (em := fun (c : Int) => D.int c) (ρs := fun (b : Int × Option D) => [some (.lst (ns.map .int)), some (.int lap), some (.int b.1), b.2, none])
    (g := fun b c => ((b.1 * 45281 + c % 2147483549 + 19) % 2147483563, some (.int c))) (ns.take 12) (130577 + 7013 * (lap : Int), none) (fun a _ b => ⟨_, rfl, by
      rw [l__law_well_0]
      simp (maxDischargeDepth := 9) +contextual [-Prod.forall, bin_mod, bin_mulc]⟩)
  generalize (ns.take 12).foldl _ _ = b at e1
  have lt : ∃ own : Int, evE ⟨Pv.run Φ G n, G⟩ (.ite (.cmp .lt (.var 1) (.blt .len [.var 0])) (.blt .int [.ix (.var 0) (.var 1)]) (.lit (.int 0))) [some (.lst (ns.map .int)), some (.int lap), some (.int b.1), b.2, none] M = some (.ok (.int own), M) := by
    by_cases c : lap < ns.length
    · refine ⟨ns[lap]?.getD 0, ?_⟩
      have : ixD (.lst (ns.map .int)) (.int lap) = some (.int (ns[lap]?.getD 0)) := ix_range (f := D.int) c
      simp (maxDischargeDepth := 9) +contextual [-Prod.forall, c, this]
    · exact ⟨0, by simp (maxDischargeDepth := 9) +contextual [-Prod.forall, c]⟩
  obtain ⟨own, e2⟩ := lt
  have la : ∃ a : Int, evE ⟨Pv.run Φ G n, G⟩ (.ite (.or (.cmp .lt (.var 4) (.lit (.int 0))) (.cmp .ge (.var 4) (.bin .pow (.lit (.int 10)) (.lit (.int 15))))) (.blt .abs [.var 4]) (.lit (.int 0))) [some (.lst (ns.map .int)), some (.int lap), some (.int ((b.1 * 41 + own % 2147483549 * 15031 + 5) % 2147483563)), b.2, some (.int own)] M = some (.ok (.int a), M) := by
    have p : binX .pow (.int 10) (.int 15) = some (.int 1000000000000000) := by
      unfold binX
      exact cif_pos (by decide)
    have ab : ∀ i : Int, evB .abs [.int i] = some (.int (if i < 0 then -i else i)) := fun i => rfl
    by_cases c : own < 0 ∨ 1000000000000000 ≤ own
    · exact ⟨_, by simp (maxDischargeDepth := 9) +contextual [-Prod.forall, p, c, ab]; rfl⟩
    · exact ⟨0, by simp (maxDischargeDepth := 9) +contextual [-Prod.forall, p, c]⟩
  obtain ⟨a, e3⟩ := la
  refine ⟨a, (b.1 * 41 + own % 2147483549 * 15031 + 5) % 2147483563, 0, run_imp F__law_well rfl rfl ?_⟩
  have c12 : sliceD (.lst (ns.map .int)) none (some (.int 12)) = some (.lst ((ns.take 12).map .int)) := by
    rw [List.map_take]
    exact cut_to (k := 12)
  have ef : endF (evSs ⟨Pv.run Φ G n, G⟩ b__law_well [some (.lst (ns.map .int)), some (.int lap), none, none, none] M) = endF (some (.ret (.cell M.length), M ++ [wl a ((b.1 * 41 + own % 2147483549 * 15031 + 5) % 2147483563) 0])) := by
    congr 1
    rw [b__law_well]
    refine sq_asg (.int (130577 + 7013 * (lap : Int))) (M1 := M) (by simp (maxDischargeDepth := 9) +contextual [-Prod.forall, bin_mulc']) (by simp) ?_
    refine sq_for (ds := (ns.take 12).map .int) (g := none) (M1 := M) (by simp (maxDischargeDepth := 9) +contextual [-Prod.forall, c12]) e1 ?_
    refine sq_asg (.int own) (M1 := M) e2 (by simp) ?_
    refine sq_asg (.int ((b.1 * 41 + own % 2147483549 * 15031 + 5) % 2147483563)) (M1 := M) (by simp (maxDischargeDepth := 9) +contextual [-Prod.forall, bin_mod, bin_mulc]) (by simp) ?_
    refine sq_ret (d := .cell M.length) (M1 := M ++ [wl a ((b.1 * 41 + own % 2147483549 * 15031 + 5) % 2147483563) 0]) ?_ rfl
    rw [em_mk, em_lst, em_cons]
    simp only [List.set_cons_succ, List.set_cons_zero]
    rw [e3]
    simp (maxDischargeDepth := 9) +contextual [-Prod.forall, wl]
  exact ef
theorem s_law (n : Nat) {ns : List Int} (hs : ns.length ≤ 63) : ∃ M', runA Φ G (n + 22) "law" [.lst (ns.map D.int)] [] = some (.ok (.bl true), M') := by
  obtain ⟨a, b, c, w0⟩ := s_law_well (n + 20) (ns := ns) (lap := 0) (by omega) hs []
  obtain ⟨a', b', c', w1⟩ := s_law_well (n + 20) (ns := ns) (lap := 1) (by omega) hs [wl a b c]
  have fl : flatDs [D.lst (ns.map D.int)] = true := by
    rw [flats_cons, flat_lst, flats_all]
    simp
  have r0 : rangeR [.int 2] [] = some (.ok ([.int 0, .int 1], none), []) := rangeR_nat (n := 2) (by omega)
  have e1 : evE ⟨Pv.run Φ G (n + 21), G⟩ (.lc (.call "_law_well" [.var 0, .var 2] [] []) (.var 2) (.range [.lit (.int 2)]) []) [some (.lst (ns.map .int)), none, none, none] [] = some (.ok (.lst [.cell 0, .cell 1]), [wl a b c, wl a' b' c']) := by
    have w0' : Pv.run Φ G (n + 21) "_law_well" [.lst (ns.map .int), .int 0] [] [] = _ := w0
    have w1' : Pv.run Φ G (n + 21) "_law_well" [.lst (ns.map .int), .int 1] [] [wl a b c] = _ := w1
    rw [em_lc]
    simp (maxDischargeDepth := 9) +contextual [-Prod.forall, -lcLoop_eq, r0, lcLoop, w0', w1']
    rw [szd_ok]
    unfold Small
    simp
  obtain ⟨vs, M2, e2, _, l, q⟩ := em_lc_inv (Γ := ⟨Pv.run Φ G (n + 21), G⟩) (elt := .call "_law_right" [.ix (.var 1) (.bin .mod (.blt .int [.var 3]) (.lit (.int 2)))] [] []) (v := 3) (it := .range [.lit (.int 6)]) (ρ := [some (.lst (ns.map .int)), some (.lst [.cell 0, .cell 1]), none, none]) (M := [wl a b c, wl a' b' c'])
    (ds := (List.range 6).map fun (i : Nat) => D.int i) (J := fun M => WellAt 0 M ∧ WellAt 1 M) (Q := fun v => v = .bl true) (by
      have := rangeR_nat (M := [wl a b c, wl a' b' c']) (n := 6) (by omega)
      simp
      exact this) ⟨⟨_, _, _, rfl⟩, ⟨_, _, _, rfl⟩⟩ (by simp) (by simp) (fun d hd M ⟨j0, j1⟩ => by
      obtain ⟨k, _, rfl⟩ := List.mem_map.mp hd
      have hk : (k : Int) % 2 = 0 ∨ (k : Int) % 2 = 1 := by omega
      rcases hk with hk | hk
      · obtain ⟨M', e, d⟩ := s_law_right n j0
        refine ⟨.bl true, M', ?_, ⟨j0.dr d, j1.dr d⟩, rfl⟩
        simp (maxDischargeDepth := 9) +contextual [-Prod.forall, bin_mod, hk]
        exact e
      · obtain ⟨M', e, d⟩ := s_law_right n j1
        refine ⟨.bl true, M', ?_, ⟨j0.dr d, j1.dr d⟩, rfl⟩
        simp (maxDischargeDepth := 9) +contextual [-Prod.forall, bin_mod, hk]
        exact e)
  have ef : endF (evSs ⟨Pv.run Φ G (n + 21), G⟩ b_law [some (.lst (ns.map .int)), none, none, none] []) = endF (some (.ret (.bl true), M2)) := by
    congr 1
    rw [b_law]
    refine sq_asg (.lst [.cell 0, .cell 1]) e1 (by simp) ?_
    refine sq_ret (d := .bl true) (M1 := M2) ?_ rfl
    rw [em_blt, em_cons]
    simp only [List.set_cons_succ, List.set_cons_zero]
    rw [e2]
    simp (maxDischargeDepth := 9) +contextual [-Prod.forall, all_true q]
  have hf : Φ "law" = some f_law := F_law
  rw [runA, hf]
  dsimp only
  rw [runB, fl, Bool.and_true]
  refine ⟨[], ?_⟩
  rw [if_pos (show f_law.pure = true from rfl), show startE f_law.many [D.lst (ns.map D.int)] = [some (.lst (ns.map .int)), none, none, none] from rfl, show f_law.body = b_law from rfl, ef]
  rfl
end
end Sp
namespace PvK
open PySem Pv
theorem law_true : ∀ ns : List Int, ns.length ≤ 63 → ∃ M', runA Φ G 100 "law" [.lst (ns.map D.int)] [] = some (.ok (.bl true), M') := fun ns hs => Sp.s_law 78 hs
end PvK

end T_S7
section T_Kc
set_option maxRecDepth 100000
set_option maxHeartbeats 0
namespace PvK
open PySem PySem.Spec PyProof.Rows L2 Pv
section
variable {P : Program} {w : World} {K : PySem.W.Frag} {h : Heap} {mg : Str → Option Value}
theorem defs_ok (X : K.In h) (Gn : h.Ns mainGlobals mg) (c : He.SaysD fa fn K) : ∀ d ∈ dts, DefOk K mg kws 60 d.x d.F := by
  unfold dts
  refine List.forall_mem_cons.mpr ⟨(let ⟨fd, F⟩ := c.def_ 0 (d := e_is_whole) rfl; DefT.defOk ok_is_whole (He.glo_ok X Gn (c.fact 0 (f := .glo "is_whole") rfl)) F), ?_⟩
  refine List.forall_mem_cons.mpr ⟨(let ⟨fd, F⟩ := c.def_ 1 (d := e_is_number) rfl; DefT.defOk ok_is_number (He.glo_ok X Gn (c.fact 1 (f := .glo "is_number") rfl)) F), ?_⟩
  refine List.forall_mem_cons.mpr ⟨(let ⟨fd, F⟩ := c.def_ 2 (d := e_is_tuple_of) rfl; DefT.defOk ok_is_tuple_of (He.glo_ok X Gn (c.fact 2 (f := .glo "is_tuple_of") rfl)) F), ?_⟩
  refine List.forall_mem_cons.mpr ⟨(let ⟨fd, F⟩ := c.def_ 3 (d := e_is_floor_form) rfl; DefT.defOk ok_is_floor_form (He.glo_ok X Gn (c.fact 3 (f := .glo "is_floor_form") rfl)) F), ?_⟩
  refine List.forall_mem_cons.mpr ⟨(let ⟨fd, F⟩ := c.def_ 4 (d := e_is_tile_of) rfl; DefT.defOk ok_is_tile_of (He.glo_ok X Gn (c.fact 4 (f := .glo "is_tile_of") rfl)) F), ?_⟩
  refine List.forall_mem_cons.mpr ⟨(let ⟨fd, F⟩ := c.def_ 5 (d := e_is_tile) rfl; DefT.defOk ok_is_tile (He.glo_ok X Gn (c.fact 5 (f := .glo "is_tile") rfl)) F), ?_⟩
  refine List.forall_mem_cons.mpr ⟨(let ⟨fd, F⟩ := c.def_ 6 (d := e_tiles_of) rfl; DefT.defOk ok_tiles_of (He.glo_ok X Gn (c.fact 6 (f := .glo "tiles_of") rfl)) F), ?_⟩
  refine List.forall_mem_cons.mpr ⟨(let ⟨fd, F⟩ := c.def_ 7 (d := e_need_in) rfl; DefT.defOk ok_need_in (He.glo_ok X Gn (c.fact 7 (f := .glo "need_in") rfl)) F), ?_⟩
  refine List.forall_mem_cons.mpr ⟨(let ⟨fd, F⟩ := c.def_ 8 (d := e_beside_of) rfl; DefT.defOk ok_beside_of (He.glo_ok X Gn (c.fact 8 (f := .glo "beside_of") rfl)) F), ?_⟩
  refine List.forall_mem_cons.mpr ⟨(let ⟨fd, F⟩ := c.def_ 9 (d := e_web_of) rfl; DefT.defOk ok_web_of (He.glo_ok X Gn (c.fact 9 (f := .glo "web_of") rfl)) F), ?_⟩
  refine List.forall_mem_cons.mpr ⟨(let ⟨fd, F⟩ := c.def_ 10 (d := e_damp_by) rfl; DefT.defOk ok_damp_by (He.glo_ok X Gn (c.fact 10 (f := .glo "damp_by") rfl)) F), ?_⟩
  refine List.forall_mem_cons.mpr ⟨(let ⟨fd, F⟩ := c.def_ 11 (d := e_check_number) rfl; DefT.defOk ok_check_number (He.glo_ok X Gn (c.fact 11 (f := .glo "check_number") rfl)) F), ?_⟩
  refine List.forall_mem_cons.mpr ⟨(let ⟨fd, F⟩ := c.def_ 12 (d := e_check_many) rfl; DefT.defOk ok_check_many (He.glo_ok X Gn (c.fact 12 (f := .glo "check_many") rfl)) F), ?_⟩
  refine List.forall_mem_cons.mpr ⟨(let ⟨fd, F⟩ := c.def_ 13 (d := e_check_floor) rfl; DefT.defOk ok_check_floor (He.glo_ok X Gn (c.fact 13 (f := .glo "check_floor") rfl)) F), ?_⟩
  refine List.forall_mem_cons.mpr ⟨(let ⟨fd, F⟩ := c.def_ 14 (d := e_check_few) rfl; DefT.defOk ok_check_few (He.glo_ok X Gn (c.fact 14 (f := .glo "check_few") rfl)) F), ?_⟩
  refine List.forall_mem_cons.mpr ⟨(let ⟨fd, F⟩ := c.def_ 15 (d := e_check_crowd) rfl; DefT.defOk ok_check_crowd (He.glo_ok X Gn (c.fact 15 (f := .glo "check_crowd") rfl)) F), ?_⟩
  refine List.forall_mem_cons.mpr ⟨(let ⟨fd, F⟩ := c.def_ 16 (d := e_crowds_in) rfl; DefT.defOk ok_crowds_in (He.glo_ok X Gn (c.fact 16 (f := .glo "crowds_in") rfl)) F), ?_⟩
  refine List.forall_mem_cons.mpr ⟨(let ⟨fd, F⟩ := c.def_ 17 (d := e_driest_in) rfl; DefT.defOk ok_driest_in (He.glo_ok X Gn (c.fact 17 (f := .glo "driest_in") rfl)) F), ?_⟩
  refine List.forall_mem_cons.mpr ⟨(let ⟨fd, F⟩ := c.def_ 18 (d := e_most_dry) rfl; DefT.defOk ok_most_dry (He.glo_ok X Gn (c.fact 18 (f := .glo "most_dry") rfl)) F), ?_⟩
  refine List.forall_mem_cons.mpr ⟨(let ⟨fd, F⟩ := c.def_ 19 (d := e_driest_lot) rfl; DefT.defOk ok_driest_lot (He.glo_ok X Gn (c.fact 19 (f := .glo "driest_lot") rfl)) F), ?_⟩
  refine List.forall_mem_cons.mpr ⟨(let ⟨fd, F⟩ := c.def_ 20 (d := e_surely_by) rfl; DefT.defOk ok_surely_by (He.glo_ok X Gn (c.fact 20 (f := .glo "surely_by") rfl)) F), ?_⟩
  refine List.forall_mem_cons.mpr ⟨(let ⟨fd, F⟩ := c.def_ 21 (d := e__law_well) rfl; DefT.defOk ok__law_well (He.glo_ok X Gn (c.fact 21 (f := .glo "_law_well") rfl)) F), ?_⟩
  refine List.forall_mem_cons.mpr ⟨(let ⟨fd, F⟩ := c.def_ 22 (d := e__law_draw) rfl; DefT.defOk ok__law_draw (He.glo_ok X Gn (c.fact 22 (f := .glo "_law_draw") rfl)) F), ?_⟩
  refine List.forall_mem_cons.mpr ⟨(let ⟨fd, F⟩ := c.def_ 23 (d := e__law_of) rfl; DefT.defOk ok__law_of (He.glo_ok X Gn (c.fact 23 (f := .glo "_law_of") rfl)) F), ?_⟩
  refine List.forall_mem_cons.mpr ⟨(let ⟨fd, F⟩ := c.def_ 24 (d := e__law_same) rfl; DefT.defOk ok__law_same (He.glo_ok X Gn (c.fact 24 (f := .glo "_law_same") rfl)) F), ?_⟩
  refine List.forall_mem_cons.mpr ⟨(let ⟨fd, F⟩ := c.def_ 25 (d := e__law_sets) rfl; DefT.defOk ok__law_sets (He.glo_ok X Gn (c.fact 25 (f := .glo "_law_sets") rfl)) F), ?_⟩
  refine List.forall_mem_cons.mpr ⟨(let ⟨fd, F⟩ := c.def_ 26 (d := e__law_sized) rfl; DefT.defOk ok__law_sized (He.glo_ok X Gn (c.fact 26 (f := .glo "_law_sized") rfl)) F), ?_⟩
  refine List.forall_mem_cons.mpr ⟨(let ⟨fd, F⟩ := c.def_ 27 (d := e__law_floor) rfl; DefT.defOk ok__law_floor (He.glo_ok X Gn (c.fact 27 (f := .glo "_law_floor") rfl)) F), ?_⟩
  refine List.forall_mem_cons.mpr ⟨(let ⟨fd, F⟩ := c.def_ 28 (d := e__law_tiles) rfl; DefT.defOk ok__law_tiles (He.glo_ok X Gn (c.fact 28 (f := .glo "_law_tiles") rfl)) F), ?_⟩
  refine List.forall_mem_cons.mpr ⟨(let ⟨fd, F⟩ := c.def_ 29 (d := e__law_near) rfl; DefT.defOk ok__law_near (He.glo_ok X Gn (c.fact 29 (f := .glo "_law_near") rfl)) F), ?_⟩
  refine List.forall_mem_cons.mpr ⟨(let ⟨fd, F⟩ := c.def_ 30 (d := e__law_damp_beside) rfl; DefT.defOk ok__law_damp_beside (He.glo_ok X Gn (c.fact 30 (f := .glo "_law_damp_beside") rfl)) F), ?_⟩
  refine List.forall_mem_cons.mpr ⟨(let ⟨fd, F⟩ := c.def_ 31 (d := e__law_can) rfl; DefT.defOk ok__law_can (He.glo_ok X Gn (c.fact 31 (f := .glo "_law_can") rfl)) F), ?_⟩
  refine List.forall_mem_cons.mpr ⟨(let ⟨fd, F⟩ := c.def_ 32 (d := e__law_rounds) rfl; DefT.defOk ok__law_rounds (He.glo_ok X Gn (c.fact 32 (f := .glo "_law_rounds") rfl)) F), ?_⟩
  refine List.forall_mem_cons.mpr ⟨(let ⟨fd, F⟩ := c.def_ 33 (d := e__law_end) rfl; DefT.defOk ok__law_end (He.glo_ok X Gn (c.fact 33 (f := .glo "_law_end") rfl)) F), ?_⟩
  refine List.forall_mem_cons.mpr ⟨(let ⟨fd, F⟩ := c.def_ 34 (d := e__law_right) rfl; DefT.defOk ok__law_right (He.glo_ok X Gn (c.fact 34 (f := .glo "_law_right") rfl)) F), ?_⟩
  refine List.forall_mem_cons.mpr ⟨(let ⟨fd, F⟩ := c.def_ 35 (d := e_law) rfl; DefT.defOk ok_law (He.glo_ok X Gn (c.fact 35 (f := .glo "law") rfl)) F), ?_⟩
  exact fun _ h => absurd h (by simp)
theorem tab_mem : ∀ {ds : List DefT} {x : Str} {F : Fn}, (ds.map fun d => (d.x, d.F)).lookup x = some F → ∃ d ∈ ds, d.x = x ∧ d.F = F := fun {ds x F} h => by
  have m := lookup_mem h
  obtain ⟨d, hd, e⟩ := List.mem_map.mp m
  cases e
  exact ⟨d, hd, rfl, rfl⟩
theorem all_ok (X : K.In h) (Gn : h.Ns mainGlobals mg) (c : He.SaysD fa fn K) : ∀ x F, Φ x = some F → DefOk K mg kws 60 x F := fun x F e => by
  rw [Φ_eq] at e
  obtain ⟨d, hd, rfl, rfl⟩ := tab_mem e
  exact defs_ok X Gn c d hd
theorem glob_ok (X : K.In h) (Gn : h.Ns mainGlobals mg) (c : He.SaysD fa fn K) : ∀ x d, G x = some d → ∃ u v, mg x = some u ∧ RelV v u ∧ ∀ ψ φ H M, Cells ⟨P, w, K, mg⟩ ψ φ H M → Rep ⟨P, w, K, mg⟩ ψ φ H d v := fun x d e => by
  have m := lookup_mem e
  revert m
  suffices z : ∀ p ∈ ([(("MOST_ROWS" : Str), D.int 6), (("MOST_WIDE" : Str), D.int 6), (("MOST_TILES" : Str), D.int 24), (("MOST_NEED" : Str), D.int 5), (("FEW_TILES" : Str), D.int 12)] : List (Str × D)), ∃ u v, mg p.1 = some u ∧ RelV v u ∧ ∀ ψ φ H M, Cells ⟨P, w, K, mg⟩ ψ φ H M → Rep ⟨P, w, K, mg⟩ ψ φ H p.2 v from z (x, d)
  refine List.forall_mem_cons.mpr ⟨(let ⟨t, ht⟩ := He.int_ok X Gn (c.fact 36 (f := .int "MOST_ROWS" 6) rfl); ⟨.int 6 t, .int 6, ht, ⟨t, rfl⟩, fun _ _ _ _ _ => .mkInt⟩), ?_⟩
  refine List.forall_mem_cons.mpr ⟨(let ⟨t, ht⟩ := He.int_ok X Gn (c.fact 37 (f := .int "MOST_WIDE" 6) rfl); ⟨.int 6 t, .int 6, ht, ⟨t, rfl⟩, fun _ _ _ _ _ => .mkInt⟩), ?_⟩
  refine List.forall_mem_cons.mpr ⟨(let ⟨t, ht⟩ := He.int_ok X Gn (c.fact 38 (f := .int "MOST_TILES" 24) rfl); ⟨.int 24 t, .int 24, ht, ⟨t, rfl⟩, fun _ _ _ _ _ => .mkInt⟩), ?_⟩
  refine List.forall_mem_cons.mpr ⟨(let ⟨t, ht⟩ := He.int_ok X Gn (c.fact 39 (f := .int "MOST_NEED" 5) rfl); ⟨.int 5 t, .int 5, ht, ⟨t, rfl⟩, fun _ _ _ _ _ => .mkInt⟩), ?_⟩
  refine List.forall_mem_cons.mpr ⟨(let ⟨t, ht⟩ := He.int_ok X Gn (c.fact 40 (f := .int "FEW_TILES" 12) rfl); ⟨.int 12 t, .int 12, ht, ⟨t, rfl⟩, fun _ _ _ _ _ => .mkInt⟩), ?_⟩
  exact fun _ h => absurd h (by simp)
theorem blt_ok (X : K.In h) (Gn : h.Ns mainGlobals mg) (c : He.SaysD fa fn K) : ∀ x ∈ bltNames, mg x = none := by
  unfold bltNames
  refine List.forall_mem_cons.mpr ⟨He.free_ok X Gn (c.fact 41 (f := .free "len") rfl), ?_⟩
  refine List.forall_mem_cons.mpr ⟨He.free_ok X Gn (c.fact 42 (f := .free "tuple") rfl), ?_⟩
  refine List.forall_mem_cons.mpr ⟨He.free_ok X Gn (c.fact 43 (f := .free "list") rfl), ?_⟩
  refine List.forall_mem_cons.mpr ⟨He.free_ok X Gn (c.fact 44 (f := .free "sorted") rfl), ?_⟩
  refine List.forall_mem_cons.mpr ⟨He.free_ok X Gn (c.fact 45 (f := .free "min") rfl), ?_⟩
  refine List.forall_mem_cons.mpr ⟨He.free_ok X Gn (c.fact 46 (f := .free "max") rfl), ?_⟩
  refine List.forall_mem_cons.mpr ⟨He.free_ok X Gn (c.fact 47 (f := .free "all") rfl), ?_⟩
  refine List.forall_mem_cons.mpr ⟨He.free_ok X Gn (c.fact 48 (f := .free "any") rfl), ?_⟩
  refine List.forall_mem_cons.mpr ⟨He.free_ok X Gn (c.fact 49 (f := .free "sum") rfl), ?_⟩
  refine List.forall_mem_cons.mpr ⟨He.free_ok X Gn (c.fact 50 (f := .free "abs") rfl), ?_⟩
  refine List.forall_mem_cons.mpr ⟨He.free_ok X Gn (c.fact 51 (f := .free "int") rfl), ?_⟩
  refine List.forall_mem_cons.mpr ⟨He.free_ok X Gn (c.fact 52 (f := .free "divmod") rfl), ?_⟩
  refine List.forall_mem_cons.mpr ⟨He.free_ok X Gn (c.fact 53 (f := .free "range") rfl), ?_⟩
  refine List.forall_mem_cons.mpr ⟨He.free_ok X Gn (c.fact 54 (f := .free "zip") rfl), ?_⟩
  refine List.forall_mem_cons.mpr ⟨He.free_ok X Gn (c.fact 55 (f := .free "enumerate") rfl), ?_⟩
  refine List.forall_mem_cons.mpr ⟨He.free_ok X Gn (c.fact 56 (f := .free "isinstance") rfl), ?_⟩
  refine List.forall_mem_cons.mpr ⟨He.free_ok X Gn (c.fact 57 (f := .free "bool") rfl), ?_⟩
  refine List.forall_mem_cons.mpr ⟨He.free_ok X Gn (c.fact 58 (f := .free "str") rfl), ?_⟩
  refine List.forall_mem_cons.mpr ⟨He.free_ok X Gn (c.fact 59 (f := .free "dict") rfl), ?_⟩
  exact fun _ h => absurd h (by simp)
theorem dom_ok : ∀ p ∈ kws, p.1 ≠ "combinations" → ∃ F, Φ p.1 = some F := by
  have h : (kws.all fun p => p.1 == ("combinations" : Str) || (Φ p.1).isSome) = true := by decide +kernel
  exact fun p hp hn => Option.isSome_iff_exists.mp ((Bool.or_eq_true _ _ ▸ List.all_eq_true.mp h p hp : _ ∨ _).resolve_left fun e => hn (eq_of_beq e))
end
theorem law_rep {P : Program} {w : World} {K : PySem.W.Frag} {mg : Str → Option Value} {H : Hp} : ∀ ns : List Int, Reps ⟨P, w, K, mg⟩ [] [] H (ns.map D.int) (ns.map V.int)
  | [] => .nil
  | n :: ns => .cons .mkInt (law_rep ns)
end PvK
open PySem PySem.W PySem.Calls PyProof.Rows
theorem PySem.Challenge.cw_damptiles_k75_whole_crowds_holds : PySem.Challenge.rw_damptiles_k75_whole_crowds.Holds := by
  w_on; o_law
  refine HandSHeadRun.head_imp (r := OpenLaw.row PySem.Challenge.rw_damptiles_k75_whole_crowds) (q := view (OpenLaw.row PySem.Challenge.rw_damptiles_k75_whole_crowds).prog [0, 52]) (H := PvK.hk) (ob := PvK.ob) (M := 6000) (loose := PvK.lo) (d := HandSHeadRun.topDef (OpenLaw.row PySem.Challenge.rw_damptiles_k75_whole_crowds).prog 52) (kwd := []) PvK.ob_eq
    PvK.run (by kernel_rfl) (by kernel_rfl) (by kernel_rfl) (by rfl) (by first | assumption | decide +kernel) (by decide +kernel) ⟨rfl, rfl, rfl, rfl, rfl, by decide +kernel⟩ ?hw ?hc
  case hw => w_witness2
  case hc =>
    refine L2.walk_ofE (l := PySem.Challenge.rw_damptiles_k75_whole_crowds) (n := 63) (k := 100) (x := "script") (CX := L2.CX0) rfl (by decide) (by kernel_rfl) ⟨rfl, by decide, by decide⟩ ?F (fun _ _ _ _ z => z)
    intro w mg fa h Y G hmg0
    obtain ⟨K, KX, c, cco⟩ := Y
    have hmg : mg ("law" : PySem.Str) = some (.ref fa) := by
      have e : (HandSHeadRun.topDef (OpenLaw.row PySem.Challenge.rw_damptiles_k75_whole_crowds).prog 52).name = ("law" : PySem.Str) := by kernel_rfl
      rw [← e]
      exact hmg0
    obtain ⟨fd, F⟩ := c.def_ 35 (d := PvK.e_law) rfl
    have efa : fa = He.ga K "law" := by
      have := hmg.symm.trans (He.glo_ok KX G (c.fact 35 (f := .glo "law") rfl))
      cases this
      rfl
    subst efa
    have b := L2.FunD.bindsA (ps := ["script"]) F PvK.bi_law
    refine ⟨K, fd, Pv.spF ⟨(PySem.Challenge.rw_damptiles_k75_whole_crowds).prog, w, K, mg⟩ PvK.Φ PvK.G 100 "law" 1, KX, fun s v => b s [v] rfl, fun H a ns hl _ hS => ?_, fun base KB GB => ?_⟩
    · obtain ⟨M', e⟩ := PvK.law_true ns hl
      refine ⟨[], [], [], [.lst (ns.map Pv.D.int)], _, M', ⟨rfl, List.nodup_nil, (fun _ m => nomatch m), (fun _ m => nomatch m), fun _ _ _ h => by simp at h⟩, ?_, rfl, e, fun φ' H' _ _ v r => r.bl⟩
      refine .cons ?_ .nil
      rw [Pv.Rep]
      refine ⟨a, ns.map L2.V.int, rfl, ?_, PvK.law_rep ns⟩
      rcases hS with hS | hS
      · exact .inl ⟨(fun m => nomatch m), (fun m => nomatch m), hS⟩
      · exact .inr (.inr hS)
    · exact Pv.fn_at (Pv.tab_ok (P := (PySem.Challenge.rw_damptiles_k75_whole_crowds).prog) (w := w) (base := base) (PvK.all_ok KX G c) (PvK.glob_ok KX G c) (PvK.blt_ok KX G c) PvK.dom_ok (fun _ => Pv.co_mg KX G cco) 99) (F := PvK.f_law) (x := "law") (qual := "law") (st := PvK.st 52) (N := PvK.n_law) (m := 60) rfl F (Pv.fscB_ok PvK.ok_law.sc) PvK.ok_law.many PvK.ok_law.ck

end T_Kc
