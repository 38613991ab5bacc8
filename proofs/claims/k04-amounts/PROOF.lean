import PyProof.Rows.All
import HandS.ForMost
import HandS.Walk
import HandS.More
import HandS.SetKeys
import HandS.DeepEq
import HandS.IsInst
import HandS.WordsDict
import HandS.TupAny
import HandS.Style
import HandS.SortInts
import HandS.ListEq
import HandS.DictEq
import PyProof.NeKinds
import PyProof.Rows.TmSorted
import PyProof.Rows.StrMeet
import HandS.Set
import HandS.SetFor
import HandS.Strs
import HandS.ExcOwn
import HandS.Small
import HandS.WordsExc
import PySem.Challenge.RW_allplaced_k04_amounts_labels_and_numbers
set_option Elab.async false
set_option linter.all false
set_option maxRecDepth 100000
/-! Mi: a small interpreter over plain values, for the Python that the program and its laws are written in. -/
namespace Mi
open PySem L2

/-- a value as it is told; ref: a thing with a life of its own (kept in the store) -/
inductive D where
  | non
  | bl (b : Bool)
  | int (i : Int)
  | str (x : Str)
  | tup (l : List D)
  | lst (l : List D)
  | dct (l : List (Key × D))
  | dcT (l : List (List Key × D))
  | ref (n : Nat)
  /-- the script that is handed in -/
  | scr (ns : List Int)
  deriving Inhabited

/-! ### dicts as rows in order -/
section
variable {κ α : Type} [DecidableEq κ]
def look (l : List (κ × α)) (k : κ) : Option α := (l.find? fun p => decide (p.1 = k)).map (·.2)
def put (l : List (κ × α)) (k : κ) (v : α) : List (κ × α) :=
  if l.any (fun p => decide (p.1 = k)) then l.map fun p => if p.1 = k then (p.1, v) else p else l ++ [(k, v)]
def merge (l more : List (κ × α)) : List (κ × α) := more.foldl (fun acc p => put acc p.1 p.2) l
end

/-! ### keys -/
def keyD : Key → D
  | .inl i => .int i
  | .inr x => .str x
def D.key? : D → Option Key
  | .int i => some (.inl i)
  | .str x => some (.inr x)
  | _ => none
def keys? : List D → Option (List Key)
  | [] => some []
  | d :: r => match d.key?, keys? r with
    | some k, some ks => some (k :: ks)
    | _, _ => none
def D.keyT? : D → Option (List Key)
  | .tup l => keys? l
  | _ => none

/-! ### kinds of rows -/
def ints? : List D → Option (List Int)
  | [] => some []
  | .int i :: r => (ints? r).map (i :: ·)
  | _ :: _ => none
def strs? : List D → Option (List Str)
  | [] => some []
  | .str x :: r => (strs? r).map (x :: ·)
  | _ :: _ => none
def bls? : List D → Option (List Bool)
  | [] => some []
  | .bl b :: r => (bls? r).map (b :: ·)
  | _ :: _ => none
/-- pairs whose first is a key -/
def pairs? : List D → Option (List (Key × D))
  | [] => some []
  | .tup [k, v] :: r => match k.key?, pairs? r with
    | some k, some rs => some ((k, v) :: rs)
    | _, _ => none
  | _ :: _ => none

/-- a display's keys and values, in turn -/
def rows? : List D → Option (List (Key × D))
  | [] => some []
  | k :: v :: r => match k.key?, rows? r with
    | some k, some rs => some ((k, v) :: rs)
    | _, _ => none
  | _ :: _ => none

/-! ### equal, as Python's == -/
mutual
def D.eqv : D → D → Bool
  | .non, .non => true
  | .bl a, .bl b => a == b
  | .bl a, .int j => (if a then 1 else 0) == j
  | .int i, .bl b => i == (if b then 1 else 0)
  | .int i, .int j => i == j
  | .str x, .str y => x == y
  | .tup l, .tup r => eqvs l r
  | .lst l, .lst r => eqvs l r
  | .dct l, .dct r => l.length == r.length && eqvd l r
  | .dcT l, .dcT r => l.length == r.length && eqvt l r
  | _, _ => false
def eqvs : List D → List D → Bool
  | [], [] => true
  | a :: l, b :: r => D.eqv a b && eqvs l r
  | _, _ => false
def eqvd : List (Key × D) → List (Key × D) → Bool
  | [], _ => true
  | (k, v) :: l, r => (match look r k with | some u => D.eqv v u | none => false) && eqvd l r
def eqvt : List (List Key × D) → List (List Key × D) → Bool
  | [], _ => true
  | (k, v) :: l, r => (match look r k with | some u => D.eqv v u | none => false) && eqvt l r
end
/-- flat: none, bool, int, text -/
def D.flat : D → Bool
  | .non | .bl _ | .int _ | .str _ => true
  | _ => false
/-- flat: none, bool, int, text; a list or tuple -/
def D.seq : D → Bool
  | .tup _ | .lst _ => true
  | _ => false
def eqAll (f : D → D → Bool) : List D → List D → Bool
  | a :: l, b :: r => f a b && eqAll f l r
  | _, _ => true
def eqKey (f : D → D → Bool) (r : List (Key × D)) : List (Key × D) → Bool
  | [] => true
  | (k, v) :: l => (match look r k with | some u => f v u | none => true) && eqKey f r l
/-- data whose == is told -/
def eqOK : Nat → D → D → Bool
  | 0, _, _ => false
  | n + 1, d, e => match d, e with
    | .lst l, .lst r => l.length != r.length || eqAll (eqOK n) l r
    | .tup l, .tup r => eqAll (eqOK n) l r
    | .dct l, .dct r => decide ((l.map (·.1)).Nodup) && (l.length != r.length || eqKey (eqOK n) r l)
    | d, e => (d.flat && e.flat) || (d.flat && e.seq) || (d.seq && e.flat) || (d.seq && e.seq)

/-! ### order -/
def ltStr (x y : Str) : Bool := decide (x.cps.toList < y.cps.toList)
def leStr (x y : Str) : Bool := !ltStr y x
def insBy {α : Type} (le : α → α → Bool) (a : α) : List α → List α
  | [] => [a]
  | b :: r => if le a b then a :: b :: r else b :: insBy le a r
def sortBy {α : Type} (le : α → α → Bool) : List α → List α
  | [] => []
  | a :: r => insBy le a (sortBy le r)
def sortI (l : List Int) : List Int := sortBy (fun a b => decide (a ≤ b)) l
def sortS (l : List Str) : List Str := sortBy leStr l
/-- sorted(xs) -/
def sorted? (l : List D) : Option (List D) :=
  match ints? l with
  | some ns => if ns.length < 64 then some ((sortI ns).map D.int) else none
  | none => match strs? l with
    | some xs => if xs.length < 64 then some ((sortS xs).map D.str) else none
    | none => none
def dedup {α : Type} [DecidableEq α] : List α → List α
  | [] => []
  | a :: r => if a ∈ r then dedup r else a :: dedup r
/-- sorted(set(xs)) of texts -/
def sortSet? (l : List D) : Option (List D) :=
  match strs? l with
  | some xs => if xs.length < 64 then some ((sortS (dedup xs)).map D.str) else none
  | none => none

/-! ### the language -/
inductive Op2 where | add | sub | mul | fdiv | mod | pow
  deriving DecidableEq, Repr, Inhabited
inductive OpC where | eq | ne | lt | le | gt | ge | is | isnot | isin | notin
  deriving DecidableEq, Repr, Inhabited
/-- built-in functions -/
inductive Bi where
  | len | all | any | sum | min | max | abs | int | str | bool | list | tuple | dict | sorted | sortset | lenset | isinst (c : String)
  deriving DecidableEq, Repr, Inhabited
inductive Tg where
  | name (i : Nat)
  | tup (is : List Nat)
  deriving DecidableEq, Repr, Inhabited
mutual
inductive E where
  | var (i : Nat)
  | pk (i : Nat)
  | non | bl (b : Bool) | int (i : Int) | str (x : Str)
  | tup (es : Es) | lst (es : Es)
  | dct (es : Es)
  | neg (a : E) | not (a : E) | and (a b : E) | or (a b : E)
  | bin (o : Op2) (a b : E) | cmp (o : OpC) (a b : E) | chain (o o' : OpC) (a b c : E)
  | ite (c a b : E)
  | idx (a i : E) | cut (a lo hi : E)
  | call (f : String) (es : Es) | bi (f : Bi) (es : Es)
  | get (o : E) (es : Es)
  | lc (own : List Nat) (t : Tg) (src : It) (c : E) (e : E)
inductive Es where
  | nil
  | cons (e : E) (r : Es)
inductive It where
  | over (e : E)
  | range (es : Es)
end
instance : Inhabited E := ⟨.non⟩
mutual
inductive S where
  | asg (t : Tg) (e : E)
  | par (i j : Nat) (a b : E)
  | sub (n : Nat) (i e : E)
  | augv (i : Nat) (o : Op2) (e : E)
  | augs (n : Nat) (i : E) (op : Op2) (e : E)
  | app (i : Nat) (e : E)
  | expr (e : E)
  | ret (e : E)
  | iff (c : E) (a b : Ss)
  | wh (c : E) (b : Ss)
  | fr (t : Tg) (src : It) (b : Ss)
  | frz (is : List Nat)
  | box (i : Nat) (e : E)
inductive Ss where
  | nil
  | cons (s : S) (r : Ss)
end
instance : Inhabited Ss := ⟨.nil⟩

/-! ### states -/
/-- what a slot holds; own: a list or dict of the def's own that nobody else holds -/
abbrev Sl := Option (D × Bool)
abbrev Rho := List Sl
/-- a thing of the store: a dict or list with a life of its own -/
inductive AO where
  | box (d : D)
  deriving Inhabited
abbrev AH := List AO
/-- an error of the text's own, its class and what it was made with -/
structure Exn where
  c : String
  d : D
  deriving Inhabited
inductive Res (α : Type) where
  | ok (a : α)
  | exc (x : Exn) (h : AH)
  | stuck
  deriving Inhabited
def Res.bind {α β : Type} (r : Res α) (k : α → Res β) : Res β := match r with
  | .ok a => k a
  | .exc x h => .exc x h
  | .stuck => .stuck
@[simp] theorem Res.bind_exc {α β : Type} (x : Exn) (h : AH) (k : α → Res β) : (Res.exc x h : Res α).bind k = .exc x h := rfl
@[simp] theorem Res.bind_ok {α β : Type} (a : α) (k : α → Res β) : (Res.ok a).bind k = k a := rfl
@[simp] theorem Res.bind_stuck {α β : Type} (k : α → Res β) : (Res.stuck : Res α).bind k = .stuck := rfl
def Res.of {α : Type} : Option α → Res α
  | some a => .ok a
  | none => .stuck
@[simp] theorem Res.of_some {α : Type} (a : α) : Res.of (some a) = .ok a := rfl
@[simp] theorem Res.of_none {α : Type} : Res.of (none : Option α) = .stuck := rfl
def guard' (b : Bool) {α : Type} (r : Res α) : Res α := if b then r else .stuck

/-! ### operations on values -/
def big : Nat := 16777216
def bin (o : Op2) (x y : D) : Res D := match o, x, y with
  | .add, .int i, .int j => .ok (.int (i + j))
  | .sub, .int i, .int j => .ok (.int (i - j))
  | .mul, .int i, .int j => guard' (decide (-(2 ^ 64) < i ∧ i < 2 ^ 64) || decide (-(2 ^ 64) < j ∧ j < 2 ^ 64)) (.ok (.int (i * j)))
  | .fdiv, .int i, .int j => guard' (decide (j ≠ 0 ∧ j.natAbs < 1073741824)) (.ok (.int (i.fdiv j)))
  | .mod, .int i, .int j => guard' (decide (j ≠ 0)) (.ok (.int (i.fmod j)))
  | .pow, .int i, .int j => guard' (decide (0 ≤ j ∧ j ≤ 1000000 ∧ i.natAbs < 2 ^ 64)) (.ok (.int (i ^ j.toNat)))
  | .add, .str a, .str b => guard' (decide (a.length + b.length ≤ big)) (.ok (.str (a ++ b)))
  | .add, .lst a, .lst b => guard' (decide (a.length + b.length ≤ big)) (.ok (.lst (a ++ b)))
  | .add, .tup a, .tup b => guard' (decide (a.length + b.length ≤ big)) (.ok (.tup (a ++ b)))
  | _, _, _ => .stuck
def isIn (x y : D) : Res Bool := match y with
  | .lst l | .tup l => guard' (x.flat && l.all D.flat) (.ok (l.any fun y => D.eqv y x))
  | .dct l => match x.key? with
    | some k => .ok (look l k).isSome
    | none => .stuck
  | _ => .stuck
def isB (x y : D) : Res Bool := match y with
  | .non => .ok (match x with | .non => true | _ => false)
  | .bl b => match x with
    | .bl a => .ok (decide (a = b))
    | _ => .stuck
  | _ => .stuck
def eqB (x y : D) : Res Bool := guard' (eqOK 50 x y) (.ok (D.eqv x y))
def cmp (o : OpC) (x y : D) : Res Bool := match o with
  | .eq => eqB x y
  | .ne => (eqB x y).bind fun b => .ok (!b)
  | .isin => isIn x y
  | .notin => (isIn x y).bind fun b => .ok (!b)
  | .is => isB x y
  | .isnot => (isB x y).bind fun b => .ok (!b)
  | .lt => match x, y with
    | .int i, .int j => .ok (decide (i < j))
    | .str a, .str b => .ok (ltStr a b)
    | _, _ => .stuck
  | .le => match x, y with
    | .int i, .int j => .ok (decide (i ≤ j))
    | .str a, .str b => .ok (leStr a b)
    | _, _ => .stuck
  | .gt => match x, y with
    | .int i, .int j => .ok (decide (j < i))
    | .str a, .str b => .ok (ltStr b a)
    | _, _ => .stuck
  | .ge => match x, y with
    | .int i, .int j => .ok (decide (j ≤ i))
    | .str a, .str b => .ok (leStr b a)
    | _, _ => .stuck
/-- x[i] -/
def idx (x i : D) : Res D := match x, i with
  | .lst l, .int k | .tup l, .int k => .of (atI l k)
  | .scr l, .int k => .of ((atI l k).map D.int)
  | .str z, .int k => match atI z.cps.toList k with
    | some c => guard' (decide (z.length ≤ big)) (.ok (.str ⟨#[c]⟩))
    | none => .stuck
  | .dct l, _ => match i.key? with
    | some k => .of (look l k)
    | none => .stuck
  | _, _ => .stuck
def cutL {α : Type} (xs : List α) (lo hi : Option Int) : List α := (xs.drop (HT.sIx xs.length 0 lo)).take (HT.sIx xs.length xs.length hi - HT.sIx xs.length 0 lo)
def cut (x : D) (l h : Option Int) : Res D := match x with
  | .lst xs => .ok (.lst (cutL xs l h))
  | .tup xs => .ok (.tup (cutL xs l h))
  | _ => .stuck
def D.isDct : D → Bool
  | .dct _ => true
  | _ => false
/-- d.get(..) -/
def getD (o : D) (es : List D) : Res D := match o, es with
  | .dct l, [i] => match i.key? with
    | some k => .ok ((look l k).getD .non)
    | none => .stuck
  | .dct l, [i, e] => match i.key? with
    | some k => .ok ((look l k).getD e)
    | none => .stuck
  | _, _ => .stuck
def typeOf : D → Option String
  | .non => some "NoneType"
  | .bl _ => some "bool"
  | .int _ => some "int"
  | .str _ => some "str"
  | .tup _ => some "tuple"
  | .lst _ => some "list"
  | .dct _ => some "dict"
  | .dcT _ | .ref _ | .scr _ => none
/-- whether a type is a class that is asked: bools are ints -/
def isA (t c : String) : Bool := t == c || (t == "bool" && c == "int")
def isClass (c : String) : Bool := ["int", "bool", "str", "tuple", "list", "dict"].contains c
def minI (n : Int) : List Int → Int
  | [] => n
  | m :: r => minI (if m < n then m else n) r
def maxI (n : Int) : List Int → Int
  | [] => n
  | m :: r => maxI (if m > n then m else n) r
/-- what a for walks -/
def items : D → Option (List D)
  | .lst l | .tup l => some l
  | .scr l => some (l.map D.int)
  | .dct l => some (l.map fun p => keyD p.1)
  | .str z => some (z.cps.toList.map fun c => .str ⟨#[c]⟩)
  | _ => none
def bi (f : Bi) (es : List D) : Res D := match f, es with
  | .len, [.lst l] | .len, [.tup l] => .ok (.int l.length)
  | .len, [.dct l] => .ok (.int l.length)
  | .len, [.scr l] => .ok (.int l.length)
  | .len, [.str z] => guard' (decide (z.length ≤ big)) (.ok (.int z.length))
  | .all, [.lst l] => match bls? l with
    | some bs => .ok (.bl (bs.all id))
    | none => .stuck
  | .any, [.lst l] => match bls? l with
    | some bs => .ok (.bl (bs.any id))
    | none => .stuck
  | .sum, [.lst l] => match ints? l with
    | some ns => .ok (.int ns.sum)
    | none => .stuck
  | .min, [.lst l] => match ints? l with
    | some (n :: ns) => .ok (.int (minI n ns))
    | _ => .stuck
  | .max, [.lst l] => match ints? l with
    | some (n :: ns) => .ok (.int (maxI n ns))
    | _ => .stuck
  | .min, [.int i, .int j] => .ok (.int (if j < i then j else i))
  | .max, [.int i, .int j] => .ok (.int (if j > i then j else i))
  | .abs, [.int i] => .ok (.int (if i < 0 then -i else i))
  | .int, [.int i] => .ok (.int i)
  | .int, [.bl b] => .ok (.int (if b then 1 else 0))
  | .list, [.lst l] | .list, [.tup l] => .ok (.lst l)
  | .list, [.dct l] => .ok (.lst (l.map fun p => keyD p.1))
  | .tuple, [.lst l] | .tuple, [.tup l] => .ok (.tup l)
  | .dict, [.dct l] => .ok (.dct l)
  | .dict, [.lst l] => match pairs? l with
    | some ps => .ok (.dct (merge [] ps))
    | none => .stuck
  | .sorted, [.lst l] => match sorted? l with
    | some r => .ok (.lst r)
    | none => .stuck
  | .sorted, [.dct l] => match strs? (l.map fun p => keyD p.1) with
    | some xs => guard' (decide (xs.length < 64)) (.ok (.lst ((sortS xs).map D.str)))
    | none => .stuck
  | .sortset, [.lst l] => match sortSet? l with
    | some r => .ok (.lst r)
    | none => .stuck
  | .isinst c, [x] => match typeOf x with
    | some t => guard' (isClass c) (.ok (.bl (isA t c)))
    | none => .stuck
  | _, _ => .stuck
/-- the turns of range -/
def rangeL (lo : Int) (n : Nat) : List D := (List.range n).map fun k => .int (lo + (k : Nat))
def rng (es : List D) : Res (List D) := match es with
  | [.int j] => guard' (decide (-(2 ^ 62) ≤ j ∧ j < 2 ^ 62)) (.ok (rangeL 0 j.toNat))
  | [.int i, .int j] => guard' (decide (-(2 ^ 62) ≤ i ∧ i < 2 ^ 62 ∧ -(2 ^ 62) ≤ j ∧ j < 2 ^ 62)) (.ok (rangeL i (j - i).toNat))
  | _ => .stuck

/-- a value is stored to a target -/
def setTg (t : Tg) (d : D) (ρ : Rho) : Res Rho := match t with
  | .name i => guard' (decide (i < ρ.length)) (.ok (ρ.set i (some (d, false))))
  | .tup is => match d with
    | .tup ds => if ds.length = is.length then .ok ((is.zip ds).foldl (fun r p => r.set p.1 (some (p.2, false))) ρ) else .stuck
    | _ => .stuck
def wipeR (ρ : Rho) : List Nat → Rho
  | [] => ρ
  | v :: vs => (wipeR ρ vs).set v none

/-- the calls of defs -/
abbrev Calls := String → List D → AH → Res (D × Bool × AH)
/-- how many rows a list may have -/
def fits (n : Nat) : Bool := decide (n < big)

/-- the rows of a comprehension, from the left -/
def lcGo (f : D → AH → Res (Option D × AH)) : List D → List D → AH → Res (List D × AH)
  | [], acc, h => .ok (acc, h)
  | x :: r, acc, h => (f x h).bind fun p => match p.1 with
    | some y => guard' (fits acc.length) (lcGo f r (acc ++ [y]) p.2)
    | none => lcGo f r acc p.2

/-- a part of a slice: left out, or an int -/
def partOf : E → D → Res (Option Int)
  | .non, _ => .ok none
  | _, .int i => .ok (some i)
  | _, _ => .stuck
/-- what a thing of the store holds -/
def deref (h : AH) : D → D
  | .ref n => match h[n]? with
    | some (.box d) => d
    | none => .ref n
  | d => d
/-- errors are not carried out of a comprehension -/
def Res.quiet {α : Type} : Res α → Res α
  | .ok a => .ok a
  | _ => .stuck
def boolK {α : Type} (k : Bool → AH → Res α) (p : D × Bool × AH) : Res α := match p.1 with
  | .bl b => k b p.2.2
  | _ => .stuck
mutual
/-- an expression; the Bool: a new list or dict that nobody holds -/
def ev (cf : Calls) (ρ : Rho) : E → AH → Res (D × Bool × AH)
  | .var i, h => match ρ[i]? with
    | some (some (d, false)) => .ok (d, false, h)
    | _ => .stuck
  | .pk i, h => match ρ[i]? with
    | some (some (d, _)) => .ok (d, false, h)
    | _ => .stuck
  | .non, h => .ok (.non, false, h)
  | .bl b, h => .ok (.bl b, false, h)
  | .int i, h => .ok (.int i, false, h)
  | .str x, h => .ok (.str x, false, h)
  | .tup es, h => (evs cf ρ es h).bind fun p => guard' (fits p.1.length) (.ok (.tup p.1, false, p.2))
  | .lst es, h => (evs cf ρ es h).bind fun p => guard' (fits p.1.length) (.ok (.lst p.1, true, p.2))
  | .dct es, h => (evs cf ρ es h).bind fun p => match rows? p.1 with
    | some kvs => guard' (decide (kvs.length ≤ 15)) (.ok (.dct (merge [] kvs), true, p.2))
    | none => .stuck
  | .neg a, h => (ev cf ρ a h).bind fun p => match p.1 with
    | .int i => .ok (.int (-i), false, p.2.2)
    | _ => .stuck
  | .not a, h => (ev cf ρ a h).bind (boolK fun b h => .ok (.bl (!b), false, h))
  | .and a b, h => (ev cf ρ a h).bind (boolK fun k h => if k then (ev cf ρ b h).bind fun q => .ok (q.1, false, q.2.2) else .ok (.bl false, false, h))
  | .or a b, h => (ev cf ρ a h).bind (boolK fun k h => if k then .ok (.bl true, false, h) else (ev cf ρ b h).bind fun q => .ok (q.1, false, q.2.2))
  | .bin o a b, h => (ev cf ρ a h).bind fun p => (ev cf ρ b p.2.2).bind fun q => (bin o p.1 q.1).bind fun d => .ok (d, true, q.2.2)
  | .cmp o a b, h => (ev cf ρ a h).bind fun p => (ev cf ρ b p.2.2).bind fun q => (cmp o p.1 q.1).bind fun d => .ok (.bl d, false, q.2.2)
  | .chain o o' a b c, h => (ev cf ρ a h).bind fun p => (ev cf ρ b p.2.2).bind fun q => (cmp o p.1 q.1).bind fun d =>
    if d then (ev cf ρ c q.2.2).bind fun r => (cmp o' q.1 r.1).bind fun e => .ok (.bl e, false, r.2.2) else .ok (.bl false, false, q.2.2)
  | .ite c a b, h => (ev cf ρ c h).bind (boolK fun k h => if k then ev cf ρ a h else ev cf ρ b h)
  | .idx a i, h => (ev cf ρ a h).bind fun p => (ev cf ρ i p.2.2).bind fun q => (idx (deref q.2.2 p.1) q.1).bind fun d => .ok (d, false, q.2.2)
  | .cut a l u, h => (ev cf ρ a h).bind fun p => (ev cf ρ l p.2.2).bind fun q => (partOf l q.1).bind fun lo => (ev cf ρ u q.2.2).bind fun r => (partOf u r.1).bind fun hi => (cut p.1 lo hi).bind fun d => .ok (d, true, r.2.2)
  | .call f es, h => (evs cf ρ es h).bind fun p => cf f p.1 p.2
  | .bi f es, h => (evs cf ρ es h).bind fun p => (bi f p.1).bind fun d => .ok (d, true, p.2)
  | .get o es, h => (ev cf ρ o h).bind fun p => guard' p.1.isDct ((evs cf ρ es p.2.2).bind fun q => (getD p.1 q.1).bind fun d => .ok (d, false, q.2))
  | .lc own t src c e, h => (evi cf ρ src h).bind fun p =>
    (lcGo (fun x h => (setTg t x (wipeR ρ own)).bind fun ρ' => (ev cf ρ' c h).bind (boolK fun k h =>
      if k then (ev cf ρ' e h).bind fun r => .ok (some r.1, r.2.2) else .ok (none, h))) p.1 [] p.2).quiet.bind fun q => .ok (.lst q.1, true, q.2)
def evs (cf : Calls) (ρ : Rho) : Es → AH → Res (List D × AH)
  | .nil, h => .ok ([], h)
  | .cons e r, h => (ev cf ρ e h).bind fun p => (evs cf ρ r p.2.2).bind fun q => .ok (p.1 :: q.1, q.2)
/-- what a for walks -/
def evi (cf : Calls) (ρ : Rho) : It → AH → Res (List D × AH)
  | .over e, h => (ev cf ρ e h).bind fun p => match items p.1 with
    | some l => .ok (l, p.2.2)
    | none => .stuck
  | .range es, h => (evs cf ρ es h).bind fun p => (rng p.1).bind fun l => .ok (l, p.2)
end

/-! ### statements -/
structure St where
  ρ : Rho
  h : AH
inductive Fl where
  | next
  | ret (d : D) (fresh : Bool)
/-- a value handed back: an own list or dict goes with it -/
def evR (cf : Calls) (ρ : Rho) (e : E) (h : AH) : Res (D × Bool × AH) := match e with
  | .pk i => match ρ[i]? with
    | some (some (d, o)) => .ok (d, o, h)
    | _ => .stuck
  | e => ev cf ρ e h
def frzR (ρ : Rho) : List Nat → Rho
  | [] => ρ
  | i :: r => frzR (match ρ[i]? with
    | some (some (d, true)) => ρ.set i (some (d, false))
    | _ => ρ) r
/-- a loop over rows: what is done at each -/
def forGo (f : D → St → Res (Fl × St)) : List D → St → Res (Fl × St)
  | [], s => .ok (.next, s)
  | x :: r, s => (f x s).bind fun p => match p.1 with
    | .next => forGo f r p.2
    | .ret d o => .ok (.ret d o, p.2)
def whGo (c : St → Res (Bool × St)) (f : St → Res (Fl × St)) : Nat → St → Res (Fl × St)
  | 0, _ => .stuck
  | n + 1, s => (c s).bind fun b => if b.1 then (f b.2).bind fun p => (match p.1 with
    | .next => whGo c f n p.2
    | .ret d o => .ok (.ret d o, p.2)) else .ok (.next, b.2)
/-- d[k] = v, xs[k] = v -/
def putAt (o i v : D) : Res D := match o with
  | .dct l => match i.key? with
    | some k => guard' (fits l.length) (.ok (.dct (put l k v)))
    | none => .stuck
  | .lst l => match i with
    | .int j => match ixN l.length j with
      | some m => .ok (.lst (l.set m v))
      | none => .stuck
    | _ => .stuck
  | _ => .stuck
def boxAt (h : AH) (d : D) : Option (Nat × D) := match d with
  | .ref n => match h[n]? with
    | some (.box d) => some (n, d)
    | _ => none
  | _ => none

/-- what the slot n lets be changed: its own, or a thing of the store -/
def place (ρ : Rho) (h : AH) (n : Nat) : Option (Bool × Nat × D) := match ρ[n]? with
  | some (some (d, true)) => some (true, n, d)
  | some (some (d, false)) => (boxAt h d).map fun p => (false, p.1, p.2)
  | _ => none
def placed (ρ : Rho) (h : AH) (w : Bool) (j : Nat) (d : D) : St := if w then ⟨ρ.set j (some (d, true)), h⟩ else ⟨ρ, h.set j (.box d)⟩
def held (ρ : Rho) (n : Nat) : Bool := match ρ[n]? with
  | some (some _) => true
  | _ => false
/-- what a dict holds at a key -/
def getK (d i : D) : Res D := match d with
  | .dct l => match i.key? with
    | some k => .of (look l k)
    | none => .stuck
  | _ => .stuck
/-- x op= y -/
def ipop : Op2 → D → D → Res D
  | .add, .int i, .int j => .ok (.int (i + j))
  | .sub, .int i, .int j => .ok (.int (i - j))
  | _, _, _ => .stuck
mutual
def ex (cf : Calls) (wf : Nat) : S → St → Res (Fl × St)
  | .asg t e, s => (ev cf s.ρ e s.h).bind fun p => match t, p.1, p.2.1 with
    | .name i, .lst l, true => guard' (decide (i < s.ρ.length)) (.ok (.next, ⟨s.ρ.set i (some (.lst l, true)), p.2.2⟩))
    | .name i, .dct l, true => guard' (decide (i < s.ρ.length)) (.ok (.next, ⟨s.ρ.set i (some (.dct l, true)), p.2.2⟩))
    | t, d, _ => (setTg t d s.ρ).bind fun ρ => .ok (.next, ⟨ρ, p.2.2⟩)
  | .par i j a b, s => (ev cf s.ρ a s.h).bind fun p => (ev cf s.ρ b p.2.2).bind fun q =>
    .ok (.next, ⟨(s.ρ.set i (some (p.1, false))).set j (some (q.1, false)), q.2.2⟩)
  | .sub n i e, s => (ev cf s.ρ e s.h).bind fun p => guard' (held s.ρ n) ((ev cf s.ρ i p.2.2).bind fun q => match place s.ρ q.2.2 n with
    | some (w, j, d) => (putAt d q.1 p.1).bind fun d' => .ok (.next, placed s.ρ q.2.2 w j d')
    | none => .stuck)
  | .augv i o e, s => match s.ρ[i]? with
    | some (some (x, false)) => (ev cf s.ρ e s.h).bind fun p => (ipop o x p.1).bind fun z => .ok (.next, ⟨s.ρ.set i (some (z, false)), p.2.2⟩)
    | _ => .stuck
  | .augs n i op e, s => guard' (held s.ρ n) ((ev cf s.ρ i s.h).bind fun q => match place s.ρ q.2.2 n with
    | some (_, _, d) => (getK d q.1).bind fun x => (ev cf s.ρ e q.2.2).bind fun r => (ipop op x r.1).bind fun z => match place s.ρ r.2.2 n with
      | some (w, j, d) => (putAt d q.1 z).bind fun d' => .ok (.next, placed s.ρ r.2.2 w j d')
      | none => .stuck
    | none => .stuck)
  | .app i e, s => match s.ρ[i]? with
    | some (some (.lst l, true)) => (ev cf s.ρ e s.h).bind fun p => guard' (fits l.length) (.ok (.next, ⟨s.ρ.set i (some (.lst (l ++ [p.1]), true)), p.2.2⟩))
    | _ => .stuck
  | .expr e, s => (ev cf s.ρ e s.h).bind fun p => .ok (.next, ⟨s.ρ, p.2.2⟩)
  | .ret e, s => (evR cf s.ρ e s.h).bind fun p => .ok (.ret p.1 p.2.1, ⟨s.ρ, p.2.2⟩)
  | .iff c a b, s => (ev cf s.ρ c s.h).bind (boolK fun k h => if k then exs cf wf a ⟨s.ρ, h⟩ else exs cf wf b ⟨s.ρ, h⟩)
  | .wh c b, s => whGo (fun s => (ev cf s.ρ c s.h).bind (boolK fun k h => .ok (k, ⟨s.ρ, h⟩))) (exs cf wf b) wf s
  | .fr t src b, s => (evi cf s.ρ src s.h).bind fun p => forGo (fun x s => (setTg t x s.ρ).bind fun ρ => exs cf wf b ⟨ρ, s.h⟩) p.1 ⟨s.ρ, p.2⟩
  | .frz is, s => .ok (.next, ⟨frzR s.ρ is, s.h⟩)
  | .box i e, s => (ev cf s.ρ e s.h).bind fun p => match p.1, p.2.1 with
    | .dct l, true => guard' (decide (i < s.ρ.length)) (.ok (.next, ⟨s.ρ.set i (some (.ref p.2.2.length, false)), p.2.2 ++ [.box (.dct l)]⟩))
    | _, _ => .stuck
def exs (cf : Calls) (wf : Nat) : Ss → St → Res (Fl × St)
  | .nil, s => .ok (.next, s)
  | .cons a r, s => (ex cf wf a s).bind fun p => match p.1 with
    | .next => exs cf wf r p.2
    | .ret d o => .ok (.ret d o, p.2)
end

/-! ### defs -/
structure Fn where
  ps : Nat
  n : Nat
  body : Ss
  deriving Inhabited
abbrev Prg := List (String × Fn)
def start (f : Fn) (ds : List D) : Rho := ds.map (fun d => some (d, false)) ++ List.replicate (f.n - f.ps) none
/-- what a def hands back: the store keeps what was in it -/
def callN (P : Prg) (wf : Nat) : Nat → Calls
  | 0 => fun _ _ _ => .stuck
  | k + 1 => fun f ds h => match P.lookup f with
    | some F => if ds.length = F.ps then (exs (callN P wf k) wf F.body ⟨start F ds, h⟩).bind fun p => match p.1 with
        | .next => .ok (.non, false, p.2.h)
        | .ret d o => .ok (d, o, p.2.h)
      else .stuck
    | none => .stuck
end Mi

set_option Elab.async false
set_option linter.all false
set_option maxRecDepth 100000
set_option maxHeartbeats 1000000
/-! Mi: what a plain value tells of the heap. -/
namespace Mi
open PySem PySem.Spec PyProof.Rows L2

/-- whose an address is: nobody's that we know; frozen (never changed again); a slot's own; a thing of the store -/
inductive Lab where
  | un | fz | sl (i : Nat) | ob (n : Nat)
  deriving DecidableEq
abbrev Labs := Addr → Lab
def lab (O : Labs) (a : Addr) (l : Lab) : Labs := fun b => if b = a then l else O b
theorem lab_same {O : Labs} {a : Addr} {l : Lab} : lab O a l a = l := by unfold lab; rw [if_pos rfl]
theorem lab_ne {O : Labs} {a b : Addr} {l : Lab} (h : b ≠ a) : lab O a l b = O b := by unfold lab; rw [if_neg h]

/-- a tuple, a list that is frozen, or stands in the written part -/
def FT (K : PySem.W.Frag) (O : Labs) (H : Hp) (a : Addr) (xs : List V) : Prop := (O a = .fz ∧ Rd H a (.tup xs)) ∨
  ∃ (o : Obj) (its : Array Value) (n : Nat), K.lookup a = some o ∧ o.cls = .type "tuple" ∧ o.data = .seq its n ∧ its.size ≤ sizeLine ∧ Vals xs its.toList
def SL (K : PySem.W.Frag) (O : Labs) (H : Hp) (a : Addr) (xs : List V) : Prop := (O a = .fz ∧ Rd H a (.lst xs)) ∨
  ∃ (o : Obj) (its : Array Value) (n : Nat), K.lookup a = some o ∧ o.cls = .type "list" ∧ o.dict = none ∧ o.data = .seq its n ∧ its.size ≤ sizeLine ∧ Vals xs its.toList
theorem FT.sq {K : PySem.W.Frag} {O : Labs} {H : Hp} {a : Addr} {xs : List V} (h : FT K O H a xs) : SqT K H a xs := h.imp And.right id
theorem SL.sq {K : PySem.W.Frag} {O : Labs} {H : Hp} {a : Addr} {xs : List V} (h : SL K O H a xs) : SqL K H a xs := h.imp And.right id
section
variable (K : PySem.W.Frag) (m : List Addr) (O : Labs) (H : Hp)
mutual
def VR : D → V → Prop
  | .non, v => v = .non
  | .bl b, v => v = .bl b
  | .int i, v => v = .int i
  | .str x, v => v = .str x
  | .tup ds, v => ∃ a xs, v = .ref a ∧ FT K O H a xs ∧ VRs ds xs
  | .lst ds, v => ∃ a xs, v = .ref a ∧ O a = .fz ∧ Rd H a (.lst xs) ∧ VRs ds xs
  | .dct ds, v => ∃ a kvs, v = .ref a ∧ O a = .fz ∧ Rd H a (.dK kvs) ∧ VRk ds kvs
  | .dcT ds, v => ∃ a kvs, v = .ref a ∧ O a = .fz ∧ Rd H a (.dT kvs) ∧ VRt ds kvs
  | .ref n, v => ∃ a, v = .ref a ∧ m[n]? = some a
  | .scr ns, v => ∃ a, v = .ref a ∧ SL K O H a (ns.map V.int)
def VRs : List D → List V → Prop
  | [], xs => xs = []
  | d :: ds, xs => ∃ v vs, xs = v :: vs ∧ VR d v ∧ VRs ds vs
def VRk : List (Key × D) → List (Key × V) → Prop
  | [], xs => xs = []
  | (k, d) :: ds, xs => ∃ v vs, xs = (k, v) :: vs ∧ VR d v ∧ VRk ds vs
def VRt : List (List Key × D) → List (List Key × V) → Prop
  | [], xs => xs = []
  | (k, d) :: ds, xs => ∃ v vs, xs = (k, v) :: vs ∧ VR d v ∧ VRt ds vs
end
/-- a list or dict stands at a, open to be changed -/
def CV (a : Addr) : D → Prop
  | .lst ds => ∃ xs, H a = some (.lst xs) ∧ VRs K m O H ds xs
  | .dct ds => ∃ kvs, H a = some (.dK kvs) ∧ VRk K m O H ds kvs
  | .dcT ds => ∃ kvs, H a = some (.dT kvs) ∧ VRt K m O H ds kvs
  | _ => False
end

/-! ### what lasts -/
def RdE (H H' : Hp) (a : Addr) : Prop := ∀ u, Rd H a u → Rd H' a u
/-- within one expression: what is frozen stays, a slot's own and what is nobody's stay as they are -/
structure Ext (m : List Addr) (O : Labs) (H : Hp) (m' : List Addr) (O' : Labs) (H' : Hp) : Prop where
  pre : ∃ t, m' = m ++ t
  fz : ∀ a, O a = .fz → O' a = .fz ∧ RdE H H' a
  sl : ∀ a i, O a = .sl i → O' a = .sl i ∧ H' a = H a
  un : ∀ a, O a = .un → H a ≠ none → O' a = .un ∧ H' a = H a
  ob : ∀ a n, O a = .ob n → O' a = .ob n
section
variable {m m' m'' : List Addr} {O O' O'' : Labs} {H H' H'' : Hp}
theorem Ext.refl : Ext m O H m O H := ⟨⟨[], by simp⟩, fun a h => ⟨h, fun _ q => q⟩, fun _ _ h => ⟨h, rfl⟩, fun _ h _ => ⟨h, rfl⟩, fun _ _ h => h⟩
theorem Ext.trans (x : Ext m O H m' O' H') (y : Ext m' O' H' m'' O'' H'') : Ext m O H m'' O'' H'' := by
  refine ⟨?_, fun a h => ?_, fun a i h => ?_, fun a h n => ?_, fun a n h => y.ob a n (x.ob a n h)⟩
  · obtain ⟨t, e⟩ := x.pre
    obtain ⟨t', e'⟩ := y.pre
    exact ⟨t ++ t', by rw [e', e, List.append_assoc]⟩
  · obtain ⟨h1, r1⟩ := x.fz a h
    obtain ⟨h2, r2⟩ := y.fz a h1
    exact ⟨h2, fun u q => r2 u (r1 u q)⟩
  · obtain ⟨h1, r1⟩ := x.sl a i h
    obtain ⟨h2, r2⟩ := y.sl a i h1
    exact ⟨h2, r2.trans r1⟩
  · obtain ⟨h1, r1⟩ := x.un a h n
    obtain ⟨h2, r2⟩ := y.un a h1 (by rw [r1]; exact n)
    exact ⟨h2, r2.trans r1⟩
theorem Ext.mget (x : Ext m O H m' O' H') {n : Nat} {a : Addr} (h : m[n]? = some a) : m'[n]? = some a := by
  obtain ⟨t, e⟩ := x.pre
  rw [e, List.getElem?_append_left (List.getElem?_eq_some_iff.mp h).1]
  exact h
end
/-- what a value's telling leans on -/
structure Keep (m : List Addr) (O : Labs) (H : Hp) (m' : List Addr) (O' : Labs) (H' : Hp) : Prop where
  mg : ∀ (n : Nat) (a : Addr), m[n]? = some a → m'[n]? = some a
  fz : ∀ a, O a = .fz → O' a = .fz ∧ RdE H H' a
theorem Ext.keep {m m' : List Addr} {O O' : Labs} {H H' : Hp} (x : Ext m O H m' O' H') : Keep m O H m' O' H' := ⟨fun _ _ h => x.mget h, x.fz⟩
theorem Keep.refl {m : List Addr} {O : Labs} {H : Hp} : Keep m O H m O H := ⟨fun _ _ h => h, fun _ h => ⟨h, fun _ q => q⟩⟩
theorem RdE.sql {K : PySem.W.Frag} {H H' : Hp} {a : Addr} {xs : List V} (r : RdE H H' a) (h : SqL K H a xs) : SqL K H' a xs := h.imp (r _) id
theorem RdE.sqt {K : PySem.W.Frag} {H H' : Hp} {a : Addr} {xs : List V} (r : RdE H H' a) (h : SqT K H a xs) : SqT K H' a xs := h.imp (r _) id
section
variable {K : PySem.W.Frag} {m m' : List Addr} {O O' : Labs} {H H' : Hp}
mutual
theorem VR.keep (k : Keep m O H m' O' H') : ∀ (d : D) (v : V), VR K m O H d v → VR K m' O' H' d v
  | .non, _, h => by unfold VR at h ⊢; exact h
  | .bl _, _, h => by unfold VR at h ⊢; exact h
  | .int _, _, h => by unfold VR at h ⊢; exact h
  | .str _, _, h => by unfold VR at h ⊢; exact h
  | .tup ds, _, h => by
    unfold VR at h ⊢
    obtain ⟨a, xs, e, s, r⟩ := h
    exact ⟨a, xs, e, s.imp (fun z => ⟨(k.fz a z.1).1, (k.fz a z.1).2 _ z.2⟩) id, VRs.keep k ds xs r⟩
  | .lst ds, _, h => by
    unfold VR at h ⊢
    obtain ⟨a, xs, e, o, s, r⟩ := h
    obtain ⟨o', q⟩ := k.fz a o
    exact ⟨a, xs, e, o', q _ s, VRs.keep k ds xs r⟩
  | .scr ns, _, h => by
    unfold VR at h ⊢
    obtain ⟨a, e, s⟩ := h
    exact ⟨a, e, s.imp (fun z => ⟨(k.fz a z.1).1, (k.fz a z.1).2 _ z.2⟩) id⟩
  | .dct ds, _, h => by
    unfold VR at h ⊢
    obtain ⟨a, xs, e, o, s, r⟩ := h
    obtain ⟨o', q⟩ := k.fz a o
    exact ⟨a, xs, e, o', q _ s, VRk.keep k ds xs r⟩
  | .dcT ds, _, h => by
    unfold VR at h ⊢
    obtain ⟨a, xs, e, o, s, r⟩ := h
    obtain ⟨o', q⟩ := k.fz a o
    exact ⟨a, xs, e, o', q _ s, VRt.keep k ds xs r⟩
  | .ref n, _, h => by
    unfold VR at h ⊢
    obtain ⟨a, e, h⟩ := h
    exact ⟨a, e, k.mg n a h⟩
theorem VRs.keep (k : Keep m O H m' O' H') : ∀ (ds : List D) (vs : List V), VRs K m O H ds vs → VRs K m' O' H' ds vs
  | [], _, h => by unfold VRs at h ⊢; exact h
  | d :: ds, _, h => by
    unfold VRs at h ⊢
    obtain ⟨v, vs, e, h1, h2⟩ := h
    exact ⟨v, vs, e, VR.keep k d v h1, VRs.keep k ds vs h2⟩
theorem VRk.keep (k : Keep m O H m' O' H') : ∀ (ds : List (Key × D)) (vs : List (Key × V)), VRk K m O H ds vs → VRk K m' O' H' ds vs
  | [], _, h => by unfold VRk at h ⊢; exact h
  | (kk, d) :: ds, _, h => by
    unfold VRk at h ⊢
    obtain ⟨v, vs, e, h1, h2⟩ := h
    exact ⟨v, vs, e, VR.keep k d v h1, VRk.keep k ds vs h2⟩
theorem VRt.keep (k : Keep m O H m' O' H') : ∀ (ds : List (List Key × D)) (vs : List (List Key × V)), VRt K m O H ds vs → VRt K m' O' H' ds vs
  | [], _, h => by unfold VRt at h ⊢; exact h
  | (kk, d) :: ds, _, h => by
    unfold VRt at h ⊢
    obtain ⟨v, vs, e, h1, h2⟩ := h
    exact ⟨v, vs, e, VR.keep k d v h1, VRt.keep k ds vs h2⟩
end
theorem CV.keep (k : Keep m O H m' O' H') {a : Addr} (e : H' a = H a) : ∀ {d : D}, CV K m O H a d → CV K m' O' H' a d
  | .lst ds, ⟨xs, h, r⟩ => ⟨xs, by rw [e]; exact h, VRs.keep k _ _ r⟩
  | .dct ds, ⟨xs, h, r⟩ => ⟨xs, by rw [e]; exact h, VRk.keep k _ _ r⟩
  | .dcT ds, ⟨xs, h, r⟩ => ⟨xs, by rw [e]; exact h, VRt.keep k _ _ r⟩

/-! ### rows -/
@[simp] theorem VRs_nil {xs : List V} : VRs K m O H [] xs ↔ xs = [] := by unfold VRs; exact Iff.rfl
@[simp] theorem VRs_cons {d : D} {ds : List D} {xs : List V} : VRs K m O H (d :: ds) xs ↔ ∃ v vs, xs = v :: vs ∧ VR K m O H d v ∧ VRs K m O H ds vs := by conv => lhs; unfold VRs
@[simp] theorem VRk_nil {xs : List (Key × V)} : VRk K m O H [] xs ↔ xs = [] := by unfold VRk; exact Iff.rfl
@[simp] theorem VRk_cons {k : Key} {d : D} {ds : List (Key × D)} {xs : List (Key × V)} : VRk K m O H ((k, d) :: ds) xs ↔ ∃ v vs, xs = (k, v) :: vs ∧ VR K m O H d v ∧ VRk K m O H ds vs := by conv => lhs; unfold VRk
@[simp] theorem VRt_nil {xs : List (List Key × V)} : VRt K m O H [] xs ↔ xs = [] := by unfold VRt; exact Iff.rfl
@[simp] theorem VRt_cons {k : List Key} {d : D} {ds : List (List Key × D)} {xs : List (List Key × V)} : VRt K m O H ((k, d) :: ds) xs ↔ ∃ v vs, xs = (k, v) :: vs ∧ VR K m O H d v ∧ VRt K m O H ds vs := by conv => lhs; unfold VRt
theorem VRs.length : ∀ {ds : List D} {xs : List V}, VRs K m O H ds xs → ds.length = xs.length
  | [], _, h => by rw [VRs_nil] at h; subst h; rfl
  | d :: ds, _, h => by
    rw [VRs_cons] at h
    obtain ⟨v, vs, rfl, _, h2⟩ := h
    simp [VRs.length h2]
theorem VRk.length : ∀ {ds : List (Key × D)} {xs : List (Key × V)}, VRk K m O H ds xs → ds.length = xs.length
  | [], _, h => by rw [VRk_nil] at h; subst h; rfl
  | (k, d) :: ds, _, h => by
    rw [VRk_cons] at h
    obtain ⟨v, vs, rfl, _, h2⟩ := h
    simp [VRk.length h2]
theorem VRt.length : ∀ {ds : List (List Key × D)} {xs : List (List Key × V)}, VRt K m O H ds xs → ds.length = xs.length
  | [], _, h => by rw [VRt_nil] at h; subst h; rfl
  | (k, d) :: ds, _, h => by
    rw [VRt_cons] at h
    obtain ⟨v, vs, rfl, _, h2⟩ := h
    simp [VRt.length h2]
theorem VRs.get : ∀ {ds : List D} {xs : List V} {i : Nat} {v : V}, VRs K m O H ds xs → xs[i]? = some v → ∃ d, ds[i]? = some d ∧ VR K m O H d v
  | [], _, i, v, h, e => by rw [VRs_nil] at h; subst h; simp at e
  | d :: ds, _, i, v, h, e => by
    rw [VRs_cons] at h
    obtain ⟨w, ws, rfl, h1, h2⟩ := h
    cases i with
    | zero => simp at e; subst e; exact ⟨d, by simp, h1⟩
    | succ i => simpa using VRs.get h2 (by simpa using e)
theorem VRs.get' : ∀ {ds : List D} {xs : List V} {i : Nat} {d : D}, VRs K m O H ds xs → ds[i]? = some d → ∃ v, xs[i]? = some v ∧ VR K m O H d v
  | [], _, i, d, h, e => by simp at e
  | d :: ds, _, i, u, h, e => by
    rw [VRs_cons] at h
    obtain ⟨w, ws, rfl, h1, h2⟩ := h
    cases i with
    | zero => simp at e; subst e; exact ⟨w, by simp, h1⟩
    | succ i => simpa using VRs.get' h2 (by simpa using e)
theorem VRs.append : ∀ {ds es : List D} {xs ys : List V}, VRs K m O H ds xs → VRs K m O H es ys → VRs K m O H (ds ++ es) (xs ++ ys)
  | [], _, _, _, h, q => by rw [VRs_nil] at h; subst h; simpa using q
  | d :: ds, _, _, _, h, q => by
    rw [VRs_cons] at h
    obtain ⟨w, ws, rfl, h1, h2⟩ := h
    rw [List.cons_append, VRs_cons]
    exact ⟨w, _, rfl, h1, VRs.append h2 q⟩
theorem VRs.one {d : D} {v : V} (h : VR K m O H d v) : VRs K m O H [d] [v] := by simp [h]
theorem VRs.take : ∀ (n : Nat) {ds : List D} {xs : List V}, VRs K m O H ds xs → VRs K m O H (ds.take n) (xs.take n)
  | 0, _, _, _ => by simp
  | n + 1, [], _, h => by rw [VRs_nil] at h; subst h; simp
  | n + 1, d :: ds, _, h => by
    rw [VRs_cons] at h
    obtain ⟨w, ws, rfl, h1, h2⟩ := h
    rw [List.take_succ_cons, List.take_succ_cons, VRs_cons]
    exact ⟨w, _, rfl, h1, VRs.take n h2⟩
theorem VRs.drop : ∀ (n : Nat) {ds : List D} {xs : List V}, VRs K m O H ds xs → VRs K m O H (ds.drop n) (xs.drop n)
  | 0, _, _, h => by simpa using h
  | n + 1, [], _, h => by rw [VRs_nil] at h; subst h; simp
  | n + 1, d :: ds, _, h => by
    rw [VRs_cons] at h
    obtain ⟨w, ws, rfl, h1, h2⟩ := h
    simpa using VRs.drop n h2
theorem VRs.set : ∀ (n : Nat) {ds : List D} {xs : List V} {d : D} {v : V}, VRs K m O H ds xs → VR K m O H d v → VRs K m O H (ds.set n d) (xs.set n v)
  | _, [], _, _, _, h, _ => by rw [VRs_nil] at h; subst h; simp
  | 0, d :: ds, _, _, v, h, q => by
    rw [VRs_cons] at h
    obtain ⟨w, ws, rfl, h1, h2⟩ := h
    rw [List.set_cons_zero, List.set_cons_zero, VRs_cons]
    exact ⟨_, _, rfl, q, h2⟩
  | n + 1, d :: ds, _, _, _, h, q => by
    rw [VRs_cons] at h
    obtain ⟨w, ws, rfl, h1, h2⟩ := h
    rw [List.set_cons_succ, List.set_cons_succ, VRs_cons]
    exact ⟨w, _, rfl, h1, VRs.set n h2 q⟩
theorem VRs.cut {ds : List D} {xs : List V} (h : VRs K m O H ds xs) (lo hi : Option Int) : VRs K m O H (cutL ds lo hi) (cutV xs lo hi) := by
  unfold cutL cutV
  rw [h.length]
  exact VRs.take _ (VRs.drop _ h)
theorem VRs.ints : ∀ {ds : List D} {xs : List V} {ns : List Int}, VRs K m O H ds xs → ints? ds = some ns → xs = ns.map V.int
  | [], _, _, h, e => by rw [VRs_nil] at h; subst h; unfold ints? at e; cases e; rfl
  | .int i :: ds, _, _, h, e => by
    rw [VRs_cons] at h
    obtain ⟨w, ws, rfl, h1, h2⟩ := h
    unfold ints? at e
    obtain ⟨ns, e', rfl⟩ := Option.map_eq_some_iff.mp e
    unfold VR at h1
    rw [h1, VRs.ints h2 e', List.map_cons]
  | .non :: _, _, _, _, e => by unfold ints? at e; cases e
  | .bl _ :: _, _, _, _, e => by unfold ints? at e; cases e
  | .str _ :: _, _, _, _, e => by unfold ints? at e; cases e
  | .tup _ :: _, _, _, _, e => by unfold ints? at e; cases e
  | .lst _ :: _, _, _, _, e => by unfold ints? at e; cases e
  | .dct _ :: _, _, _, _, e => by unfold ints? at e; cases e
  | .dcT _ :: _, _, _, _, e => by unfold ints? at e; cases e
  | .ref _ :: _, _, _, _, e => by unfold ints? at e; cases e
  | .scr _ :: _, _, _, _, e => by unfold ints? at e; cases e
theorem VRs.strs : ∀ {ds : List D} {xs : List V} {ns : List Str}, VRs K m O H ds xs → strs? ds = some ns → xs = ns.map V.str
  | [], _, _, h, e => by rw [VRs_nil] at h; subst h; unfold strs? at e; cases e; rfl
  | .str i :: ds, _, _, h, e => by
    rw [VRs_cons] at h
    obtain ⟨w, ws, rfl, h1, h2⟩ := h
    unfold strs? at e
    obtain ⟨ns, e', rfl⟩ := Option.map_eq_some_iff.mp e
    unfold VR at h1
    rw [h1, VRs.strs h2 e', List.map_cons]
  | .non :: _, _, _, _, e => by unfold strs? at e; cases e
  | .bl _ :: _, _, _, _, e => by unfold strs? at e; cases e
  | .int _ :: _, _, _, _, e => by unfold strs? at e; cases e
  | .tup _ :: _, _, _, _, e => by unfold strs? at e; cases e
  | .lst _ :: _, _, _, _, e => by unfold strs? at e; cases e
  | .dct _ :: _, _, _, _, e => by unfold strs? at e; cases e
  | .dcT _ :: _, _, _, _, e => by unfold strs? at e; cases e
  | .ref _ :: _, _, _, _, e => by unfold strs? at e; cases e
  | .scr _ :: _, _, _, _, e => by unfold strs? at e; cases e
theorem VRs.bls : ∀ {ds : List D} {xs : List V} {ns : List Bool}, VRs K m O H ds xs → bls? ds = some ns → xs = ns.map V.bl
  | [], _, _, h, e => by rw [VRs_nil] at h; subst h; unfold bls? at e; cases e; rfl
  | .bl i :: ds, _, _, h, e => by
    rw [VRs_cons] at h
    obtain ⟨w, ws, rfl, h1, h2⟩ := h
    unfold bls? at e
    obtain ⟨ns, e', rfl⟩ := Option.map_eq_some_iff.mp e
    unfold VR at h1
    rw [h1, VRs.bls h2 e', List.map_cons]
  | .non :: _, _, _, _, e => by unfold bls? at e; cases e
  | .int _ :: _, _, _, _, e => by unfold bls? at e; cases e
  | .str _ :: _, _, _, _, e => by unfold bls? at e; cases e
  | .tup _ :: _, _, _, _, e => by unfold bls? at e; cases e
  | .lst _ :: _, _, _, _, e => by unfold bls? at e; cases e
  | .dct _ :: _, _, _, _, e => by unfold bls? at e; cases e
  | .dcT _ :: _, _, _, _, e => by unfold bls? at e; cases e
  | .ref _ :: _, _, _, _, e => by unfold bls? at e; cases e
  | .scr _ :: _, _, _, _, e => by unfold bls? at e; cases e
theorem VRs.of_ints : ∀ (ns : List Int), VRs K m O H (ns.map D.int) (ns.map V.int)
  | [] => by simp
  | n :: ns => by rw [List.map_cons, List.map_cons, VRs_cons]; exact ⟨_, _, rfl, by unfold VR; rfl, VRs.of_ints ns⟩
theorem VRs.of_strs : ∀ (ns : List Str), VRs K m O H (ns.map D.str) (ns.map V.str)
  | [] => by simp
  | n :: ns => by rw [List.map_cons, List.map_cons, VRs_cons]; exact ⟨_, _, rfl, by unfold VR; rfl, VRs.of_strs ns⟩
theorem VR.keyD (k : Key) : VR K m O H (keyD k) (kV k) := by
  cases k with
  | inl i => unfold Mi.keyD kV VR; rfl
  | inr x => unfold Mi.keyD kV VR; rfl
theorem VR.key {d : D} {v : V} {k : Key} (h : VR K m O H d v) (e : d.key? = some k) : v = kV k := by
  cases d <;> unfold D.key? at e <;> first
    | (cases e; unfold VR at h; exact h)
    | cases e
theorem VRs.keysK : ∀ {ds : List (Key × D)} {xs : List (Key × V)}, VRk K m O H ds xs → VRs K m O H (ds.map fun p => Mi.keyD p.1) (xs.map fun p => kV p.1)
  | [], _, h => by rw [VRk_nil] at h; subst h; simp
  | (k, d) :: ds, _, h => by
    rw [VRk_cons] at h
    obtain ⟨v, vs, rfl, _, h2⟩ := h
    rw [List.map_cons, List.map_cons, VRs_cons]
    exact ⟨_, _, rfl, VR.keyD k, VRs.keysK h2⟩
/-- two options told alike -/
def VO (K : PySem.W.Frag) (m : List Addr) (O : Labs) (H : Hp) : Option D → Option V → Prop
  | some d, some v => VR K m O H d v
  | none, none => True
  | _, _ => False
theorem VRk.look (k : Key) : ∀ {ds : List (Key × D)} {xs : List (Key × V)}, VRk K m O H ds xs → VO K m O H (Mi.look ds k) (valV xs k)
  | [], _, h => by rw [VRk_nil] at h; subst h; exact True.intro
  | (j, d) :: ds, _, h => by
    rw [VRk_cons] at h
    obtain ⟨v, vs, rfl, h1, h2⟩ := h
    by_cases e : j = k
    · have e1 : Mi.look ((j, d) :: ds) k = some d := by simp [Mi.look, e]
      rw [e1, valV_pos (p := (j, v)) e]
      exact h1
    · have e1 : Mi.look ((j, d) :: ds) k = Mi.look ds k := by simp [Mi.look, e]
      rw [e1, valV_neg (p := (j, v)) e]
      exact VRk.look k h2
theorem VRt.look (k : List Key) : ∀ {ds : List (List Key × D)} {xs : List (List Key × V)}, VRt K m O H ds xs → VO K m O H (Mi.look ds k) (valV xs k)
  | [], _, h => by rw [VRt_nil] at h; subst h; exact True.intro
  | (j, d) :: ds, _, h => by
    rw [VRt_cons] at h
    obtain ⟨v, vs, rfl, h1, h2⟩ := h
    by_cases e : j = k
    · have e1 : Mi.look ((j, d) :: ds) k = some d := by simp [Mi.look, e]
      rw [e1, valV_pos (p := (j, v)) e]
      exact h1
    · have e1 : Mi.look ((j, d) :: ds) k = Mi.look ds k := by simp [Mi.look, e]
      rw [e1, valV_neg (p := (j, v)) e]
      exact VRt.look k h2
theorem VO.some_of {o : Option D} {p : Option V} {d : D} (h : VO K m O H o p) (e : o = some d) : ∃ v, p = some v ∧ VR K m O H d v := by
  subst e
  cases p with
  | none => exact h.elim
  | some v => exact ⟨v, rfl, h⟩
theorem VO.isSome {o : Option D} {p : Option V} (h : VO K m O H o p) : o.isSome = p.isSome := by
  cases o <;> cases p <;> first | rfl | exact h.elim
theorem VO.getD {o : Option D} {p : Option V} {d : D} {v : V} (h : VO K m O H o p) (r : VR K m O H d v) : VR K m O H (o.getD d) (p.getD v) := by
  cases o <;> cases p <;> first | exact h | exact r | exact h.elim
theorem VRk.any (k : Key) : ∀ {ds : List (Key × D)} {xs : List (Key × V)}, VRk K m O H ds xs → (ds.any fun p => decide (p.1 = k)) = xs.any fun p => decide (p.1 = k)
  | [], _, h => by rw [VRk_nil] at h; subst h; rfl
  | (j, d) :: ds, _, h => by
    rw [VRk_cons] at h
    obtain ⟨v, vs, rfl, h1, h2⟩ := h
    rw [List.any_cons, List.any_cons, VRk.any k h2]
theorem VRk.map (k : Key) {d' : D} {v' : V} (r : VR K m O H d' v') : ∀ {ds : List (Key × D)} {xs : List (Key × V)}, VRk K m O H ds xs →
    VRk K m O H (ds.map fun p => if p.1 = k then (p.1, d') else p) (xs.map fun p => if p.1 = k then (p.1, v') else p)
  | [], _, h => by rw [VRk_nil] at h; subst h; simp
  | (j, d) :: ds, _, h => by
    rw [VRk_cons] at h
    obtain ⟨v, vs, rfl, h1, h2⟩ := h
    rw [List.map_cons, List.map_cons]
    by_cases e : j = k
    · rw [if_pos e, if_pos e, VRk_cons]
      exact ⟨_, _, rfl, r, VRk.map k r h2⟩
    · rw [if_neg e, if_neg e, VRk_cons]
      exact ⟨_, _, rfl, h1, VRk.map k r h2⟩
theorem VRk.snoc (k : Key) {d' : D} {v' : V} (r : VR K m O H d' v') : ∀ {ds : List (Key × D)} {xs : List (Key × V)}, VRk K m O H ds xs → VRk K m O H (ds ++ [(k, d')]) (xs ++ [(k, v')])
  | [], _, h => by rw [VRk_nil] at h; subst h; rw [List.nil_append, List.nil_append, VRk_cons]; exact ⟨_, _, rfl, r, by simp⟩
  | (j, d) :: ds, _, h => by
    rw [VRk_cons] at h
    obtain ⟨v, vs, rfl, h1, h2⟩ := h
    rw [List.cons_append, List.cons_append, VRk_cons]
    exact ⟨_, _, rfl, h1, VRk.snoc k r h2⟩
theorem VRk.put (k : Key) {d : D} {v : V} {ds : List (Key × D)} {xs : List (Key × V)} (h : VRk K m O H ds xs) (r : VR K m O H d v) : VRk K m O H (Mi.put ds k d) (putK xs k v) := by
  unfold Mi.put putK
  rw [h.any k]
  split
  · exact h.map k r
  · exact h.snoc k r
theorem VRk.merge : ∀ {es : List (Key × D)} {ys : List (Key × V)} {ds : List (Key × D)} {xs : List (Key × V)}, VRk K m O H es ys → VRk K m O H ds xs → VRk K m O H (Mi.merge ds es) (mergeK xs ys)
  | [], _, _, _, h, q => by rw [VRk_nil] at h; subst h; exact q
  | (k, d) :: es, _, _, _, h, q => by
    rw [VRk_cons] at h
    obtain ⟨v, vs, rfl, h1, h2⟩ := h
    have z := VRk.merge h2 (q.put k h1)
    exact z
end
end Mi

set_option Elab.async false
set_option linter.all false
set_option maxRecDepth 100000
set_option maxHeartbeats 1000000
/-! Mi: states told, readings of expressions by the interpreter. -/
namespace Mi
open PySem PySem.Spec PyProof.Rows L2

structure RH (K : PySem.W.Frag) (m : List Addr) (O : Labs) (H : Hp) (h : AH) : Prop where
  lab : ∀ a, O a ≠ .un → H a ≠ none
  len : m.length = h.length
  obj : ∀ n d, h[n]? = some (.box d) → ∃ a, m[n]? = some a ∧ O a = .ob n ∧ CV K m O H a d
def SR (K : PySem.W.Frag) (m : List Addr) (O : Labs) (H : Hp) (i : Nat) : Sl → Option V → Prop
  | none, _ => True
  | some (d, false), o => ∃ v, o = some v ∧ VR K m O H d v
  | some (d, true), o => ∃ a, o = some (.ref a) ∧ O a = .sl i ∧ CV K m O H a d
structure R (K : PySem.W.Frag) (m : List Addr) (O : Labs) (H : Hp) (ρ : Rho) (h : AH) (σ : L2.St) : Prop where
  st : RH K m O H h
  len : ρ.length = σ.length
  sl : ∀ i s v, ρ[i]? = some s → σ[i]? = some v → SR K m O H i s v
abbrev EX := Exn → List Addr → Labs → Hp → AH → L2.St → Prop

section
variable {K : PySem.W.Frag} {m m' m'' : List Addr} {O O' O'' : Labs} {H H' H'' H0 : Hp} {ρ : Rho} {h h' : AH} {σ : L2.St}
theorem RH.un (r : RH K m O H h) {p : Addr} (hp : H p = none) : O p = .un := by
  cases e : O p with
  | un => rfl
  | fz => exact absurd hp (r.lab p (by rw [e]; decide))
  | sl i => exact absurd hp (r.lab p (by rw [e]; exact fun q => nomatch q))
  | ob n => exact absurd hp (r.lab p (by rw [e]; exact fun q => nomatch q))
theorem SR.keep (k : Keep m O H m' O' H') {i : Nat} (hs : ∀ a, O a = .sl i → O' a = .sl i ∧ H' a = H a) : ∀ {s : Sl} {v : Option V}, SR K m O H i s v → SR K m' O' H' i s v
  | none, _, _ => True.intro
  | some (d, false), _, ⟨v, e, r⟩ => ⟨v, e, VR.keep k _ _ r⟩
  | some (d, true), _, ⟨a, e, o, r⟩ => ⟨a, e, (hs a o).1, r.keep k (hs a o).2⟩
/-- a new object -/
theorem Ext.new {p : Addr} {o : HO} (hp : H p = none) (un : O p = .un) : Ext m O H m O (upd H p o) := by
  refine ⟨⟨[], by simp⟩, fun a ha => ⟨ha, fun u q => ?_⟩, fun a i ha => ⟨ha, ?_⟩, fun a ha hn => ⟨ha, ?_⟩, fun _ _ z => z⟩
  · have ne : a ≠ p := fun e => by rw [e, un] at ha; cases ha
    rcases q with q | ⟨o', q⟩
    · exact .inl (by rw [upd_ne ne]; exact q)
    · exact .inr ⟨o', by rw [upd_ne ne]; exact q⟩
  · exact upd_ne fun e => by rw [e, un] at ha; cases ha
  · exact upd_ne fun e => hn (by rw [e]; exact hp)
theorem RH.ext (r : RH K m O H h) (x : Ext m O H m O' H') (hl : ∀ a, O' a ≠ .un → H' a ≠ none) (ho : ∀ a n, O a = .ob n → H' a = H a) : RH K m O' H' h := by
  refine ⟨hl, r.len, fun n d e => ?_⟩
  obtain ⟨a, h1, h2, h3⟩ := r.obj n d e
  exact ⟨a, h1, x.ob a n h2, h3.keep x.keep (ho a n h2)⟩
theorem R.ext (r : R K m O H ρ h σ) (x : Ext m O H m O' H') (hl : ∀ a, O' a ≠ .un → H' a ≠ none) (ho : ∀ a n, O a = .ob n → H' a = H a) : R K m O' H' ρ h σ :=
  ⟨r.st.ext x hl ho, r.len, fun i s v e1 e2 => (r.sl i s v e1 e2).keep x.keep (x.sl · i)⟩
theorem upd_some {p a : Addr} {o : HO} (hn : H a ≠ none) : upd H p o a ≠ none := by
  by_cases e : a = p
  · subst e; rw [upd_same]; exact fun q => nomatch q
  · rw [upd_ne e]; exact hn
theorem R.new (r : R K m O H ρ h σ) {p : Addr} {o : HO} (hp : H p = none) : R K m O (upd H p o) ρ h σ :=
  r.ext (Ext.new hp (r.st.un hp)) (fun a ha => upd_some (r.st.lab a ha)) fun a n ha => upd_ne fun e => by rw [e, r.st.un hp] at ha; cases ha
/-- a nobody's object is labelled -/
theorem Keep.relab {p : Addr} {l : Lab} (un : O p = .un) : Keep m O H m (Mi.lab O p l) H := by
  refine ⟨fun _ _ z => z, fun a ha => ⟨?_, fun u q => q⟩⟩
  rw [lab_ne fun e => by rw [e, un] at ha; cases ha]
  exact ha
theorem R.relab (r : R K m O H ρ h σ) {p : Addr} {l : Lab} (un : O p = .un) (hp : H p ≠ none) : R K m (Mi.lab O p l) H ρ h σ := by
  have ne : ∀ a l', O a = l' → l' ≠ .un → a ≠ p := fun a l' ha hl e => by rw [e, un] at ha; exact hl ha.symm
  refine ⟨⟨fun a ha => ?_, r.st.len, fun n d e => ?_⟩, r.len, fun i s v e1 e2 => ?_⟩
  · by_cases e : a = p
    · rw [e]; exact hp
    · rw [lab_ne e] at ha; exact r.st.lab a ha
  · obtain ⟨a, h1, h2, h3⟩ := r.st.obj n d e
    refine ⟨a, h1, ?_, h3.keep (Keep.relab un) rfl⟩
    rw [lab_ne (ne a _ h2 fun q => nomatch q)]; exact h2
  · refine (r.sl i s v e1 e2).keep (Keep.relab un) fun a ha => ⟨?_, rfl⟩
    rw [lab_ne (ne a _ ha fun q => nomatch q)]; exact ha
theorem Ext.relab (x : Ext m O H m' O' H') {p : Addr} {l : Lab} (hp : H p = none) (un : O p = .un) : Ext m O H m' (Mi.lab O' p l) H' := by
  have ne : ∀ a l', O a = l' → l' ≠ .un → a ≠ p := fun a l' ha hl e => by rw [e, un] at ha; exact hl ha.symm
  refine ⟨x.pre, fun a ha => ⟨?_, (x.fz a ha).2⟩, fun a i ha => ⟨?_, (x.sl a i ha).2⟩, fun a ha hn => ⟨?_, (x.un a ha hn).2⟩, fun a n ha => ?_⟩
  · rw [lab_ne (ne a _ ha fun q => nomatch q)]; exact (x.fz a ha).1
  · rw [lab_ne (ne a _ ha fun q => nomatch q)]; exact (x.sl a i ha).1
  · rw [lab_ne fun e => hn (by rw [e]; exact hp)]; exact (x.un a ha hn).1
  · rw [lab_ne (ne a _ ha fun q => nomatch q)]; exact x.ob a n ha

/-! ### how a value is told behind an expression -/
def RC (K : PySem.W.Frag) (m : List Addr) (O : Labs) (H : Hp) (d : D) (v : V) : Prop := VR K m O H d v ∨ ∃ i a, v = .ref a ∧ O a = .sl i ∧ CV K m O H a d
def FR (K : PySem.W.Frag) (m : List Addr) (O : Labs) (H H0 : Hp) (d : D) (v : V) : Prop := match d with
  | .lst _ | .dct _ | .dcT _ => ∃ a, v = .ref a ∧ H0 a = none ∧ O a = .un ∧ CV K m O H a d
  | _ => VR K m O H d v
abbrev TR := List Addr → Labs → Hp → Hp → D → Bool → V → Prop
def TX (K : PySem.W.Frag) (pk : Bool) : TR := fun m O H H0 d fr v => if fr then FR K m O H H0 d v else if pk then RC K m O H d v else VR K m O H d v
def TV (K : PySem.W.Frag) : TR := fun m O H _ d _ v => VR K m O H d v
def TP (K : PySem.W.Frag) : TR := fun m O H _ d _ v => RC K m O H d v

def Out (K : PySem.W.Frag) (E : EX) (T : TR) (ρ : Rho) (σ : L2.St) (m : List Addr) (O : Labs) (H : Hp) (res : Res (D × Bool × AH)) (Q : VK) : Prop := match res with
  | .ok p => ∀ m' O' H' v, Ext m O H m' O' H' → R K m' O' H' ρ p.2.2 σ → T m' O' H' H p.1 p.2.1 v → Q v H'
  | .exc x h' => ∀ m' O' H', Ext m O H m' O' H' → R K m' O' H' ρ h' σ → E x m' O' H' h' σ
  | .stuck => False
/-- the reading of an expression by the interpreter -/
def EV (K : PySem.W.Frag) (E : EX) (T : TR) (r : Rho → AH → Res (D × Bool × AH)) : TE := fun σ H Q => ∃ m O h ρ, R K m O H ρ h σ ∧ Out K E T ρ σ m O H (r ρ h) Q
/-- of a list of expressions -/
def OutA (K : PySem.W.Frag) (E : EX) (ρ : Rho) (σ : L2.St) (m : List Addr) (O : Labs) (H : Hp) (res : Res (List D × AH)) (Q : List V → Hp → Prop) : Prop := match res with
  | .ok p => ∀ m' O' H' vs, Ext m O H m' O' H' → R K m' O' H' ρ p.2 σ → VRs K m' O' H' p.1 vs → Q vs H'
  | .exc x h' => ∀ m' O' H', Ext m O H m' O' H' → R K m' O' H' ρ h' σ → E x m' O' H' h' σ
  | .stuck => False
def EVA (K : PySem.W.Frag) (E : EX) (r : Rho → AH → Res (List D × AH)) : TA := fun σ H Q => ∃ m O h ρ, R K m O H ρ h σ ∧ OutA K E ρ σ m O H (r ρ h) Q
/-- of a test -/
def OutT (K : PySem.W.Frag) (E : EX) (ρ : Rho) (σ : L2.St) (m : List Addr) (O : Labs) (H : Hp) (res : Res (D × Bool × AH)) (Q : Bool → Hp → Prop) : Prop := match res with
  | .ok p => match p.1 with
    | .bl b => ∀ m' O' H', Ext m O H m' O' H' → R K m' O' H' ρ p.2.2 σ → Q b H'
    | _ => False
  | .exc x h' => ∀ m' O' H', Ext m O H m' O' H' → R K m' O' H' ρ h' σ → E x m' O' H' h' σ
  | .stuck => False
def EVT (K : PySem.W.Frag) (E : EX) (r : Rho → AH → Res (D × Bool × AH)) : TT := fun σ H Q => ∃ m O h ρ, R K m O H ρ h σ ∧ OutT K E ρ σ m O H (r ρ h) Q

theorem PE.mono {X : Cx} {e : Expr} {t t' : TE} (h : PE X e t) (w : ∀ σ H Q, t' σ H Q → t σ H Q) : PE X e t' := ⟨fun pins s σ H Q I q => h.run pins s σ H Q I (w σ H Q q)⟩
theorem PE.pick {X : Cx} {e : Expr} {t' : TE} (w : ∀ σ H Q, t' σ H Q → ∃ t, PE X e t ∧ t σ H Q) : PE X e t' := ⟨fun pins s σ H Q I q => by
  obtain ⟨t, p, z⟩ := w σ H Q q
  exact p.run pins s σ H Q I z⟩
theorem PT.mono {X : Cx} {e : Expr} {t t' : TT} (h : PT X e t) (w : ∀ σ H Q, t' σ H Q → t σ H Q) : PT X e t' := ⟨fun pins s σ H Q I q => h.run pins s σ H Q I (w σ H Q q)⟩
theorem PT.pick {X : Cx} {e : Expr} {t' : TT} (w : ∀ σ H Q, t' σ H Q → ∃ t, PT X e t ∧ t σ H Q) : PT X e t' := ⟨fun pins s σ H Q I q => by
  obtain ⟨t, p, z⟩ := w σ H Q q
  exact p.run pins s σ H Q I z⟩
theorem PW.mono {X : Cx} {e : Expr} {t t' : TT} (h : PW X e t) (w : ∀ σ H Q, t' σ H Q → t σ H Q) : PW X e t' := ⟨fun whole pins s σ H Q I q => h.run whole pins s σ H Q I (w σ H Q q)⟩
theorem PA.mono {X : Cx} {e : List Expr} {t t' : TA} (h : PA X e t) (w : ∀ σ H Q, t' σ H Q → t σ H Q) : PA X e t' := ⟨fun pos pins s σ H Q I q => h.run pos pins s σ H Q I (w σ H Q q)⟩
theorem PS.mono {X : Cx} {e : Stmt} {t t' : TS} (h : PS X e t) (w : ∀ D σ H, t' D σ H → t D σ H) : PS X e t' := ⟨fun pins s σ H D I q => h.run pins s σ H D I (w D σ H q)⟩
theorem PS.pick {X : Cx} {e : Stmt} {t' : TS} (w : ∀ D σ H, t' D σ H → ∃ t, PS X e t ∧ t D σ H) : PS X e t' := ⟨fun pins s σ H D I q => by
  obtain ⟨t, p, z⟩ := w D σ H q
  exact p.run pins s σ H D I z⟩
theorem PSs.mono {X : Cx} {e : List Stmt} {t t' : TS} (h : PSs X e t) (w : ∀ D σ H, t' D σ H → t D σ H) : PSs X e t' := ⟨fun pins s σ H D I q => h.run pins s σ H D I (w D σ H q)⟩

/-- a new list or dict is frozen, and is then a value as any -/
theorem FR.frozen (f : FR K m' O' H' H d v) (x : Ext m O H m' O' H') (r0 : RH K m O H h) (r : R K m' O' H' ρ h' σ) : ∃ O'', Ext m O H m' O'' H' ∧ R K m' O'' H' ρ h' σ ∧ VR K m' O'' H' d v := by
  have go : ∀ a, v = .ref a → H a = none → O' a = .un → (∀ k : Keep m' O' H' m' (Mi.lab O' a .fz) H', VR K m' (Mi.lab O' a .fz) H' d v) → H' a ≠ none →
      ∃ O'', Ext m O H m' O'' H' ∧ R K m' O'' H' ρ h' σ ∧ VR K m' O'' H' d v := fun a e hn hu k hh =>
    ⟨_, x.relab hn (r0.un hn), r.relab hu hh, k (Keep.relab hu)⟩
  cases d with
  | lst ds =>
    obtain ⟨a, e, hn, hu, xs, hx, hr⟩ := f
    exact go a e hn hu (fun k => by unfold VR; exact ⟨a, xs, e, lab_same, .inl hx, VRs.keep k _ _ hr⟩) (by rw [hx]; exact fun q => nomatch q)
  | dct ds =>
    obtain ⟨a, e, hn, hu, xs, hx, hr⟩ := f
    exact go a e hn hu (fun k => by unfold VR; exact ⟨a, xs, e, lab_same, .inl hx, VRk.keep k _ _ hr⟩) (by rw [hx]; exact fun q => nomatch q)
  | dcT ds =>
    obtain ⟨a, e, hn, hu, xs, hx, hr⟩ := f
    exact go a e hn hu (fun k => by unfold VR; exact ⟨a, xs, e, lab_same, .inl hx, VRt.keep k _ _ hr⟩) (by rw [hx]; exact fun q => nomatch q)
  | non => exact ⟨O', x, r, f⟩
  | bl b => exact ⟨O', x, r, f⟩
  | int b => exact ⟨O', x, r, f⟩
  | str b => exact ⟨O', x, r, f⟩
  | tup b => exact ⟨O', x, r, f⟩
  | ref b => exact ⟨O', x, r, f⟩
  | scr b => exact ⟨O', x, r, f⟩
theorem EV.val {E : EX} {r : Rho → AH → Res (D × Bool × AH)} {X : Cx} {e : Expr} (h : PE X e (EV K E (TX K false) r)) : PE X e (EV K E (TV K) r) := PE.mono h fun σ H Q ⟨m, O, hh, ρ, rr, o⟩ => by
  refine ⟨m, O, hh, ρ, rr, ?_⟩
  cases q : r ρ hh with
  | stuck => rw [q] at o; exact o
  | exc x h' => rw [q] at o; exact o
  | ok p =>
    rw [q] at o
    intro m' O' H' v x r' t
    unfold TX at t
    cases hf : p.2.1 with
    | false =>
      simp only [hf, Bool.false_eq_true, if_false] at t
      exact o m' O' H' v x r' t
    | true =>
      simp only [hf, if_true] at t
      obtain ⟨O'', x2, r2, vr⟩ := t.frozen x rr.st r'
      exact o m' O'' H' v x2 r2 vr
theorem EV.peek {E : EX} {pk : Bool} {r : Rho → AH → Res (D × Bool × AH)} {X : Cx} {e : Expr} (h : PE X e (EV K E (TX K pk) r)) : PE X e (EV K E (TP K) r) := PE.mono h fun σ H Q ⟨m, O, hh, ρ, rr, o⟩ => by
  refine ⟨m, O, hh, ρ, rr, ?_⟩
  cases q : r ρ hh with
  | stuck => rw [q] at o; exact o
  | exc x h' => rw [q] at o; exact o
  | ok p =>
    rw [q] at o
    intro m' O' H' v x r' t
    unfold TX at t
    cases hf : p.2.1 with
    | false =>
      simp only [hf, Bool.false_eq_true, if_false] at t
      refine o m' O' H' v x r' ?_
      cases pk with
      | true => (have z : RC K m' O' H' p.1 v := by simpa using t); exact z
      | false => (have z : VR K m' O' H' p.1 v := by simpa using t); exact .inl z
    | true =>
      simp only [hf, if_true] at t
      obtain ⟨O'', x2, r2, vr⟩ := t.frozen x rr.st r'
      exact o m' O'' H' v x2 r2 (.inl vr)
theorem RC.keep (k : Ext m O H m' O' H') {d : D} {v : V} (c : RC K m O H d v) : RC K m' O' H' d v := by
  rcases c with c | ⟨i, a, e, o, c⟩
  · exact .inl (VR.keep k.keep _ _ c)
  · exact .inr ⟨i, a, e, (k.sl a i o).1, c.keep k.keep (k.sl a i o).2⟩
end
end Mi

set_option Elab.async false
set_option linter.all false
set_option maxRecDepth 100000
set_option maxHeartbeats 1000000
/-! Mi: operations on values, told by the interpreter. -/
namespace Mi
open PySem PySem.Spec PyProof.Rows L2

/-! ### any rule at all -/
def AnyO (X : Cx) (f : Value → Value → Sem Value) : R2 := fun x y H Q => ∃ r : R2, OpR X f r ∧ r x y H Q
theorem anyO {X : Cx} {f : Value → Value → Sem Value} : OpR X f (AnyO X f) := fun pins s σ H x y v u Q I rx ry ⟨r, h, q⟩ => h pins s σ H x y v u Q I rx ry q
def AnyC (X : Cx) (f : Value) : List V → Hp → VK → Prop := fun xs H Q => ∃ r, CallR X f r ∧ r xs H Q
theorem anyC {X : Cx} {f : Value} : CallR X f (AnyC X f) := fun pins s σ H xs us Q I r ⟨t, h, q⟩ => h pins s σ H xs us Q I r q
def AnyI (X : Cx) : R2 := fun x y H Q => ∃ r : R2, IxR X r ∧ r x y H Q
theorem anyI {X : Cx} : IxR X (AnyI X) := fun value slice pins s σ H x y v u Q I rx ry ⟨t, h, q⟩ hs => h value slice pins s σ H x y v u Q I rx ry q hs
def AnyS (X : Cx) : V → Option Int → Option Int → Hp → VK → Prop := fun x lo hi H Q => ∃ r, SlR X r ∧ r x lo hi H Q
theorem anyS {X : Cx} : SlR X (AnyS X) := fun pins s σ H x v vl vu lo hi sl Q I rx hs pl pu ⟨t, h, q⟩ => h pins s σ H x v vl vu lo hi sl Q I rx hs pl pu q

section
variable {K : PySem.W.Frag} {m : List Addr} {O : Labs} {H : Hp} {ρ : Rho} {h : AH} {σ : L2.St} {v : V}
/-! ### what is read of a value -/
theorem RC.of {d : D} (c : RC K m O H d v) (hd : ∀ l, d ≠ .lst l) (hd2 : ∀ l, d ≠ .dct l) (hd3 : ∀ l, d ≠ .dcT l) : VR K m O H d v := by
  rcases c with c | ⟨i, a, e, o, c⟩
  · exact c
  · cases d <;> first | exact absurd rfl (hd _) | exact absurd rfl (hd2 _) | exact absurd rfl (hd3 _) | exact c.elim
theorem RC.int {i : Int} (c : RC K m O H (.int i) v) : v = .int i := by
  have z := c.of (fun _ q => nomatch q) (fun _ q => nomatch q) (fun _ q => nomatch q)
  unfold VR at z; exact z
theorem RC.bl {i : Bool} (c : RC K m O H (.bl i) v) : v = .bl i := by
  have z := c.of (fun _ q => nomatch q) (fun _ q => nomatch q) (fun _ q => nomatch q)
  unfold VR at z; exact z
theorem RC.str {i : Str} (c : RC K m O H (.str i) v) : v = .str i := by
  have z := c.of (fun _ q => nomatch q) (fun _ q => nomatch q) (fun _ q => nomatch q)
  unfold VR at z; exact z
theorem RC.non (c : RC K m O H .non v) : v = .non := by
  have z := c.of (fun _ q => nomatch q) (fun _ q => nomatch q) (fun _ q => nomatch q)
  unfold VR at z; exact z
theorem RC.lst {l : List D} (c : RC K m O H (.lst l) v) : ∃ a xs, v = .ref a ∧ Rd H a (.lst xs) ∧ VRs K m O H l xs := by
  rcases c with c | ⟨i, a, e, o, xs, hx, r⟩
  · unfold VR at c
    obtain ⟨a, xs, e, o, hx, r⟩ := c
    exact ⟨a, xs, e, hx, r⟩
  · exact ⟨a, xs, e, .inl hx, r⟩
theorem RC.tup {l : List D} (c : RC K m O H (.tup l) v) : ∃ a xs, v = .ref a ∧ SqT K H a xs ∧ VRs K m O H l xs := by
  have z := c.of (fun _ q => nomatch q) (fun _ q => nomatch q) (fun _ q => nomatch q)
  unfold VR at z
  obtain ⟨a, xs, e, f, r⟩ := z
  exact ⟨a, xs, e, f.sq, r⟩
theorem RC.dct {l : List (Key × D)} (c : RC K m O H (.dct l) v) : ∃ a kvs, v = .ref a ∧ Rd H a (.dK kvs) ∧ VRk K m O H l kvs := by
  rcases c with c | ⟨i, a, e, o, xs, hx, r⟩
  · unfold VR at c
    obtain ⟨a, xs, e, o, hx, r⟩ := c
    exact ⟨a, xs, e, hx, r⟩
  · exact ⟨a, xs, e, .inl hx, r⟩
theorem RC.scr {l : List Int} (c : RC K m O H (.scr l) v) : ∃ a, v = .ref a ∧ SqL K H a (l.map V.int) := by
  have z := c.of (fun _ q => nomatch q) (fun _ q => nomatch q) (fun _ q => nomatch q)
  unfold VR at z
  obtain ⟨a, e, f⟩ := z
  exact ⟨a, e, f.sq⟩
theorem VR.i (i : Int) : VR K m O H (.int i) (.int i) := by unfold VR; rfl
theorem VR.b (i : Bool) : VR K m O H (.bl i) (.bl i) := by unfold VR; rfl
theorem VR.s (i : Str) : VR K m O H (.str i) (.str i) := by unfold VR; rfl
theorem VR.n : VR K m O H .non .non := by unfold VR; rfl

/-- what follows an operation that hands back d -/
def Then (K : PySem.W.Frag) (m : List Addr) (O : Labs) (H : Hp) (ρ : Rho) (h : AH) (σ : L2.St) (T : TR) (d : D) (fr : Bool) (Q : VK) : Prop :=
  ∀ m' O' H' w, Ext m O H m' O' H' → R K m' O' H' ρ h σ → T m' O' H' H d fr w → Q w H'
theorem Then.here {T : TR} {d : D} {fr : Bool} {Q : VK} (r : R K m O H ρ h σ) (c : Then K m O H ρ h σ T d fr Q) {w : V} (t : T m O H H d fr w) : Q w H := c m O H w .refl r t
/-- a new list -/
theorem Then.lst {l : List D} {xs : List V} {Q : VK} (r : R K m O H ρ h σ) (c : Then K m O H ρ h σ (TX K false) (.lst l) true Q) (vs : VRs K m O H l xs) {p : Addr} (hp : H p = none) : Q (.ref p) (upd H p (.lst xs)) := by
  have un := r.st.un hp
  have x : Ext m O H m O (upd H p (.lst xs)) := Ext.new hp un
  exact c m O _ _ x (r.new hp) ⟨p, rfl, hp, un, xs, upd_same, VRs.keep x.keep _ _ vs⟩
theorem Then.dct {l : List (Key × D)} {xs : List (Key × V)} {Q : VK} (r : R K m O H ρ h σ) (c : Then K m O H ρ h σ (TX K false) (.dct l) true Q) (vs : VRk K m O H l xs) {p : Addr} (hp : H p = none) : Q (.ref p) (upd H p (.dK xs)) := by
  have un := r.st.un hp
  have x : Ext m O H m O (upd H p (.dK xs)) := Ext.new hp un
  exact c m O _ _ x (r.new hp) ⟨p, rfl, hp, un, xs, upd_same, VRk.keep x.keep _ _ vs⟩
/-- a new tuple -/
theorem Then.tup {T : TR} {l : List D} {xs : List V} {fr : Bool} {Q : VK} (r : R K m O H ρ h σ) (c : Then K m O H ρ h σ T (.tup l) fr Q) (hT : ∀ m O H H0 w, VR K m O H (.tup l) w → T m O H H0 (.tup l) fr w) (vs : VRs K m O H l xs)
    {p : Addr} (hp : H p = none) : Q (.ref p) (upd H p (.tup xs)) := by
  have un := r.st.un hp
  have x : Ext m O H m O (upd H p (.tup xs)) := Ext.new hp un
  refine c m (Mi.lab O p .fz) _ _ (x.relab hp un) ((r.new hp).relab un (by rw [upd_same]; exact fun q => nomatch q)) (hT _ _ _ _ _ ?_)
  unfold VR
  exact ⟨p, xs, rfl, .inl ⟨lab_same, .inl upd_same⟩, VRs.keep (Keep.relab un) _ _ (VRs.keep x.keep _ _ vs)⟩
theorem TX.tup {l : List D} {fr : Bool} {m : List Addr} {O : Labs} {H H0 : Hp} {w : V} (q : VR K m O H (.tup l) w) : TX K false m O H H0 (.tup l) fr w := by
  unfold TX; cases fr <;> simpa [FR] using q
theorem guard_ok {α : Type} {b : Bool} {r : Res α} {a : α} (e : guard' b r = .ok a) : b = true ∧ r = .ok a := by
  unfold guard' at e
  cases b with
  | true => exact ⟨rfl, by simpa using e⟩
  | false => simp at e

/-! ### operators -/
def opOf : Op2 → Operator
  | .add => .Add | .sub => .Sub | .mul => .Mult | .fdiv => .FloorDiv | .mod => .Mod | .pow => .Pow
theorem TX.int {i : Int} {fr pk : Bool} {m : List Addr} {O : Labs} {H H0 : Hp} : TX K pk m O H H0 (.int i) fr (.int i) := by
  unfold TX; cases fr <;> cases pk <;> simp [FR, RC, VR]
theorem TX.bl {i : Bool} {fr pk : Bool} {m : List Addr} {O : Labs} {H H0 : Hp} : TX K pk m O H H0 (.bl i) fr (.bl i) := by
  unfold TX; cases fr <;> cases pk <;> simp [FR, RC, VR]
theorem TX.str {i : Str} {fr pk : Bool} {m : List Addr} {O : Labs} {H H0 : Hp} : TX K pk m O H H0 (.str i) fr (.str i) := by
  unfold TX; cases fr <;> cases pk <;> simp [FR, RC, VR]
theorem TX.non {fr pk : Bool} {m : List Addr} {O : Labs} {H H0 : Hp} : TX K pk m O H H0 .non fr .non := by
  unfold TX; cases fr <;> cases pk <;> simp [FR, RC, VR]

section
variable {X : Cx}
/-- list + list, frozen ones too -/
def rCatR : R2 := fun x y H Q => ∃ l b xs zs, x = .ref l ∧ y = .ref b ∧ Rd H l (.lst xs) ∧ Rd H b (.lst zs) ∧ xs.length + zs.length ≤ sizeLine ∧ ∀ p, H p = none → Q (.ref p) (upd H p (.lst (xs ++ zs)))
theorem rdL {pins : List (Addr × Obj)} {σ : L2.St} {H : Hp} {s : Shared} {l : Addr} {xs : List V} (I : Inv X pins σ H s) (hH : Rd H l (.lst xs)) : xs.length ≤ sizeLine ∧ ∃ (its : List Value) (n : Nat), Vals xs its ∧ xs.length = its.length ∧ s.heap.get? l = some { cls := .type "list", data := .seq its.toArray n } := by
  obtain ⟨hz, its, n, r, e⟩ := hH.ok I.hok
  exact ⟨hz, its, n, r, r.length, e⟩
theorem op_catR : OpR X (binaryOp .Add) rCatR := by
  intro pins s σ H x y v u Q I rx ry h
  obtain ⟨l, b, xs, zs, rfl, rfl, hH, hB, hz, q⟩ := h
  cases rx
  cases ry
  obtain ⟨z, its, n, r, hl, e⟩ := rdL I hH
  obtain ⟨z2, its2, n2, r2, hl2, e2⟩ := rdL I hB
  refine PySem.P.add_list e e2 ?_ (by rw [List.size_toArray, List.size_toArray]; omega)
  have ea : its.toArray ++ its2.toArray = (its ++ its2).toArray := by simp
  rw [ea]
  exact ⟨.ref _, _, I.lnew (t' := s.toks) (r.append r2) (by rw [List.length_append]; omega), rfl, q _ I.fresh⟩
theorem big_eq : big = sizeLine := rfl
variable (hX : X.K = K)
include hX
theorem bin_ok {o : Op2} {d e z : D} {x y : V} {Q : VK} (r : R K m O H ρ h σ) (cx : RC K m O H d x) (cy : RC K m O H e y) (ev : bin o d e = .ok z) (c : Then K m O H ρ h σ (TX K false) z true Q) : AnyO X (binaryOp (opOf o)) x y H Q := by
  unfold bin at ev
  split at ev
  · cases ev; exact ⟨_, op_add, _, _, cx.int, cy.int, c.here r TX.int⟩
  · cases ev; exact ⟨_, op_sub, _, _, cx.int, cy.int, c.here r TX.int⟩
  · obtain ⟨g, e1⟩ := guard_ok ev
    cases e1
    refine ⟨_, op_mul, _, _, cx.int, cy.int, ?_, c.here r TX.int⟩
    rw [Bool.or_eq_true, decide_eq_true_eq, decide_eq_true_eq] at g
    exact g
  · obtain ⟨g, e1⟩ := guard_ok ev
    cases e1
    have g' := of_decide_eq_true g
    exact ⟨_, op_fdivN, _, _, cx.int, cy.int, g', c.here r TX.int⟩
  · obtain ⟨g, e1⟩ := guard_ok ev
    cases e1
    exact ⟨_, op_modN, _, _, cx.int, cy.int, of_decide_eq_true g, c.here r TX.int⟩
  · obtain ⟨g, e1⟩ := guard_ok ev
    cases e1
    have g' := of_decide_eq_true g
    exact ⟨_, op_pow, _, _, cx.int, cy.int, g', c.here r TX.int⟩
  · obtain ⟨g, e1⟩ := guard_ok ev
    cases e1
    exact ⟨_, op_add_str, _, _, cx.str, cy.str, of_decide_eq_true g, c.here r TX.str⟩
  · obtain ⟨g, e1⟩ := guard_ok ev
    cases e1
    obtain ⟨a, xs, rfl, ha, va⟩ := cx.lst
    obtain ⟨b, ys, rfl, hb, vb⟩ := cy.lst
    refine ⟨_, op_catR, a, b, xs, ys, rfl, rfl, ha, hb, ?_, fun p hp => c.lst r (va.append vb) hp⟩
    rw [← va.length, ← vb.length]
    exact of_decide_eq_true g
  · obtain ⟨g, e1⟩ := guard_ok ev
    cases e1
    subst hX
    rename_i l1 l2
    have tx := cx.of (fun _ q => nomatch q) (fun _ q => nomatch q) (fun _ q => nomatch q)
    have ty := cy.of (fun _ q => nomatch q) (fun _ q => nomatch q) (fun _ q => nomatch q)
    obtain ⟨a, xs, rfl, ha, va⟩ := cx.tup
    obtain ⟨b, ys, rfl, hb, vb⟩ := cy.tup
    refine ⟨_, op_catA, a, b, xs, ys, rfl, rfl, ha, hb, ?_, fun e0 => ?_, fun e0 e1 => ?_, fun e0 e1 p hp => c.tup r (fun _ _ _ _ _ => TX.tup) (va.append vb) hp⟩
    · rw [← va.length, ← vb.length]
      exact of_decide_eq_true g
    · have : l1 = [] := List.length_eq_zero_iff.mp (by rw [va.length, e0]; rfl)
      subst this
      exact c.here r (TX.tup (by simpa using ty))
    · have : l2 = [] := List.length_eq_zero_iff.mp (by rw [vb.length, e1]; rfl)
      subst this
      exact c.here r (TX.tup (by simpa using tx))
  · cases ev
end
end
end Mi

set_option Elab.async false
set_option linter.all false
set_option maxRecDepth 100000
set_option maxHeartbeats 2000000
/-! Mi: == and != of lists and tuples within one model, whatever their items are (turned from the library's own, whose items are data). -/
namespace PySem.SeqAt
open AutoSeq1 (wpAny_loadPart')
open MeetsSeq MeetsSeq2 MeetsSeq3 SeqRoads2
section
variable {prog : Program} {w : World}
abbrev LstAt (s : Shared) (l : Addr) (dd : Option Addr) (xs : Array Value) (n : Nat) (sl : Array (Option Value)) : Prop := s.heap.get? l = some { cls := .type "list", dict := dd, data := .seq xs n, slots := sl }
abbrev TupAt (s : Shared) (l : Addr) (dd : Option Addr) (xs : Array Value) (n : Nat) (sl : Array (Option Value)) : Prop := s.heap.get? l = some { cls := .type "tuple", dict := dd, data := .seq xs n, slots := sl }
abbrev EachP (prog : Program) (w : World) (A : Around) (s : Shared) (xs ys : Array Value) (e : Nat → Bool) : Prop := ∀ j (h1 : j < xs.size) (h2 : j < ys.size), EqP prog w A.in1 s xs[j] ys[j] (e j)
theorem mi_ne_loop (l b : Addr) (xs ys : Array Value) (n n2 : Nat) (dd dd2 : Option Addr) (sl sl2 : Array (Option Value)) (hsz : xs.size = ys.size) (e : Nat → Bool) (k : Nat) :
    ∀ i : Nat, xs.size - i = k → MeetsIn prog w (Builtin.«list.__eq__.loop» ⟨[.ref l, .ref b, rawInt i, rawInt 3], []⟩)
      (fun A R s => LstAt s l dd xs n sl ∧ LstAt s b dd2 ys n2 sl2 ∧ EachP prog w A s xs ys e ∧ R (.ok (.ret (.bool (!((List.range xs.size).drop i).all e)))) s) := by
  induction k with
  | zero =>
    intro i hk A R s h
    obtain ⟨hp, g, d, tk, os⟩ := s
    obtain ⟨hl, hb, he, h⟩ := h
    wp_walk using wpAny_loadPart' hl, wpAny_loadPart' hb
    have z1 : xs[((i : Nat) : Int).toNat]? = none := by simp; omega
    have z2 : ys[((i : Nat) : Int).toNat]? = none := by simp; omega
    have z3 : (List.range xs.size).drop i = [] := by simp; omega
    rw [z3] at h
    rw [z1, z2]
    wp_walk using wpAny_loadPart' hl, wpAny_loadPart' hb
    show R (.ok (.ret (.bool (xs.size != ys.size)))) _
    rw [hsz]
    simpa using h
  | succ k ih =>
    intro i hk A R s h
    obtain ⟨hp, g, d, tk, os⟩ := s
    obtain ⟨hl, hb, he, h⟩ := h
    wp_walk using wpAny_loadPart' hl, wpAny_loadPart' hb
    have b1 : i < xs.size := by omega
    have b2 : i < ys.size := by omega
    have z1 : xs[((i : Nat) : Int).toNat]? = some xs[i] := by simp [b1]
    have z2 : ys[((i : Nat) : Int).toNat]? = some ys[i] := by simp [b2]
    have z3 : (List.range xs.size).drop i = i :: (List.range xs.size).drop (i + 1) := by simp [List.drop_eq_getElem_cons, b1]
    have z4 : ((i : Int) + 1) = ((i + 1 : Nat) : Int) := by push_cast; rfl
    rw [z3, List.all_cons] at h
    rw [z1, z2]
    refine wpAny_bind (he i b1 b2 _ _ ?_)
    cases q : e i with
    | true =>
      rw [q] at h
      wp_walk
      rw [z4]
      exact ⟨plainId_quiet plain_eq_loop _, codeAny_builtin entry_eq_loop (by
        rw [Around.under_plainId plain_eq_loop _]
        exact ih (i + 1) (by omega) A R _ ⟨hl, hb, he, by simpa using h⟩)⟩
    | false =>
      rw [q] at h
      wp_walk using wpAny_loadPart' hl, wpAny_loadPart' hb
      rw [z1, z2]
      wp_walk
      simpa using h
theorem mi_list_ne (l b : Addr) (xs ys : Array Value) (n n2 : Nat) (dd dd2 : Option Addr) (sl sl2 : Array (Option Value)) (hsz : xs.size = ys.size) (e : Nat → Bool) :
    MeetsIn prog w (Builtin.«list.__ne__» ⟨[.ref l, .ref b], []⟩)
      (fun A R s => LstAt s l dd xs n sl ∧ LstAt s b dd2 ys n2 sl2 ∧ EachP prog w A s xs ys e ∧ R (.ok (.ret (.bool (!(List.range xs.size).all e)))) s) := by
  intro A R s h
  obtain ⟨hp, g, d, tk, os⟩ := s
  obtain ⟨hl, hb, he, h⟩ := h
  have f3 := AutoSeq1.sub_list_list
  have hne : ¬ (xs.size != ys.size) = true := by simp [hsz]
  wp_walk using wpAny_loadPart' hl, wpAny_loadPart' hb
  exact ⟨plainId_quiet plain_eq_loop _, codeAny_builtin entry_eq_loop (by
    rw [Around.under_plainId plain_eq_loop _]
    exact mi_ne_loop l b xs ys n n2 dd dd2 sl sl2 hsz e _ 0 rfl A R _ ⟨hl, hb, he, by simpa using h⟩)⟩
theorem mi_tup_eq (l b : Addr) (xs ys : Array Value) (n n2 : Nat) (dd dd2 : Option Addr) (sl sl2 : Array (Option Value)) (e : Nat → Bool) :
    MeetsIn prog w (Builtin.«tuple.__eq__» ⟨[.ref l, .ref b], []⟩)
      (fun A R s => TupAt s l dd xs n sl ∧ TupAt s b dd2 ys n2 sl2 ∧ EachP prog w A s xs ys e ∧ R (.ok (.ret (.bool ((List.range (min xs.size ys.size)).all e && xs.size == ys.size)))) s) :=
  .of_wp fun A R s h => by
    obtain ⟨hp, g, d, tk, os⟩ := s
    obtain ⟨hl, hb, he, h⟩ := h
    have f2 := AutoSeq1.sub_tuple_tuple
    have hZ : (xs.toList.zip ys.toList).length = min xs.size ys.size := by simp
    wp_walk using wpAny_loadPart' hl, wpAny_loadPart' hb, wpAny_forIn_list _ (fun rest b s' => b.1 = none ∧ s' = ⟨hp, g, d, tk, os⟩ ∧ ∃ i, rest = (xs.toList.zip ys.toList).drop i ∧
      R (.ok (.ret (.bool (((List.range (min xs.size ys.size)).drop i).all e && xs.size == ys.size)))) ⟨hp, g, d, tk, os⟩) _
    case turn =>
      rintro ⟨y, x⟩ rest b s' ⟨_, rfl, i, hz, hR⟩
      have b0 : i < (xs.toList.zip ys.toList).length := by
        rcases Nat.lt_or_ge i (xs.toList.zip ys.toList).length with z | z
        · exact z
        · rw [List.drop_of_length_le z] at hz; cases hz
      have hm : i < min xs.size ys.size := hZ ▸ b0
      have b1 : i < xs.size := Nat.lt_of_lt_of_le hm (Nat.min_le_left _ _)
      have b2 : i < ys.size := Nat.lt_of_lt_of_le hm (Nat.min_le_right _ _)
      rw [List.drop_eq_getElem_cons b0] at hz
      injection hz with e1 e2
      have hy : y = xs[i] := by have := congrArg Prod.fst e1; simpa using this
      have hx : x = ys[i] := by have := congrArg Prod.snd e1; simpa using this
      subst hy hx
      have hd : (List.range (min xs.size ys.size)).drop i = i :: (List.range (min xs.size ys.size)).drop (i + 1) := by simp [List.drop_eq_getElem_cons, hm]
      rw [hd, List.all_cons] at hR
      refine wpAny_bind (he i b1 b2 _ _ ?_)
      cases q : e i with
      | true =>
        rw [q] at hR
        wp_walk
        exact ⟨rfl, rfl, i + 1, e2, by simpa using hR⟩
      | false =>
        rw [q] at hR
        wp_walk
        exact ⟨_, rfl, by simpa using hR⟩
    case fin =>
      rintro ⟨b1, b2⟩ s' ⟨q, rfl, i, hz, hR⟩
      simp only at q
      subst q
      have hge : min xs.size ys.size ≤ i := by
        rcases Nat.lt_or_ge i (xs.toList.zip ys.toList).length with z | z
        · rw [List.drop_eq_getElem_cons z] at hz; cases hz
        · exact hZ ▸ z
      rw [List.drop_of_length_le (by simpa using hge)] at hR
      wp_walk
      exact ⟨_, rfl, by simpa [Builtin.Tuple.tupleCompareSizes] using hR⟩
    case h =>
      exact ⟨rfl, rfl, 0, rfl, by simpa using h⟩
theorem mi_tup_ne (l b : Addr) (xs ys : Array Value) (n n2 : Nat) (dd dd2 : Option Addr) (sl sl2 : Array (Option Value)) (e : Nat → Bool) :
    MeetsIn prog w (Builtin.«tuple.__ne__» ⟨[.ref l, .ref b], []⟩)
      (fun A R s => TupAt s l dd xs n sl ∧ TupAt s b dd2 ys n2 sl2 ∧ EachP prog w A s xs ys e ∧ R (.ok (.ret (.bool (!((List.range (min xs.size ys.size)).all e && xs.size == ys.size))))) s) :=
  .of_wp fun A R s h => by
    obtain ⟨hp, g, d, tk, os⟩ := s
    obtain ⟨hl, hb, he, h⟩ := h
    have f2 := AutoSeq1.sub_tuple_tuple
    have hZ : (xs.toList.zip ys.toList).length = min xs.size ys.size := by simp
    wp_walk using wpAny_loadPart' hl, wpAny_loadPart' hb, wpAny_forIn_list _ (fun rest b s' => b.1 = none ∧ s' = ⟨hp, g, d, tk, os⟩ ∧ ∃ i, rest = (xs.toList.zip ys.toList).drop i ∧
      R (.ok (.ret (.bool (!(((List.range (min xs.size ys.size)).drop i).all e && xs.size == ys.size))))) ⟨hp, g, d, tk, os⟩) _
    case turn =>
      rintro ⟨y, x⟩ rest b s' ⟨_, rfl, i, hz, hR⟩
      have b0 : i < (xs.toList.zip ys.toList).length := by
        rcases Nat.lt_or_ge i (xs.toList.zip ys.toList).length with z | z
        · exact z
        · rw [List.drop_of_length_le z] at hz; cases hz
      have hm : i < min xs.size ys.size := hZ ▸ b0
      have b1 : i < xs.size := Nat.lt_of_lt_of_le hm (Nat.min_le_left _ _)
      have b2 : i < ys.size := Nat.lt_of_lt_of_le hm (Nat.min_le_right _ _)
      rw [List.drop_eq_getElem_cons b0] at hz
      injection hz with e1 e2
      have hy : y = xs[i] := by have := congrArg Prod.fst e1; simpa using this
      have hx : x = ys[i] := by have := congrArg Prod.snd e1; simpa using this
      subst hy hx
      have hd : (List.range (min xs.size ys.size)).drop i = i :: (List.range (min xs.size ys.size)).drop (i + 1) := by simp [List.drop_eq_getElem_cons, hm]
      rw [hd, List.all_cons] at hR
      refine wpAny_bind (he i b1 b2 _ _ ?_)
      cases q : e i with
      | true =>
        rw [q] at hR
        wp_walk
        exact ⟨rfl, rfl, i + 1, e2, by simpa using hR⟩
      | false =>
        rw [q] at hR
        wp_walk
        exact ⟨_, rfl, by simpa using hR⟩
    case fin =>
      rintro ⟨b1, b2⟩ s' ⟨q, rfl, i, hz, hR⟩
      simp only at q
      subst q
      have hge : min xs.size ys.size ≤ i := by
        rcases Nat.lt_or_ge i (xs.toList.zip ys.toList).length with z | z
        · rw [List.drop_eq_getElem_cons z] at hz; cases hz
        · exact hZ ▸ z
      rw [List.drop_of_length_le (by simpa using hge)] at hR
      wp_walk
      exact ⟨_, rfl, by simpa [Builtin.Tuple.tupleCompareSizes, bne] using hR⟩
    case h =>
      exact ⟨rfl, rfl, 0, rfl, by simpa using h⟩
section
variable {A : Around} {s : Shared} {l b : Addr} {xs ys : Array Value} {e : Nat → Bool} {E Q : Value → Shared → Prop}
theorem mi_rc_lists_ne (hl : s.heap.IsList l xs) (hb : s.heap.IsList b ys) (hsz : xs.size = ys.size) (hu : A.units < cLine) (he : EachP prog w A s xs ys e)
    (h : Q (.bool (!(List.range xs.size).all e)) s) : wpAny (model prog w) A (richCompare .NotEq (.ref l) (.ref b)) Q E s := by
  obtain ⟨⟨cls, dd, data, sl⟩, ho, hc, n, hd⟩ := id hl
  obtain ⟨⟨cls2, dd2, data2, sl2⟩, ho2, hc2, n2, hd2⟩ := id hb
  simp only at hc hd hc2 hd2
  subst hc hd hc2 hd2
  have ta : s.TypeIs (.ref l) "list" := ⟨_, ho, rfl⟩
  have tb : s.TypeIs (.ref b) "list" := ⟨_, ho2, rfl⟩
  exact wpAny_richCompare_same_room (op := .NotEq) ta tb F.slot_list_ne (call_meetsIn F.slot_list_ne ta F.entry_list_ne (F.args_list_ne_2 _ _) (mi_list_ne l b xs ys n n2 dd dd2 sl sl2 hsz e)
    ⟨ho, ho2, he, (fun x => nomatch x), h⟩) hu
theorem mi_rc_tups (hl : s.heap.IsTuple l xs) (hb : s.heap.IsTuple b ys) (hu : A.units < cLine) (he : EachP prog w A s xs ys e)
    (h : Q (.bool ((List.range (min xs.size ys.size)).all e && xs.size == ys.size)) s) : wpAny (model prog w) A (richCompare .Eq (.ref l) (.ref b)) Q E s := by
  obtain ⟨⟨cls, dd, data, sl⟩, ho, hc, n, hd⟩ := id hl
  obtain ⟨⟨cls2, dd2, data2, sl2⟩, ho2, hc2, n2, hd2⟩ := id hb
  simp only at hc hd hc2 hd2
  subst hc hd hc2 hd2
  have ta : s.TypeIs (.ref l) "tuple" := ⟨_, ho, rfl⟩
  have tb : s.TypeIs (.ref b) "tuple" := ⟨_, ho2, rfl⟩
  exact wpAny_richCompare_same_room (op := .Eq) ta tb F.slot_tuple_eq (call_meetsIn F.slot_tuple_eq ta F.entry_tuple_eq (F.args_tuple_eq_2 _ _) (mi_tup_eq l b xs ys n n2 dd dd2 sl sl2 e)
    ⟨ho, ho2, he, (fun x => nomatch x), h⟩) hu
theorem mi_rc_tups_ne (hl : s.heap.IsTuple l xs) (hb : s.heap.IsTuple b ys) (hu : A.units < cLine) (he : EachP prog w A s xs ys e)
    (h : Q (.bool (!((List.range (min xs.size ys.size)).all e && xs.size == ys.size))) s) : wpAny (model prog w) A (richCompare .NotEq (.ref l) (.ref b)) Q E s := by
  obtain ⟨⟨cls, dd, data, sl⟩, ho, hc, n, hd⟩ := id hl
  obtain ⟨⟨cls2, dd2, data2, sl2⟩, ho2, hc2, n2, hd2⟩ := id hb
  simp only at hc hd hc2 hd2
  subst hc hd hc2 hd2
  have ta : s.TypeIs (.ref l) "tuple" := ⟨_, ho, rfl⟩
  have tb : s.TypeIs (.ref b) "tuple" := ⟨_, ho2, rfl⟩
  exact wpAny_richCompare_same_room (op := .NotEq) ta tb F.slot_tuple_ne (call_meetsIn F.slot_tuple_ne ta F.entry_tuple_ne (F.args_tuple_ne_2 _ _) (mi_tup_ne l b xs ys n n2 dd dd2 sl sl2 e)
    ⟨ho, ho2, he, (fun x => nomatch x), h⟩) hu
end
end
end PySem.SeqAt

set_option Elab.async false
set_option linter.all false
set_option maxRecDepth 100000
set_option maxHeartbeats 2000000
/-! Mi: == and != of told values. -/
namespace Mi
open PySem PySem.Spec PySem.Calls PyProof.Rows PyProof.V L2
section
variable {P : Program} {w : World} {K : PySem.W.Frag} {m : List Addr} {O : Labs} {H : Hp}

/-- a dict's == with what it holds, != too -/
theorem mi_rc_dicts_ne {Ky : Type} [DecidableEq Ky] {knd : KeyKind P w Ky} {A : Around} {s : Shared} {a b : Addr} {ka kb : List (Ky × Value)} {r : Bool} (ha : (a == sysModules) = false) (hb : (b == sysModules) = false)
    (da : s.heap.DictOf knd a ka) (db : s.heap.DictOf knd b kb) (hu : A.units < cLine) (hits : ka.length = kb.length → PySem.W.KeqHitsP P w A.in1 s kb ka r) (E Q : Value → Shared → Prop)
    (h : Q (.bool (!(ka.length == kb.length && r))) s) : wpAny (model P w) A (richCompare .NotEq (.ref a) (.ref b)) Q E s := by
  refine wpAny_richCompare_same_room (op := .NotEq) da.typeIs db.typeIs PySem.F.slot_dict_ne (wpAny_call_entry PySem.F.slot_dict_ne da.typeIs PySem.F.entry_dict_ne ?_ (PySem.F.args_dict_ne_2 _ _)) hu
  show wpAny _ _ (Builtin.Dict.dictSlotArgs "__ne__" ⟨[.ref a, .ref b], []⟩ >>= _) _ _ s
  refine wpAny_bind ?_
  unfold Builtin.Dict.dictSlotArgs
  refine wpAny_bind (wpAny_notOrdered_dict da.typeIs ?_)
  show wpAny _ _ (pure (Value.ref a, Value.ref b)) _ _ s
  refine wpAny_pure ?_
  refine wpAny_bind (wpAny_isInstance (T := "dict") db.typeIs PySem.F.sub_dict_dict ?_)
  simp only [Bool.not_true, Bool.false_eq_true, if_false]
  refine wpAny_bind (wpAny_pure (wpAny_bind (wpAny_pure ?_)))
  refine wpAny_bind (PySem.W.samePairsP ha hb da db hits ?_)
  refine wpAny_pure ⟨_, rfl, ?_, ?_⟩
  · exact fun x => nomatch x
  · simpa using h

/-! ### two tellings of one value -/
theorem rd_inj {H : Hp} {a : Addr} {u v : HO} (h : Rd H a u) (q : Rd H a v) (hu : ∀ o x, u ≠ .frz o x) (hv : ∀ o x, v ≠ .frz o x) : u = v := by
  rcases h with h | ⟨o, h⟩ <;> rcases q with q | ⟨o', q⟩ <;> rw [h] at q <;> injection q with q
  · exact absurd q (hu _ _)
  · exact absurd q.symm (hv _ _)
  · injection q
/-- how an == or != of containers runs -/
structure EqC (P : Program) (w : World) (A : Around) (s : Shared) (v u : Value) (b : Bool) : Prop where
  eq : ∀ (E Q : Value → Shared → Prop), Q (.bool b) s → wpAny (model P w) A (richCompare .Eq v u) Q E s
  ne : ∀ (E Q : Value → Shared → Prop), Q (.bool (!b)) s → wpAny (model P w) A (richCompare .NotEq v u) Q E s
theorem EqC.of {A : Around} {s : Shared} {v u : Value} {b : Bool} (h : SeqAt.RcAt A s v u b) (h' : SeqAt.RcNeAt A s v u (!b)) : EqC P w A s v u b := ⟨fun E Q => h P w E Q, fun E Q => h' P w E Q⟩
section
variable {X : Cx} {pins : List (Addr × Obj)} {σ : L2.St} {s : Shared} {A : Around}
/-- flat ones and lists or tuples beside them -/
theorem flat_eq (I : Inv X pins σ H s) (hu : A.units < cLine) {d e : D} {x y : V} {v u : Value} (cx : RC X.K m O H d x) (cy : RC X.K m O H e y) (rx : RelV x v) (ry : RelV y u)
    (ok : ((d.flat && e.flat) || (d.flat && e.seq) || (d.seq && e.flat)) = true) : EqC P w A s v u (D.eqv d e) ∧ SeqAt.EqAt A s v u (D.eqv d e) := by
  have flat : ∀ {d : D} {x : V} {v : Value}, RC X.K m O H d x → RelV x v → d.flat = true → (d = .non ∧ v = .none) ∨ (∃ b, d = .bl b ∧ v = .bool b) ∨ (∃ i t, d = .int i ∧ v = .int i t) ∨ (∃ z t, d = .str z ∧ v = .str z t) := by
    intro d x v c r f
    cases d with
    | non => cases c.non; exact .inl ⟨rfl, r⟩
    | bl b => cases c.bl; exact .inr (.inl ⟨b, rfl, r⟩)
    | int i => cases c.int; obtain ⟨t, e⟩ := r; exact .inr (.inr (.inl ⟨i, t, rfl, e⟩))
    | str z => cases c.str; obtain ⟨t, e⟩ := r; exact .inr (.inr (.inr ⟨z, t, rfl, e⟩))
    | _ => cases f
  have seq : ∀ {d : D} {x : V} {v : Value}, RC X.K m O H d x → RelV x v → d.seq = true → ∃ a its, v = .ref a ∧ ((∃ l, d = .lst l ∧ s.heap.IsList a its) ∨ (∃ l, d = .tup l ∧ s.heap.IsTuple a its)) := by
    intro d x v c r f
    cases d with
    | lst l =>
      obtain ⟨a, xs, rfl, hx, _⟩ := c.lst
      cases r
      obtain ⟨its, _, pl, _⟩ := I.list (xs := xs) (.inl hx)
      exact ⟨a, its.toArray, rfl, .inl ⟨l, rfl, pl.isList⟩⟩
    | tup l =>
      obtain ⟨a, xs, rfl, hx, _⟩ := c.tup
      cases r
      obtain ⟨its, _, pl, _⟩ := I.tuple hx
      exact ⟨a, its.toArray, rfl, .inr ⟨l, rfl, pl⟩⟩
    | _ => cases f
  rw [Bool.or_eq_true, Bool.or_eq_true, Bool.and_eq_true, Bool.and_eq_true, Bool.and_eq_true] at ok
  rcases ok with (⟨f, g⟩ | ⟨f, g⟩) | ⟨f, g⟩
  · rcases flat cx rx f with ⟨rfl, rfl⟩ | ⟨b, rfl, rfl⟩ | ⟨i, t, rfl, rfl⟩ | ⟨z, t, rfl, rfl⟩ <;> rcases flat cy ry g with ⟨rfl, rfl⟩ | ⟨b', rfl, rfl⟩ | ⟨i', t', rfl, rfl⟩ | ⟨z', t', rfl, rfl⟩ <;> unfold D.eqv
    · exact ⟨.of .none_none .none_none, .same _⟩
    · exact ⟨.of (.none_bool _) (.none_bool _), .none_bool _⟩
    · exact ⟨.of (.none_int _ _) (.none_int _ _), .none_int _ _⟩
    · exact ⟨.of (.none_str _ _) (.none_str _ _), .none_str _ _⟩
    · exact ⟨.of (.bool_none _) (.bool_none _), .bool_none _⟩
    · exact ⟨.of (.bool_bool _ _) (.bool_bool _ _), .bool_bool _ _⟩
    · exact ⟨.of (.bool_int _ _ _) (.bool_int _ _ _), .bool_int _ _ _⟩
    · exact ⟨.of (.bool_str _ _ _) (.bool_str _ _ _), .bool_str _ _ _⟩
    · exact ⟨.of (.int_none _ _) (.int_none _ _), .int_none _ _⟩
    · exact ⟨.of (.int_bool _ _ _) (.int_bool _ _ _), .int_bool _ _ _⟩
    · exact ⟨.of (.int_int _ _ _ _) (.int_int _ _ _ _), .int_int _ _ _ _⟩
    · exact ⟨.of (.int_str _ _ _ _) (.int_str _ _ _ _), .int_str _ _ _ _⟩
    · exact ⟨.of (.str_none _ _) (.str_none _ _), .str_none _ _⟩
    · exact ⟨.of (.str_bool _ _ _) (.str_bool _ _ _), .str_bool _ _ _⟩
    · exact ⟨.of (.str_int _ _ _ _) (.str_int _ _ _ _), .str_int _ _ _ _⟩
    · exact ⟨.of (.str_str _ _ _ _) (.str_str _ _ _ _), .str_str _ _ _ _⟩
  · obtain ⟨a, its, rfl, ⟨l, rfl, hl⟩ | ⟨l, rfl, hl⟩⟩ := seq cy ry g <;> rcases flat cx rx f with ⟨rfl, rfl⟩ | ⟨b, rfl, rfl⟩ | ⟨i, t, rfl, rfl⟩ | ⟨z, t, rfl, rfl⟩ <;> unfold D.eqv
    · exact ⟨.of (.none_list hl hu) (.none_list hl hu), .none_list hl hu⟩
    · exact ⟨.of (.bool_list _ hl hu) (.bool_list _ hl hu), .bool_list _ hl hu⟩
    · exact ⟨.of (.int_list _ _ hl hu) (.int_list _ _ hl hu), .int_list _ _ hl hu⟩
    · exact ⟨.of (.str_list _ _ hl hu) (.str_list _ _ hl hu), .str_list _ _ hl hu⟩
    · exact ⟨.of (.none_tuple hl hu) (.none_tuple hl hu), .none_tuple hl hu⟩
    · exact ⟨.of (.bool_tuple _ hl hu) (.bool_tuple _ hl hu), .bool_tuple _ hl hu⟩
    · exact ⟨.of (.int_tuple _ _ hl hu) (.int_tuple _ _ hl hu), .int_tuple _ _ hl hu⟩
    · exact ⟨.of (.str_tuple _ _ hl hu) (.str_tuple _ _ hl hu), .str_tuple _ _ hl hu⟩
  · obtain ⟨a, its, rfl, ⟨l, rfl, hl⟩ | ⟨l, rfl, hl⟩⟩ := seq cx rx f <;> rcases flat cy ry g with ⟨rfl, rfl⟩ | ⟨b, rfl, rfl⟩ | ⟨i, t, rfl, rfl⟩ | ⟨z, t, rfl, rfl⟩ <;> unfold D.eqv
    · exact ⟨.of (.list_none hl hu) (.list_none hl hu), .list_none hl hu⟩
    · exact ⟨.of (.list_bool _ hl hu) (.list_bool _ hl hu), .list_bool _ hl hu⟩
    · exact ⟨.of (.list_int _ _ hl hu) (.list_int _ _ hl hu), .list_int _ _ hl hu⟩
    · exact ⟨.of (.list_str _ _ hl hu) (.list_str _ _ hl hu), .list_str _ _ hl hu⟩
    · exact ⟨.of (.tuple_none hl hu) (.tuple_none hl hu), .tuple_none hl hu⟩
    · exact ⟨.of (.tuple_bool _ hl hu) (.tuple_bool _ hl hu), .tuple_bool _ hl hu⟩
    · exact ⟨.of (.tuple_int _ _ hl hu) (.tuple_int _ _ hl hu), .tuple_int _ _ hl hu⟩
    · exact ⟨.of (.tuple_str _ _ hl hu) (.tuple_str _ _ hl hu), .tuple_str _ _ hl hu⟩

/-! ### rows of items -/
def pe (l r : List D) (j : Nat) : Bool := match l[j]?, r[j]? with
  | some a, some b => D.eqv a b
  | _, _ => true
theorem eqvs_range : ∀ (l r : List D), eqvs l r = ((List.range (min l.length r.length)).all (pe l r) && l.length == r.length)
  | [], [] => by simp [eqvs]
  | [], b :: r => by simp [eqvs]
  | a :: l, [] => by simp [eqvs]
  | a :: l, b :: r => by
    have ih := eqvs_range l r
    have e1 : min (a :: l).length (b :: r).length = min l.length r.length + 1 := by simp [Nat.succ_min_succ]
    rw [e1, List.range_succ_eq_map, List.all_cons, List.all_map]
    have e2 : pe (a :: l) (b :: r) 0 = D.eqv a b := rfl
    have e3 : (pe (a :: l) (b :: r) ∘ Nat.succ) = pe l r := by funext j; simp [pe]
    rw [e2, e3]
    unfold eqvs
    rw [ih, Bool.and_assoc]
    congr 2
    simp
theorem eqvs_same {l r : List D} (h : l.length = r.length) : eqvs l r = (List.range l.length).all (pe l r) := by
  rw [eqvs_range, h, Nat.min_self]
  simp
theorem eqvs_len {l r : List D} (h : l.length ≠ r.length) : eqvs l r = false := by
  rw [eqvs_range]
  have : (l.length == r.length) = false := by simpa using h
  rw [this, Bool.and_false]
theorem eqAll_get {f : D → D → Bool} : ∀ {l r : List D}, eqAll f l r = true → ∀ {j : Nat} {a b : D}, l[j]? = some a → r[j]? = some b → f a b = true
  | [], _, _, j, a, b, h1, _ => by simp at h1
  | _ :: _, [], _, j, a, b, _, h2 => by simp at h2
  | x :: l, y :: r, h, j, a, b, h1, h2 => by
    unfold eqAll at h
    rw [Bool.and_eq_true] at h
    cases j with
    | zero => simp at h1 h2; subst h1; subst h2; exact h.1
    | succ j => exact eqAll_get h.2 (by simpa using h1) (by simpa using h2)
theorem VRk.keys {K : PySem.W.Frag} {m : List Addr} {O : Labs} {H : Hp} : ∀ {ds : List (Key × D)} {xs : List (Key × V)}, VRk K m O H ds xs → ds.map (·.1) = xs.map (·.1)
  | [], _, h => by rw [VRk_nil] at h; subst h; rfl
  | (k, d) :: ds, _, h => by
    rw [VRk_cons] at h
    obtain ⟨v, vs, rfl, _, h2⟩ := h
    rw [List.map_cons, List.map_cons, VRk.keys h2]
theorem look_mem {α : Type} : ∀ {l : List (Key × α)} {k : Key} {v : α}, (l.map (·.1)).Nodup → (k, v) ∈ l → look l k = some v
  | [], _, _, _, h => by simp at h
  | (j, u) :: l, k, v, nd, h => by
    rw [List.map_cons, List.nodup_cons] at nd
    rcases List.mem_cons.mp h with e | h
    · cases e; simp [look]
    · have ne : j ≠ k := fun e => nd.1 (by rw [e]; exact List.mem_map.mpr ⟨_, h, rfl⟩)
      have e1 : look ((j, u) :: l) k = look l k := by simp [look, ne]
      rw [e1]
      exact look_mem nd.2 h
section
variable {X : Cx} {pins : List (Addr × Obj)} {σ : L2.St} {s : Shared} {A : Around}
theorem list_not_tup {l : Addr} {xs : List V} {ys : List V} (I : Inv X pins σ H s) (h1 : Rd H l (.lst xs)) (h2 : SqT X.K H l ys) : False := by
  obtain ⟨its, _, pl, _⟩ := I.list (xs := xs) (.inl h1)
  obtain ⟨its2, _, pt, _⟩ := I.tuple h2
  exact SeqAt.ne_of_list_tuple pl.isList pt rfl
/-- what is told twice of one value is equal -/
theorem same_eq (I : Inv X pins σ H s) : ∀ (n : Nat) (d e : D) (x : V), eqOK n d e = true → RC X.K m O H d x → RC X.K m O H e x → D.eqv d e = true
  | 0, _, _, _, h, _, _ => by unfold eqOK at h; cases h
  | n + 1, d, e, x, h, cx, cy => by
    have ih := same_eq I n
    have rows : ∀ (l r : List D) (xs : List V), eqAll (eqOK n) l r = true → VRs X.K m O H l xs → VRs X.K m O H r xs → eqvs l r = true := fun l r xs ha v1 v2 => by
      rw [eqvs_same (v1.length.trans v2.length.symm), List.all_eq_true]
      intro j hj
      unfold pe
      cases e1 : l[j]? with
      | none => rfl
      | some a =>
        cases e2 : r[j]? with
        | none => rfl
        | some b =>
          obtain ⟨z, hz, q1⟩ := v1.get' e1
          obtain ⟨z', hz', q2⟩ := v2.get' e2
          rw [hz] at hz'; cases hz'
          exact ih a b z (eqAll_get ha e1 e2) (.inl q1) (.inl q2)
    cases d with
    | non => cases cx.non; cases e <;> first | (simp [D.eqv]; done) | (exact absurd cy.bl (fun q => nomatch q)) | (exact absurd cy.int (fun q => nomatch q)) | (exact absurd cy.str (fun q => nomatch q)) | (obtain ⟨_, _, q, _⟩ := cy.lst; cases q) | (obtain ⟨_, _, q, _⟩ := cy.tup; cases q) | (simp [eqOK, D.flat, D.seq] at h)
    | bl b => cases cx.bl; cases e <;> first | (have q := cy.bl; cases q; simp [D.eqv]) | (exact absurd cy.non (fun q => nomatch q)) | (exact absurd cy.int (fun q => nomatch q)) | (exact absurd cy.str (fun q => nomatch q)) | (obtain ⟨_, _, q, _⟩ := cy.lst; cases q) | (obtain ⟨_, _, q, _⟩ := cy.tup; cases q) | (simp [eqOK, D.flat, D.seq] at h)
    | int b => cases cx.int; cases e <;> first | (have q := cy.int; cases q; simp [D.eqv]) | (exact absurd cy.non (fun q => nomatch q)) | (exact absurd cy.bl (fun q => nomatch q)) | (exact absurd cy.str (fun q => nomatch q)) | (obtain ⟨_, _, q, _⟩ := cy.lst; cases q) | (obtain ⟨_, _, q, _⟩ := cy.tup; cases q) | (simp [eqOK, D.flat, D.seq] at h)
    | str b => cases cx.str; cases e <;> first | (have q := cy.str; cases q; simp [D.eqv]) | (exact absurd cy.non (fun q => nomatch q)) | (exact absurd cy.int (fun q => nomatch q)) | (exact absurd cy.bl (fun q => nomatch q)) | (obtain ⟨_, _, q, _⟩ := cy.lst; cases q) | (obtain ⟨_, _, q, _⟩ := cy.tup; cases q) | (simp [eqOK, D.flat, D.seq] at h)
    | lst l =>
      obtain ⟨a, xs, rfl, ha, va⟩ := cx.lst
      cases e with
      | lst r =>
        obtain ⟨b, ys, eb, hb, vb⟩ := cy.lst
        cases eb
        have z := rd_inj ha hb (fun _ _ q => nomatch q) (fun _ _ q => nomatch q)
        cases z
        have hl : (l.length != r.length) = false := by rw [va.length, vb.length]; simp
        replace h : (l.length != r.length || eqAll (eqOK n) l r) = true := h
        rw [hl, Bool.false_or] at h
        unfold D.eqv
        exact rows l r xs h va vb
      | tup r =>
        obtain ⟨b, ys, eb, hb, _⟩ := cy.tup
        cases eb
        exact (list_not_tup I ha hb).elim
      | non => exact absurd cy.non (fun q => nomatch q)
      | bl => exact absurd cy.bl (fun q => nomatch q)
      | int => exact absurd cy.int (fun q => nomatch q)
      | str => exact absurd cy.str (fun q => nomatch q)
      | _ => simp [eqOK, D.flat, D.seq] at h
    | tup l =>
      obtain ⟨a, xs, rfl, ha, va⟩ := cx.tup
      cases e with
      | tup r =>
        obtain ⟨b, ys, eb, hb, vb⟩ := cy.tup
        cases eb
        have z := I.tuple_inj ha hb
        subst z
        replace h : eqAll (eqOK n) l r = true := h
        unfold D.eqv
        exact rows l r xs h va vb
      | lst r =>
        obtain ⟨b, ys, eb, hb, _⟩ := cy.lst
        cases eb
        exact (list_not_tup I hb ha).elim
      | non => exact absurd cy.non (fun q => nomatch q)
      | bl => exact absurd cy.bl (fun q => nomatch q)
      | int => exact absurd cy.int (fun q => nomatch q)
      | str => exact absurd cy.str (fun q => nomatch q)
      | _ => simp [eqOK, D.flat, D.seq] at h
    | dct l =>
      obtain ⟨a, xs, rfl, ha, va⟩ := cx.dct
      cases e with
      | dct r =>
        obtain ⟨b, ys, eb, hb, vb⟩ := cy.dct
        cases eb
        have z := rd_inj ha hb (fun _ _ q => nomatch q) (fun _ _ q => nomatch q)
        cases z
        have hl : (l.length != r.length) = false := by rw [va.length, vb.length]; simp
        replace h : (decide ((l.map (·.1)).Nodup) && (l.length != r.length || eqKey (eqOK n) r l)) = true := h
        rw [hl, Bool.false_or, Bool.and_eq_true, decide_eq_true_eq] at h
        obtain ⟨nd, h⟩ := h
        have nd2 : (r.map (·.1)).Nodup := by rw [vb.keys, ← va.keys]; exact nd
        have hlen : (l.length == r.length) = true := by rw [va.length, vb.length]; simp
        unfold D.eqv
        rw [hlen, Bool.true_and]
        -- row by row
        have go : ∀ (l' r' : List (Key × D)) (zs : List (Key × V)), (∀ p ∈ r', p ∈ r) → eqKey (eqOK n) r l' = true → VRk X.K m O H l' zs → VRk X.K m O H r' zs → eqvd l' r = true := by
          intro l'
          induction l' with
          | nil => intro _ _ _ _ _ _; simp [eqvd]
          | cons p l' il =>
            obtain ⟨k, v⟩ := p
            intro r' zs hs hk v1 v2
            rw [VRk_cons] at v1
            obtain ⟨z, zs', rfl, q1, w1⟩ := v1
            cases r' with
            | nil => rw [VRk_nil] at v2; cases v2
            | cons p' r' =>
              obtain ⟨k', u⟩ := p'
              rw [VRk_cons] at v2
              obtain ⟨z', zs'', ez, q2, w2⟩ := v2
              injection ez with e1 e2
              injection e1 with e1 e3
              subst e1; subst e2; subst e3
              have hlook : look r k = some u := look_mem nd2 (hs _ List.mem_cons_self)
              unfold eqKey at hk
              unfold eqvd
              rw [hlook] at hk ⊢
              simp only [Bool.and_eq_true] at hk ⊢
              exact ⟨ih v u z hk.1 (.inl q1) (.inl q2), il r' zs' (fun p hp => hs p (List.mem_cons_of_mem _ hp)) hk.2 w1 w2⟩
        exact go l r xs (fun _ h => h) h va vb
      | _ => simp [eqOK, D.flat, D.seq] at h
    | _ => simp [eqOK, D.flat, D.seq] at h

theorem valueAt_of {ds : List (Key × D)} {xs : List (Key × V)} {vs : List (Key × Value)} {K : PySem.W.Frag} {m : List Addr} {O : Labs} {H : Hp} (h : VRk K m O H ds xs) (r : KV xs vs) (k : Key) :
    (look ds k = none ∧ valueAt vs k = none) ∨ ∃ d x y, look ds k = some d ∧ valueAt vs k = some y ∧ VR K m O H d x ∧ RelV x y := by
  have z := h.look k
  have q := r.val k
  cases e : look ds k with
  | none =>
    rw [e] at z
    cases e2 : valV xs k with
    | none => rw [e2] at q; exact .inl ⟨rfl, q.none_of⟩
    | some x => rw [e2] at z; exact z.elim
  | some d =>
    rw [e] at z
    cases e2 : valV xs k with
    | none => rw [e2] at z; exact z.elim
    | some x =>
      rw [e2] at z q
      obtain ⟨y, ey, ry⟩ := q.some_of
      exact .inr ⟨d, x, y, rfl, ey, z, ry⟩
/-- == and != of told values, as containers' own and as items' -/
theorem eq_run (I : Inv X pins σ H s) : ∀ (n : Nat) (A : Around), A.units + n < cLine → ∀ (d e : D) (x y : V) (v u : Value), eqOK n d e = true → RC X.K m O H d x → RC X.K m O H e y → RelV x v → RelV y u →
    EqC X.prog X.w A s v u (D.eqv d e) ∧ SeqAt.EqP X.prog X.w A s v u (D.eqv d e)
  | 0, _, _, _, _, _, _, _, _, h, _, _, _, _ => by unfold eqOK at h; cases h
  | n + 1, A, hu, d, e, x, y, v, u, h, cx, cy, rx, ry => by
    have hu0 : A.units < cLine := by omega
    have ih := eq_run I n A.in1 (by show A.units + 1 + n < cLine; omega)
    have rows : ∀ (l r : List D) (xs ys : List V) (us ws : List Value), eqAll (eqOK n) l r = true → VRs X.K m O H l xs → VRs X.K m O H r ys → Vals xs us → Vals ys ws →
        SeqAt.EachP X.prog X.w A s us.toArray ws.toArray (pe l r) := fun l r xs ys us ws ha v1 v2 r1 r2 j j1 j2 => by
      simp only [List.size_toArray] at j1 j2
      have e1 : us[j]? = some us[j] := List.getElem?_eq_getElem j1
      have e2 : ws[j]? = some ws[j] := List.getElem?_eq_getElem j2
      have b1 : j < xs.length := by rw [r1.length]; exact j1
      have b2 : j < ys.length := by rw [r2.length]; exact j2
      have f1 : xs[j]? = some xs[j] := List.getElem?_eq_getElem b1
      have f2 : ys[j]? = some ys[j] := List.getElem?_eq_getElem b2
      obtain ⟨u1, g1, q1⟩ := r1.get f1
      obtain ⟨u2, g2, q2⟩ := r2.get f2
      rw [e1] at g1; cases g1
      rw [e2] at g2; cases g2
      obtain ⟨d1, h1, w1⟩ := v1.get f1
      obtain ⟨d2, h2, w2⟩ := v2.get f2
      have z := (ih d1 d2 xs[j] ys[j] us[j] ws[j] (eqAll_get ha h1 h2) (.inl w1) (.inl w2) q1 q2).2
      have pj : pe l r j = D.eqv d1 d2 := by unfold pe; rw [h1, h2]
      rw [pj]
      simpa using z
    have refs : ∀ (a b : Addr), v = .ref a → u = .ref b → x = .ref a → y = .ref b → EqC X.prog X.w A s v u (D.eqv d e) → EqC X.prog X.w A s v u (D.eqv d e) ∧ SeqAt.EqP X.prog X.w A s v u (D.eqv d e) := by
      rintro a b rfl rfl rfl rfl c
      refine ⟨c, ?_⟩
      by_cases ab : a = b
      · subst ab
        rw [same_eq I (n + 1) d e _ h cx cy]
        exact (SeqAt.EqAt.same _).eqP
      · exact SeqAt.eqP_refs ab c.eq
    have easy : ((d.flat && e.flat) || (d.flat && e.seq) || (d.seq && e.flat)) = true → EqC X.prog X.w A s v u (D.eqv d e) ∧ SeqAt.EqP X.prog X.w A s v u (D.eqv d e) := fun ok =>
      let z := flat_eq I hu0 cx cy rx ry ok
      ⟨z.1, z.2.eqP⟩
    cases d with
    | lst l =>
      cases e with
      | lst r =>
        obtain ⟨a, xs, rfl, ha, va⟩ := cx.lst
        obtain ⟨b, ys, rfl, hb, vb⟩ := cy.lst
        cases rx; cases ry
        obtain ⟨us, r1, p1, _⟩ := I.list (xs := xs) (.inl ha)
        obtain ⟨ws, r2, p2, _⟩ := I.list (xs := ys) (.inl hb)
        refine refs a b rfl rfl rfl rfl ?_
        by_cases hl : l.length = r.length
        · replace h : (l.length != r.length || eqAll (eqOK n) l r) = true := h
          have hl' : (l.length != r.length) = false := by rw [hl]; simp
          rw [hl', Bool.false_or] at h
          have sz : us.toArray.size = ws.toArray.size := by rw [List.size_toArray, List.size_toArray, ← r1.length, ← r2.length, ← va.length, ← vb.length]; exact hl
          have sn : us.toArray.size = l.length := by rw [List.size_toArray, ← r1.length, ← va.length]
          have ee : D.eqv (.lst l) (.lst r) = (List.range us.toArray.size).all (pe l r) := by unfold D.eqv; rw [eqvs_same hl, sn]
          rw [ee]
          exact ⟨fun E Q q => SeqAt.rcP_lists p1.isList p2.isList sz hu0 (rows l r xs ys us ws h va vb r1 r2) E Q q, fun E Q q => SeqAt.mi_rc_lists_ne p1.isList p2.isList sz hu0 (rows l r xs ys us ws h va vb r1 r2) q⟩
        · have sz : (us.toArray.size != ws.toArray.size) = true := by
            rw [List.size_toArray, List.size_toArray, ← r1.length, ← r2.length, ← va.length, ← vb.length]
            simpa using hl
          have ee : D.eqv (.lst l) (.lst r) = false := by unfold D.eqv; exact eqvs_len hl
          rw [ee]
          exact .of (.lists_lengths p1.isList p2.isList sz hu0) (.lists_lengths p1.isList p2.isList sz hu0)
      | tup r =>
        obtain ⟨a, xs, rfl, ha, va⟩ := cx.lst
        obtain ⟨b, ys, rfl, hb, vb⟩ := cy.tup
        cases rx; cases ry
        obtain ⟨us, r1, p1, _⟩ := I.list (xs := xs) (.inl ha)
        obtain ⟨ws, r2, p2, _⟩ := I.tuple hb
        refine refs a b rfl rfl rfl rfl ?_
        have ee : D.eqv (.lst l) (.tup r) = false := by simp [D.eqv]
        rw [ee]
        exact .of (.list_tuple p1.isList p2 hu0) (.list_tuple p1.isList p2 hu0)
      | non => exact easy (by simp [D.flat, D.seq])
      | bl => exact easy (by simp [D.flat, D.seq])
      | int => exact easy (by simp [D.flat, D.seq])
      | str => exact easy (by simp [D.flat, D.seq])
      | _ => simp [eqOK, D.flat, D.seq] at h
    | tup l =>
      cases e with
      | tup r =>
        obtain ⟨a, xs, rfl, ha, va⟩ := cx.tup
        obtain ⟨b, ys, rfl, hb, vb⟩ := cy.tup
        cases rx; cases ry
        obtain ⟨us, r1, p1, _⟩ := I.tuple ha
        obtain ⟨ws, r2, p2, _⟩ := I.tuple hb
        refine refs a b rfl rfl rfl rfl ?_
        replace h : eqAll (eqOK n) l r = true := h
        have n1 : us.toArray.size = l.length := by rw [List.size_toArray, ← r1.length, ← va.length]
        have n2 : ws.toArray.size = r.length := by rw [List.size_toArray, ← r2.length, ← vb.length]
        have ee : D.eqv (.tup l) (.tup r) = ((List.range (min us.toArray.size ws.toArray.size)).all (pe l r) && us.toArray.size == ws.toArray.size) := by unfold D.eqv; rw [eqvs_range, n1, n2]
        rw [ee]
        exact ⟨fun E Q q => SeqAt.mi_rc_tups p1 p2 hu0 (rows l r xs ys us ws h va vb r1 r2) q, fun E Q q => SeqAt.mi_rc_tups_ne p1 p2 hu0 (rows l r xs ys us ws h va vb r1 r2) q⟩
      | lst r =>
        obtain ⟨a, xs, rfl, ha, va⟩ := cx.tup
        obtain ⟨b, ys, rfl, hb, vb⟩ := cy.lst
        cases rx; cases ry
        obtain ⟨us, r1, p1, _⟩ := I.tuple ha
        obtain ⟨ws, r2, p2, _⟩ := I.list (xs := ys) (.inl hb)
        refine refs a b rfl rfl rfl rfl ?_
        have ee : D.eqv (.tup l) (.lst r) = false := by simp [D.eqv]
        rw [ee]
        exact .of (.tuple_list p1 p2.isList hu0) (.tuple_list p1 p2.isList hu0)
      | non => exact easy (by simp [D.flat, D.seq])
      | bl => exact easy (by simp [D.flat, D.seq])
      | int => exact easy (by simp [D.flat, D.seq])
      | str => exact easy (by simp [D.flat, D.seq])
      | _ => simp [eqOK, D.flat, D.seq] at h
    | dct l =>
      cases e with
      | dct r =>
        obtain ⟨a, xs, rfl, ha, va⟩ := cx.dct
        obtain ⟨b, ys, rfl, hb, vb⟩ := cy.dct
        cases rx; cases ry
        obtain ⟨_, ya, ka, r1, da⟩ := dk_rd I.hok ha
        obtain ⟨_, yb, kb, r2, db⟩ := dk_rd I.hok hb
        refine refs a b rfl rfl rfl rfl ?_
        replace h : (decide ((l.map (·.1)).Nodup) && (l.length != r.length || eqKey (eqOK n) r l)) = true := h
        rw [Bool.and_eq_true] at h
        have n1 : ka.length = l.length := by rw [← r1.length, ← va.length]
        have n2 : kb.length = r.length := by rw [← r2.length, ← vb.length]
        have hits : ka.length = kb.length → PySem.W.KeqHitsP X.prog X.w A.in1 s kb ka (eqvd l r) := fun hl => by
          have hl' : (l.length != r.length) = false := by rw [← n1, ← n2, hl]; simp
          have h2 := h.2
          rw [hl', Bool.false_or] at h2
          have go : ∀ (l' : List (Key × D)) (xs' : List (Key × V)) (k' : List (Key × Value)), eqKey (eqOK n) r l' = true → VRk X.K m O H l' xs' → KV xs' k' → PySem.W.KeqHitsP X.prog X.w A.in1 s kb k' (eqvd l' r) := by
            intro l'
            induction l' with
            | nil =>
              intro xs' k' _ v1 q1
              rw [VRk_nil] at v1
              subst v1
              cases q1
              unfold eqvd
              exact .nil
            | cons p l' il =>
              obtain ⟨k, z⟩ := p
              intro xs' k' hk v1 q1
              rw [VRk_cons] at v1
              obtain ⟨x1, xs'', rfl, w1, v1⟩ := v1
              cases q1 with
              | cons t1 t2 =>
                rename_i q' qs
                obtain ⟨k2, y2⟩ := q'
                obtain ⟨e1, e2⟩ := t1
                have e1' : k = k2 := e1
                subst e1'
                unfold eqKey at hk
                unfold eqvd
                rcases valueAt_of vb r2 k with ⟨g1, g2⟩ | ⟨d', x', y', g1, g2, g3, g4⟩
                · rw [g1]
                  simp only [Bool.false_and]
                  exact .miss g2
                · rw [g1] at hk ⊢
                  simp only [Bool.and_eq_true] at hk ⊢
                  exact .hit g2 (ih z d' x1 x' y2 y' hk.1 (.inl w1) (.inl g3) e2 g4).2 (il xs'' qs hk.2 v1 t2)
          exact go l xs ka h2 va r1
        have ee : D.eqv (.dct l) (.dct r) = (ka.length == kb.length && eqvd l r) := by unfold D.eqv; rw [n1, n2]
        rw [ee]
        exact ⟨fun E Q q => PySem.W.rcP_dicts (knd := mixKind X.prog X.w) ya yb da db hu0 hits E Q q, fun E Q q => mi_rc_dicts_ne (knd := mixKind X.prog X.w) ya yb da db hu0 hits E Q q⟩
      | _ => simp [eqOK, D.flat, D.seq] at h
    | non => cases e <;> first | (refine easy ?_; simp [D.flat, D.seq]; done) | (simp [eqOK, D.flat, D.seq] at h)
    | bl b => cases e <;> first | (refine easy ?_; simp [D.flat, D.seq]; done) | (simp [eqOK, D.flat, D.seq] at h)
    | int b => cases e <;> first | (refine easy ?_; simp [D.flat, D.seq]; done) | (simp [eqOK, D.flat, D.seq] at h)
    | str b => cases e <;> first | (refine easy ?_; simp [D.flat, D.seq]; done) | (simp [eqOK, D.flat, D.seq] at h)
    | _ => simp [eqOK, D.flat, D.seq] at h
end
/-- == and != as operators -/
def rEqM (K : PySem.W.Frag) (neg : Bool) : R2 := fun x y H Q => ∃ (m : List Addr) (O : Labs) (d e : D), RC K m O H d x ∧ RC K m O H e y ∧ eqOK 50 d e = true ∧ Q (.bl (if neg then !D.eqv d e else D.eqv d e)) H
theorem op_eqM {X : Cx} (hu : X.A.units + 64 < cLine) : OpR X (compareOp .Eq) (rEqM X.K false) := by
  intro pins s σ H x y v u Q I rx ry h
  obtain ⟨m, O, d, e, cx, cy, ok, q⟩ := h
  exact (eq_run I 50 X.A (by omega) d e x y v u ok cx cy rx ry).1.eq _ _ ⟨.bl _, H, I, rfl, q⟩
theorem op_neM {X : Cx} (hu : X.A.units + 64 < cLine) : OpR X (compareOp .NotEq) (rEqM X.K true) := by
  intro pins s σ H x y v u Q I rx ry h
  obtain ⟨m, O, d, e, cx, cy, ok, q⟩ := h
  exact (eq_run I 50 X.A (by omega) d e x y v u ok cx cy rx ry).1.ne _ _ ⟨.bl _, H, I, rfl, q⟩
end
end
end Mi

set_option Elab.async false
set_option linter.all false
set_option maxRecDepth 100000
/-! Mi: sorting by insertion is the one arrangement in order. -/
namespace Mi
open PySem PySem.Spec PyProof.Rows L2
section
variable {α : Type} {le : α → α → Bool}
theorem insBy_perm (a : α) : ∀ l : List α, (insBy le a l).Perm (a :: l)
  | [] => .refl _
  | b :: r => by
    unfold insBy
    split
    · exact .refl _
    · exact ((insBy_perm a r).cons b).trans (.swap a b r)
theorem sortBy_perm : ∀ l : List α, (sortBy le l).Perm l
  | [] => .refl _
  | a :: r => (insBy_perm a _).trans ((sortBy_perm r).cons a)
theorem insBy_sorted (tot : ∀ a b, le a b = true ∨ le b a = true) (tr : ∀ a b c, le a b = true → le b c = true → le a c = true) (a : α) : ∀ l : List α, l.Pairwise (fun a b => le a b = true) → (insBy le a l).Pairwise fun a b => le a b = true
  | [], _ => by simp [insBy]
  | b :: r, h => by
    unfold insBy
    rw [List.pairwise_cons] at h
    split
    · rename_i q
      rw [List.pairwise_cons, List.pairwise_cons]
      exact ⟨fun x hx => by
        rcases List.mem_cons.mp hx with e | hx
        · rw [e]; exact q
        · exact tr _ _ _ q (h.1 x hx), h⟩
    · rename_i q
      rw [List.pairwise_cons]
      refine ⟨fun x hx => ?_, insBy_sorted tot tr a r h.2⟩
      rcases List.mem_cons.mp ((insBy_perm a r).mem_iff.mp hx) with e | hx
      · rw [e]; exact (tot a b).resolve_left q
      · exact h.1 x hx
theorem sortBy_sorted (tot : ∀ a b, le a b = true ∨ le b a = true) (tr : ∀ a b c, le a b = true → le b c = true → le a c = true) : ∀ l : List α, (sortBy le l).Pairwise fun a b => le a b = true
  | [] => by simp [sortBy]
  | a :: r => insBy_sorted tot tr a _ (sortBy_sorted tot tr r)
end
theorem sortI_one {ns ms : List Int} (h : ms.Perm ns) (s : ms.Pairwise (· ≤ ·)) : ms = sortI ns := by
  have p : ms.Perm (sortI ns) := h.trans (sortBy_perm ns).symm
  have q : (sortI ns).Pairwise (· ≤ ·) := by
    refine (sortBy_sorted (le := fun a b : Int => decide (a ≤ b)) (fun a b => ?_) (fun a b c h1 h2 => ?_) ns).imp fun {a b} z => of_decide_eq_true z
    · rw [decide_eq_true_eq, decide_eq_true_eq]; omega
    · rw [decide_eq_true_eq] at h1 h2 ⊢; omega
  exact p.eq_of_pairwise (fun x y _ _ h1 h2 => Int.le_antisymm h1 h2) s q
theorem leStr_iff (x y : Str) : leStr x y = true ↔ ¬ y.cps.toList < x.cps.toList := by
  unfold leStr ltStr
  simp
theorem str_ext {x y : Str} (h : x.cps.toList = y.cps.toList) : x = y := by
  cases x; cases y
  congr
  exact Array.toList_inj.mp h
theorem leStr_tot (a b : Str) : leStr a b = true ∨ leStr b a = true := by
  rw [leStr_iff, leStr_iff]
  by_cases h : b.cps.toList < a.cps.toList
  · exact .inr (List.lt_asymm h)
  · exact .inl h
theorem leStr_tr (a b c : Str) (h1 : leStr a b = true) (h2 : leStr b c = true) : leStr a c = true := by
  rw [leStr_iff] at h1 h2 ⊢
  have q1 : a.cps.toList ≤ b.cps.toList := List.not_lt.mp h1
  have q2 : b.cps.toList ≤ c.cps.toList := List.not_lt.mp h2
  exact List.not_lt.mpr (List.le_trans q1 q2)
theorem leStr_anti (a b : Str) (h1 : leStr a b = true) (h2 : leStr b a = true) : a = b := by
  rw [leStr_iff] at h1 h2
  have q1 : a.cps.toList ≤ b.cps.toList := List.not_lt.mp h1
  have q2 : b.cps.toList ≤ a.cps.toList := List.not_lt.mp h2
  exact str_ext (List.le_antisymm q1 q2)
theorem rising_pair : ∀ (p : Str) (l : List Str), risingS p l = true → (∀ x ∈ l, leStr p x = true) ∧ l.Pairwise fun a b => leStr a b = true
  | p, [], _ => by simp
  | p, x :: r, h => by
    unfold risingS at h
    rw [Bool.and_eq_true] at h
    obtain ⟨h1, h2⟩ := h
    have q : leStr p x = true := by
      unfold leStr ltStr
      rw [← ltCps_eq]
      simpa using h1
    obtain ⟨a1, a2⟩ := rising_pair x r h2
    refine ⟨fun y hy => ?_, List.pairwise_cons.mpr ⟨a1, a2⟩⟩
    rcases List.mem_cons.mp hy with e | hy
    · rw [e]; exact q
    · exact leStr_tr _ _ _ q (a1 y hy)
theorem sortS_one {xs ys : List Str} (h : ys.Perm xs) (s : sortedS ys = true) : ys = sortS xs := by
  have p : ys.Perm (sortS xs) := h.trans (sortBy_perm xs).symm
  have s' : ys.Pairwise fun a b => leStr a b = true := by
    cases ys with
    | nil => simp
    | cons y r =>
      obtain ⟨a1, a2⟩ := rising_pair y r s
      exact List.pairwise_cons.mpr ⟨a1, a2⟩
  exact p.eq_of_pairwise (fun x y _ _ h1 h2 => leStr_anti x y h1 h2) s' (sortBy_sorted leStr_tot leStr_tr xs)
theorem maxI_ge : ∀ (ns : List Int) (n : Int), n ≤ maxI n ns ∧ (∀ y ∈ ns, y ≤ maxI n ns) ∧ (maxI n ns = n ∨ maxI n ns ∈ ns)
  | [], n => by simp [maxI]
  | m :: r, n => by
    unfold maxI
    by_cases q : m > n
    · rw [if_pos q]
      obtain ⟨h1, h2, h3⟩ := maxI_ge r m
      refine ⟨by omega, fun y hy => ?_, .inr ?_⟩
      · rcases List.mem_cons.mp hy with e | hy
        · rw [e]; exact h1
        · exact h2 y hy
      · rcases h3 with h3 | h3
        · rw [h3]; exact List.mem_cons_self
        · exact List.mem_cons_of_mem _ h3
    · rw [if_neg q]
      obtain ⟨h1, h2, h3⟩ := maxI_ge r n
      refine ⟨h1, fun y hy => ?_, ?_⟩
      · rcases List.mem_cons.mp hy with e | hy
        · rw [e]; omega
        · exact h2 y hy
      · exact h3.imp id fun h => List.mem_cons_of_mem _ h
theorem minI_le : ∀ (ns : List Int) (n : Int), minI n ns ≤ n ∧ (∀ y ∈ ns, minI n ns ≤ y) ∧ (minI n ns = n ∨ minI n ns ∈ ns)
  | [], n => by simp [minI]
  | m :: r, n => by
    unfold minI
    by_cases q : m < n
    · rw [if_pos q]
      obtain ⟨h1, h2, h3⟩ := minI_le r m
      refine ⟨by omega, fun y hy => ?_, .inr ?_⟩
      · rcases List.mem_cons.mp hy with e | hy
        · rw [e]; exact h1
        · exact h2 y hy
      · rcases h3 with h3 | h3
        · rw [h3]; exact List.mem_cons_self
        · exact List.mem_cons_of_mem _ h3
    · rw [if_neg q]
      obtain ⟨h1, h2, h3⟩ := minI_le r n
      refine ⟨h1, fun y hy => ?_, ?_⟩
      · rcases List.mem_cons.mp hy with e | hy
        · rw [e]; omega
        · exact h2 y hy
      · exact h3.imp id fun h => List.mem_cons_of_mem _ h
end Mi

set_option Elab.async false
set_option linter.all false
set_option maxRecDepth 100000
set_option maxHeartbeats 2000000
/-! Mi: comparisons, subscripts, built-in functions, told by the interpreter. -/
namespace Mi
open PySem PySem.Spec PyProof.Rows L2

def cmpOf : OpC → CmpOp
  | .eq => .Eq | .ne => .NotEq | .lt => .Lt | .le => .LtE | .gt => .Gt | .ge => .GtE | .is => .Is | .isnot => .IsNot | .isin => .In | .notin => .NotIn
section
variable {K : PySem.W.Frag} {m : List Addr} {O : Labs} {H : Hp} {ρ : Rho} {h : AH} {σ : L2.St} {v : V} {X : Cx}
theorem bind_ok {α β : Type} {r : Res α} {k : α → Res β} {b : β} (e : r.bind k = .ok b) : ∃ a, r = .ok a ∧ k a = .ok b := by
  cases r with
  | ok a => exact ⟨a, rfl, e⟩
  | exc x h => cases e
  | stuck => cases e
/-- k in d, k not in d -/
def rInD (neg : Bool) : R2 := fun x y H Q => ∃ a o, y = .ref a ∧ DGet H a x o ∧ Q (.bl (if neg then !o.isSome else o.isSome)) H
theorem op_inD (hu : X.A.units + 1 < cLine) : OpR X (compareOp .In) (rInD false) := by
  intro pins s σ H x y v u Q I rx ry h
  obtain ⟨a, o, rfl, g, q⟩ := h
  cases ry
  exact d_in hu I g rx fun s' I' => ⟨.bl o.isSome, H, I', rfl, by simpa using q⟩
theorem op_notinD (hu : X.A.units + 1 < cLine) : OpR X (compareOp .NotIn) (rInD true) := by
  intro pins s σ H x y v u Q I rx ry h
  obtain ⟨a, o, rfl, g, q⟩ := h
  cases ry
  exact d_notIn hu I g rx fun s' I' => ⟨.bl (!o.isSome), H, I', rfl, by simpa using q⟩
theorem RC.key {d : D} {k : Key} (c : RC K m O H d v) (e : d.key? = some k) : v = kV k := by
  cases d <;> unfold D.key? at e <;> first
    | (cases e; exact c.int)
    | (cases e; exact c.str)
    | cases e
theorem flat_v {d : D} {x : V} (c : RC K m O H d x) (f : d.flat = true) : flatV x = true := by
  cases d <;> first
    | (rw [c.non]; rfl)
    | (rw [c.bl]; rfl)
    | (rw [c.int]; rfl)
    | (rw [c.str]; rfl)
    | cases f
theorem flat_all : ∀ {ds : List D} {xs : List V}, VRs K m O H ds xs → ds.all D.flat = true → xs.all flatV = true
  | [], _, h, _ => by rw [VRs_nil] at h; subst h; rfl
  | d :: ds, _, h, f => by
    rw [VRs_cons] at h
    obtain ⟨x, xs, rfl, h1, h2⟩ := h
    rw [List.all_cons, Bool.and_eq_true] at f ⊢
    exact ⟨flat_v (.inl h1) f.1, flat_all h2 f.2⟩
theorem flat_eqV {d e : D} {x y : V} (cx : RC K m O H d x) (cy : RC K m O H e y) (f : d.flat = true) (g : e.flat = true) : eqV x y = D.eqv d e := by
  have fl : ∀ {d : D} {x : V}, RC K m O H d x → d.flat = true → (d = .non ∧ x = .non) ∨ (∃ b, d = .bl b ∧ x = .bl b) ∨ (∃ i, d = .int i ∧ x = .int i) ∨ (∃ z, d = .str z ∧ x = .str z) := by
    intro d x c f
    cases d with
    | non => exact .inl ⟨rfl, c.non⟩
    | bl b => exact .inr (.inl ⟨b, rfl, c.bl⟩)
    | int i => exact .inr (.inr (.inl ⟨i, rfl, c.int⟩))
    | str z => exact .inr (.inr (.inr ⟨z, rfl, c.str⟩))
    | _ => cases f
  rcases fl cx f with ⟨rfl, rfl⟩ | ⟨b, rfl, rfl⟩ | ⟨i, rfl, rfl⟩ | ⟨z, rfl, rfl⟩ <;> rcases fl cy g with ⟨rfl, rfl⟩ | ⟨b', rfl, rfl⟩ | ⟨i', rfl, rfl⟩ | ⟨z', rfl, rfl⟩ <;> simp [eqV, D.eqv]
theorem in_any {d : D} {x : V} (cx : RC K m O H d x) (f : d.flat = true) : ∀ {ds : List D} {xs : List V}, VRs K m O H ds xs → ds.all D.flat = true → inV x xs = ds.any fun y => D.eqv y d
  | [], _, h, _ => by rw [VRs_nil] at h; subst h; rfl
  | e :: ds, _, h, g => by
    rw [VRs_cons] at h
    obtain ⟨y, ys, rfl, h1, h2⟩ := h
    rw [List.all_cons, Bool.and_eq_true] at g
    unfold inV
    rw [List.any_cons, List.any_cons, flat_eqV (.inl h1) cx g.1 f]
    have z := in_any cx f h2 g.2
    unfold inV at z
    rw [z]
variable (hX : X.K = K) (hu : X.A.units + 64 < cLine)
include hX hu
theorem isIn_ok {d e : D} {b : Bool} {x y : V} (neg : Bool) {Q : VK} (cx : RC K m O H d x) (cy : RC K m O H e y) (ev : isIn d e = .ok b) (q : Q (.bl (if neg then !b else b)) H) :
    AnyO X (compareOp (if neg then .NotIn else .In)) x y H Q := by
  subst hX
  unfold isIn at ev
  split at ev
  · obtain ⟨g, e1⟩ := guard_ok ev
    rw [Bool.and_eq_true] at g
    obtain ⟨a, xs, rfl, ha, va⟩ := cy.lst
    have z : inV x xs = b := by injection e1 with e1; rw [← e1]; exact in_any cx g.1 va g.2
    cases neg with
    | false => exact ⟨_, op_in_seq, a, xs, rfl, .inl (.inl ha), flat_v cx g.1, flat_all va g.2, by rw [z]; exact q⟩
    | true => exact ⟨_, op_notIn_seq, a, xs, rfl, .inl (.inl ha), flat_v cx g.1, flat_all va g.2, by rw [z]; exact q⟩
  · obtain ⟨g, e1⟩ := guard_ok ev
    rw [Bool.and_eq_true] at g
    obtain ⟨a, xs, rfl, ha, va⟩ := cy.tup
    have z : inV x xs = b := by injection e1 with e1; rw [← e1]; exact in_any cx g.1 va g.2
    cases neg with
    | false => exact ⟨_, op_in_seq, a, xs, rfl, .inr ha, flat_v cx g.1, flat_all va g.2, by rw [z]; exact q⟩
    | true => exact ⟨_, op_notIn_seq, a, xs, rfl, .inr ha, flat_v cx g.1, flat_all va g.2, by rw [z]; exact q⟩
  · split at ev
    · rename_i k ek
      injection ev with ev
      obtain ⟨a, kvs, rfl, ha, va⟩ := cy.dct
      have z := (va.look k).isSome
      rw [ev] at z
      have g : DGet H a x (valV kvs k) := .inl ⟨kvs, k, ha, cx.key ek, rfl⟩
      cases neg with
      | false => exact ⟨_, op_inD (by omega), a, _, rfl, g, by rw [← z]; exact q⟩
      | true => exact ⟨_, op_notinD (by omega), a, _, rfl, g, by rw [← z]; exact q⟩
    · cases ev
  · cases ev
theorem isB_ok {d e : D} {b : Bool} {x y : V} (neg : Bool) {Q : VK} (cx : RC K m O H d x) (cy : RC K m O H e y) (ev : isB d e = .ok b) (q : Q (.bl (if neg then !b else b)) H) :
    AnyO X (compareOp (if neg then .IsNot else .Is)) x y H Q := by
  unfold isB at ev
  cases e with
  | non =>
    injection ev with ev
    have z : decide (x = V.non) = b := by
      rw [← ev]
      cases d with
      | non => rw [cx.non]; rfl
      | bl => rw [cx.bl]; rfl
      | int => rw [cx.int]; rfl
      | str => rw [cx.str]; rfl
      | lst => obtain ⟨_, _, rfl, _⟩ := cx.lst; rfl
      | tup => obtain ⟨_, _, rfl, _⟩ := cx.tup; rfl
      | dct => obtain ⟨_, _, rfl, _⟩ := cx.dct; rfl
      | dcT =>
        rcases cx with c | ⟨_, _, rfl, _⟩
        · unfold VR at c; obtain ⟨_, _, rfl, _⟩ := c; rfl
        · rfl
      | ref =>
        rcases cx with c | ⟨_, _, rfl, _⟩
        · unfold VR at c; obtain ⟨_, rfl, _⟩ := c; rfl
        · rfl
      | scr => obtain ⟨_, rfl, _⟩ := cx.scr; rfl
    cases neg with
    | false => exact ⟨_, op_isN, cy.non, by rw [z]; exact q⟩
    | true => exact ⟨_, op_notN, cy.non, by rw [z]; exact q⟩
  | bl b' =>
    cases d with
    | bl a =>
      injection ev with ev
      subst ev
      cases neg with
      | false => exact ⟨_, op_isBl, _, _, cx.bl, cy.bl, q⟩
      | true => exact ⟨_, op_notBl, _, _, cx.bl, cy.bl, q⟩
    | _ => cases ev
  | _ => cases ev
theorem cmp_ok {o : OpC} {d e : D} {b : Bool} {x y : V} {Q : VK} (cx : RC K m O H d x) (cy : RC K m O H e y) (ev : cmp o d e = .ok b) (q : Q (.bl b) H) : AnyO X (compareOp (cmpOf o)) x y H Q := by
  cases o with
  | eq =>
    obtain ⟨g, e1⟩ := guard_ok (show guard' (eqOK 50 d e) (.ok (D.eqv d e)) = .ok b from ev)
    injection e1 with e1
    subst hX
    exact ⟨_, op_eqM hu, m, O, d, e, cx, cy, g, by simp only [Bool.false_eq_true, if_false]; rw [e1]; exact q⟩
  | ne =>
    obtain ⟨b', e0, e1⟩ := bind_ok (show (eqB d e).bind (fun b => .ok (!b)) = .ok b from ev)
    obtain ⟨g, e2⟩ := guard_ok (show guard' (eqOK 50 d e) (.ok (D.eqv d e)) = .ok b' from e0)
    injection e1 with e1
    injection e2 with e2
    subst hX
    exact ⟨_, op_neM hu, m, O, d, e, cx, cy, g, by simp only [if_true]; rw [e2, e1]; exact q⟩
  | isin => exact isIn_ok hX hu false cx cy ev q
  | notin =>
    obtain ⟨b', e0, e1⟩ := bind_ok (show (isIn d e).bind (fun b => .ok (!b)) = .ok b from ev)
    injection e1 with e1
    exact isIn_ok hX hu true cx cy e0 (by simp only [if_true]; rw [e1]; exact q)
  | is => exact isB_ok hX hu false cx cy ev q
  | isnot =>
    obtain ⟨b', e0, e1⟩ := bind_ok (show (isB d e).bind (fun b => .ok (!b)) = .ok b from ev)
    injection e1 with e1
    exact isB_ok hX hu true cx cy e0 (by simp only [if_true]; rw [e1]; exact q)
  | lt =>
    simp only [cmp] at ev
    split at ev
    · cases ev; exact ⟨_, op_lt, _, _, cx.int, cy.int, q⟩
    · cases ev; exact ⟨_, op_lt_str, _, _, cx.str, cy.str, q⟩
    · cases ev
  | le =>
    simp only [cmp] at ev
    split at ev
    · cases ev; exact ⟨_, op_le, _, _, cx.int, cy.int, q⟩
    · cases ev; exact ⟨_, op_le_str, _, _, cx.str, cy.str, q⟩
    · cases ev
  | gt =>
    simp only [cmp] at ev
    split at ev
    · cases ev; exact ⟨_, op_gt, _, _, cx.int, cy.int, q⟩
    · cases ev; exact ⟨_, op_gt_str, _, _, cx.str, cy.str, q⟩
    · cases ev
  | ge =>
    simp only [cmp] at ev
    split at ev
    · cases ev; exact ⟨_, op_ge, _, _, cx.int, cy.int, q⟩
    · cases ev; exact ⟨_, op_ge_str, _, _, cx.str, cy.str, q⟩
    · cases ev
end

/-! ### subscripts -/
section
variable {K : PySem.W.Frag} {m : List Addr} {O : Labs} {H : Hp} {ρ : Rho} {h : AH} {σ : L2.St} {v : V} {X : Cx}
def rIxD : R2 := fun x y H Q => ∃ a v, x = .ref a ∧ DGet H a y (some v) ∧ Q v H
theorem ix_dict (hu : X.A.units + 1 < cLine) : IxR X rIxD := by
  intro value slice pins s σ H x y v u Q I rx ry h hs
  obtain ⟨a, z, rfl, g, q⟩ := h
  cases rx
  exact tail_any (dict_typeIs I g) PySem.F.slot_dict_getitem.lookup (d_getItem hu I g ry fun w' s' I' r' => ⟨z, H, I', r', q⟩) hs
theorem atI_of {α : Type} {xs : List α} {i : Int} {a : α} (e : atI xs i = some a) : ∃ j, ixN xs.length i = some j ∧ xs[j]? = some a := by
  unfold atI at e
  obtain ⟨j, h1, h2⟩ := Option.bind_eq_some_iff.mp e
  exact ⟨j, h1, h2⟩
theorem atI_row {ds : List D} {xs : List V} {i : Int} {d : D} (r : VRs K m O H ds xs) (e : atI ds i = some d) : ∃ x, atI xs i = some x ∧ VR K m O H d x := by
  obtain ⟨j, h1, h2⟩ := atI_of e
  obtain ⟨x, h3, h4⟩ := r.get' h2
  refine ⟨x, ?_, h4⟩
  unfold atI
  rw [← r.length, h1]
  exact h3
theorem of_ok {α : Type} {o : Option α} {a : α} (e : Res.of o = .ok a) : o = some a := by
  cases o with
  | none => cases e
  | some b => cases e; rfl
/-- a value that is read now, wherever it stands -/
def RL (K : PySem.W.Frag) (m : List Addr) (O : Labs) (H : Hp) (d : D) (v : V) : Prop := VR K m O H d v ∨ ∃ a, v = .ref a ∧ CV K m O H a d
theorem RC.rl {d : D} (c : RC K m O H d v) : RL K m O H d v := c.imp id fun ⟨_, a, e, _, c⟩ => ⟨a, e, c⟩
theorem RL.lst {l : List D} (c : RL K m O H (.lst l) v) : ∃ a xs, v = .ref a ∧ Rd H a (.lst xs) ∧ VRs K m O H l xs := by
  rcases c with c | ⟨a, e, xs, hx, r⟩
  · exact RC.lst (.inl c)
  · exact ⟨a, xs, e, .inl hx, r⟩
theorem RL.dct {l : List (Key × D)} (c : RL K m O H (.dct l) v) : ∃ a kvs, v = .ref a ∧ Rd H a (.dK kvs) ∧ VRk K m O H l kvs := by
  rcases c with c | ⟨a, e, xs, hx, r⟩
  · exact RC.dct (.inl c)
  · exact ⟨a, xs, e, .inl hx, r⟩
theorem RL.tup {l : List D} (c : RL K m O H (.tup l) v) : ∃ a xs, v = .ref a ∧ SqT K H a xs ∧ VRs K m O H l xs := by
  rcases c with c | ⟨a, e, c⟩
  · exact RC.tup (.inl c)
  · exact c.elim
theorem RL.scr {l : List Int} (c : RL K m O H (.scr l) v) : ∃ a, v = .ref a ∧ SqL K H a (l.map V.int) := by
  rcases c with c | ⟨a, e, c⟩
  · exact RC.scr (.inl c)
  · exact c.elim
theorem RL.str {l : Str} (c : RL K m O H (.str l) v) : v = .str l := by
  rcases c with c | ⟨a, e, c⟩
  · exact RC.str (.inl c)
  · exact c.elim
theorem RH.deref (r : RH K m O H h) {d : D} (c : RC K m O H d v) : RL K m O H (Mi.deref h d) v := by
  unfold Mi.deref
  split
  · rename_i n
    split
    · rename_i d e
      obtain ⟨a, h1, h2, h3⟩ := r.obj n d e
      have z := c.of (fun _ q => nomatch q) (fun _ q => nomatch q) (fun _ q => nomatch q)
      unfold VR at z
      obtain ⟨a', e1, e2⟩ := z
      rw [h1] at e2
      cases e2
      exact .inr ⟨a, e1, h3⟩
    · exact c.rl
  · exact c.rl
variable (hX : X.K = K) (hu : X.A.units + 64 < cLine)
include hX hu
theorem idx_ok {d e z : D} {x y : V} {Q : VK} (cx : RL K m O H d x) (cy : RC K m O H e y) (ev : idx d e = .ok z) (q : ∀ w, VR K m O H z w → Q w H) : AnyI X x y H Q := by
  subst hX
  unfold idx at ev
  split at ev
  · obtain ⟨a, xs, rfl, ha, va⟩ := cx.lst
    obtain ⟨w, h1, h2⟩ := atI_row va (of_ok ev)
    exact ⟨_, ix_list, a, xs, _, w, rfl, cy.int, .inl ha, h1, q w h2⟩
  · obtain ⟨a, xs, rfl, ha, va⟩ := cx.tup
    obtain ⟨w, h1, h2⟩ := atI_row va (of_ok ev)
    exact ⟨_, ix_tup, a, xs, _, w, rfl, cy.int, ha, h1, q w h2⟩
  · obtain ⟨a, rfl, ha⟩ := cx.scr
    obtain ⟨i, e1, e2⟩ := Option.map_eq_some_iff.mp (of_ok ev)
    obtain ⟨j, h1, h2⟩ := atI_of e1
    subst e2
    refine ⟨_, ix_list, a, _, _, .int i, rfl, cy.int, ha, ?_, q _ (VR.i i)⟩
    unfold atI
    rw [List.length_map, h1]
    show (List.map V.int _)[j]? = some (V.int i)
    rw [List.getElem?_map, h2]
    rfl
  · split at ev
    · rename_i c hc
      obtain ⟨g, e1⟩ := guard_ok ev
      injection e1 with e1
      subst e1
      exact ⟨_, ix_str, _, _, c, cx.str, cy.int, of_decide_eq_true g, hc, q _ (VR.s _)⟩
    · cases ev
  · split at ev
    · rename_i k ek
      obtain ⟨a, kvs, rfl, ha, va⟩ := cx.dct
      obtain ⟨w, h1, h2⟩ := (va.look k).some_of (of_ok ev)
      exact ⟨_, ix_dict (by omega), a, w, rfl, .inl ⟨kvs, k, ha, cy.key ek, h1.symm⟩, q w h2⟩
    · cases ev
  · cases ev
end
section
variable {K : PySem.W.Frag} {m : List Addr} {O : Labs} {H : Hp} {ρ : Rho} {h : AH} {σ : L2.St} {v : V} {X : Cx}
theorem cut_ok (hX : X.K = K) {d z : D} {l u : Option Int} {x : V} {Q : VK} (r : R K m O H ρ h σ) (cx : RC K m O H d x) (ev : cut d l u = .ok z)
    (c : Then K m O H ρ h σ (TX K false) z true Q) : AnyS X x l u H Q := by
  unfold cut at ev
  split at ev
  · cases ev
    obtain ⟨a, xs, rfl, ha, va⟩ := cx.lst
    exact ⟨_, sl_list, a, xs, rfl, .inl ha, fun p hp => c.lst r (va.cut l u) hp⟩
  · cases ev
    subst hX
    rename_i ds
    have tx := cx.of (fun _ q => nomatch q) (fun _ q => nomatch q) (fun _ q => nomatch q)
    obtain ⟨a, xs, rfl, ha, va⟩ := cx.tup
    refine ⟨_, sl_tupA, a, xs, rfl, ha, fun hw => ?_, fun _ p hp => c.tup r (fun _ _ _ _ _ => TX.tup) (va.cut l u) hp⟩
    have e : cutL ds l u = ds := by
      unfold cutL
      rw [va.length, hw.1, hw.2]
      simp [← va.length]
    exact c.here r (TX.tup (by rw [e]; exact tx))
  · cases ev
end
end Mi

set_option Elab.async false
set_option linter.all false
set_option maxRecDepth 100000
set_option maxHeartbeats 2000000
/-! Mi: built-in functions, told by the interpreter. -/
namespace Mi
open PySem PySem.Spec PyProof.Rows L2

/-- values, each as it may be looked at -/
def RCs (K : PySem.W.Frag) (m : List Addr) (O : Labs) (H : Hp) : List D → List V → Prop
  | [], vs => vs = []
  | d :: ds, vs => ∃ x xs, vs = x :: xs ∧ RC K m O H d x ∧ RCs K m O H ds xs
section
variable {K : PySem.W.Frag} {m m' : List Addr} {O O' : Labs} {H H' : Hp} {ρ : Rho} {h : AH} {σ : L2.St} {v : V} {X : Cx}
theorem RCs.keep (k : Ext m O H m' O' H') : ∀ {ds : List D} {vs : List V}, RCs K m O H ds vs → RCs K m' O' H' ds vs
  | [], _, h => h
  | d :: ds, _, ⟨x, xs, e, c, r⟩ => ⟨x, xs, e, c.keep k, RCs.keep k r⟩
theorem RCs.one {d : D} {vs : List V} (c : RCs K m O H [d] vs) : ∃ x, vs = [x] ∧ RC K m O H d x := by
  obtain ⟨x, xs, e, c, r⟩ := c
  have r : xs = [] := r
  exact ⟨x, by rw [e, r], c⟩
theorem RCs.two {d e : D} {vs : List V} (c : RCs K m O H [d, e] vs) : ∃ x y, vs = [x, y] ∧ RC K m O H d x ∧ RC K m O H e y := by
  obtain ⟨x, xs, e1, c, r⟩ := c
  obtain ⟨y, e2, c2⟩ := RCs.one r
  exact ⟨x, y, by rw [e1, e2], c, c2⟩

def biV : Bi → Value
  | .len => .builtin "len" | .all => .builtin "all" | .any => .builtin "any" | .sum => .builtin "sum" | .min => .builtin "min" | .max => .builtin "max" | .abs => .builtin "abs"
  | .int => .type "int" | .str => .type "str" | .bool => .type "bool" | .list => .type "list" | .tuple => .type "tuple" | .dict => .type "dict" | .sorted => .builtin "sorted"
  | .sortset => .none | .lenset => .none | .isinst _ => .none
/-- len of a dict, locked or not -/
def rLenR : List V → Hp → VK → Prop := fun xs H Q => ∃ a kvs, xs = [V.ref a] ∧ Rd H a (.dK kvs) ∧ Q (.int kvs.length) H
theorem call_lenR : CallR X (.builtin "len") rLenR := by
  intro pins s σ H xs us Q I r h
  obtain ⟨a, kvs, rfl, hd, q⟩ := h
  rw [Vals.ref1 r]
  exact d_len I hd fun t s' I' => ⟨.int kvs.length, H, I', ⟨t, rfl⟩, q⟩
theorem strs_keys : ∀ {l : List (Key × D)} {xs : List Str} {kvs : List (Key × V)}, VRk K m O H l kvs → strs? (l.map fun p => Mi.keyD p.1) = some xs → kvs.map (·.1) = xs.map Sum.inr
  | [], _, _, h, e => by
    rw [VRk_nil] at h; subst h
    unfold strs? at e; cases e; rfl
  | (.inr x, d) :: l, _, _, h, e => by
    rw [VRk_cons] at h
    obtain ⟨v, vs, rfl, _, h2⟩ := h
    rw [List.map_cons] at e
    simp only [Mi.keyD] at e
    unfold strs? at e
    obtain ⟨ys, e', rfl⟩ := Option.map_eq_some_iff.mp e
    rw [List.map_cons, List.map_cons, strs_keys h2 e']
  | (.inl i, d) :: l, _, _, h, e => by
    rw [List.map_cons] at e
    simp only [Mi.keyD] at e
    unfold strs? at e
    cases e
theorem pairs_rows : ∀ {l : List D} {rs : List (Key × D)} {xs : List V}, VRs K m O H l xs → pairs? l = some rs → ∃ (ps : List Addr) (kvs : List (Key × V)), xs = ps.map V.ref ∧ Paired (fun p kv => SqT K H p [kV kv.1, kv.2]) ps kvs ∧ VRk K m O H rs kvs
  | [], _, _, h, e => by
    rw [VRs_nil] at h; subst h
    unfold pairs? at e; cases e
    exact ⟨[], [], rfl, .nil, by simp⟩
  | .tup [k, d] :: l, _, _, h, e => by
    rw [VRs_cons] at h
    obtain ⟨x, xs, rfl, h1, h2⟩ := h
    unfold pairs? at e
    split at e
    · rename_i kk rs ek er
      cases e
      obtain ⟨ps, kvs, rfl, q1, q2⟩ := pairs_rows h2 er
      have c : RC K m O H (.tup [k, d]) x := .inl h1
      obtain ⟨a, ys, rfl, ha, va⟩ := c.tup
      simp only [VRs_cons, VRs_nil] at va
      obtain ⟨y1, _, rfl, g1, y2, _, rfl, g2, rfl⟩ := va
      rw [VR.key g1 ek] at ha
      exact ⟨a :: ps, (kk, y2) :: kvs, rfl, .cons ha q1, by rw [VRk_cons]; exact ⟨y2, kvs, rfl, g2, q2⟩⟩
    · cases e
  | .tup [] :: _, _, _, _, e => by unfold pairs? at e; cases e
  | .tup [_] :: _, _, _, _, e => by unfold pairs? at e; cases e
  | .tup (_ :: _ :: _ :: _) :: _, _, _, _, e => by unfold pairs? at e; cases e
  | .non :: _, _, _, _, e => by unfold pairs? at e; cases e
  | .bl _ :: _, _, _, _, e => by unfold pairs? at e; cases e
  | .int _ :: _, _, _, _, e => by unfold pairs? at e; cases e
  | .str _ :: _, _, _, _, e => by unfold pairs? at e; cases e
  | .lst _ :: _, _, _, _, e => by unfold pairs? at e; cases e
  | .dct _ :: _, _, _, _, e => by unfold pairs? at e; cases e
  | .dcT _ :: _, _, _, _, e => by unfold pairs? at e; cases e
  | .ref _ :: _, _, _, _, e => by unfold pairs? at e; cases e
  | .scr _ :: _, _, _, _, e => by unfold pairs? at e; cases e
theorem sorted_len {ns : List Int} : (sortI ns).length = ns.length := (sortBy_perm ns).length_eq
variable (hX : X.K = K) (hc : X.calm = true)
include hX hc
theorem bi_ok {f : Bi} {es : List D} {vs : List V} {z : D} {Q : VK} (r : R K m O H ρ h σ) (cs : RCs K m O H es vs) (ev : bi f es = .ok z) (hf : ∀ c, f ≠ .isinst c) (hs : f ≠ .sortset) (c : Then K m O H ρ h σ (TX K false) z true Q) :
    AnyC X (biV f) vs H Q := by
  subst hX
  unfold bi at ev
  split at ev
  -- len
  · cases ev
    obtain ⟨x, rfl, cx⟩ := cs.one
    obtain ⟨a, xs, rfl, ha, va⟩ := cx.lst
    exact ⟨_, call_len_seq, a, xs, rfl, .inl (.inl ha), by rw [← va.length]; exact c.here r TX.int⟩
  · cases ev
    obtain ⟨x, rfl, cx⟩ := cs.one
    obtain ⟨a, xs, rfl, ha, va⟩ := cx.tup
    exact ⟨_, call_len_seq, a, xs, rfl, .inr ha, by rw [← va.length]; exact c.here r TX.int⟩
  · cases ev
    obtain ⟨x, rfl, cx⟩ := cs.one
    obtain ⟨a, xs, rfl, ha, va⟩ := cx.dct
    exact ⟨_, call_lenR, a, xs, rfl, ha, by rw [← va.length]; exact c.here r TX.int⟩
  · cases ev
    obtain ⟨x, rfl, cx⟩ := cs.one
    obtain ⟨a, rfl, ha⟩ := cx.scr
    exact ⟨_, call_len_seq, a, _, rfl, .inl ha, by rw [List.length_map]; exact c.here r TX.int⟩
  · obtain ⟨g, e1⟩ := guard_ok ev
    cases e1
    obtain ⟨x, rfl, cx⟩ := cs.one
    exact ⟨_, call_len_str, _, by rw [cx.str], of_decide_eq_true g, c.here r TX.int⟩
  -- all, any
  · split at ev
    · rename_i bs eb
      cases ev
      obtain ⟨x, rfl, cx⟩ := cs.one
      obtain ⟨a, xs, rfl, ha, va⟩ := cx.lst
      have e := va.bls eb
      subst e
      exact ⟨_, cr_all hc, a, bs, rfl, .inl ha, c.here r TX.bl⟩
    · cases ev
  · split at ev
    · rename_i bs eb
      cases ev
      obtain ⟨x, rfl, cx⟩ := cs.one
      obtain ⟨a, xs, rfl, ha, va⟩ := cx.lst
      have e := va.bls eb
      subst e
      exact ⟨_, cr_any hc, a, bs, rfl, .inl ha, c.here r TX.bl⟩
    · cases ev
  -- sum, min, max
  · split at ev
    · rename_i ns eb
      cases ev
      obtain ⟨x, rfl, cx⟩ := cs.one
      obtain ⟨a, xs, rfl, ha, va⟩ := cx.lst
      have e := va.ints eb
      subst e
      exact ⟨_, cr_sum hc, a, ns, rfl, .inl ha, c.here r TX.int⟩
    · cases ev
  · split at ev
    · rename_i n ns eb
      cases ev
      obtain ⟨x, rfl, cx⟩ := cs.one
      obtain ⟨a, xs, rfl, ha, va⟩ := cx.lst
      have e := va.ints eb
      subst e
      refine ⟨_, cr_min hc, a, n :: ns, rfl, .inl ha, by simp, fun k hk hle => ?_⟩
      obtain ⟨h1, h2, h3⟩ := minI_le ns n
      have hm : minI n ns ∈ n :: ns := by
        rcases h3 with h3 | h3
        · rw [h3]; exact List.mem_cons_self
        · exact List.mem_cons_of_mem _ h3
      have e2 : k = minI n ns := by
        have z1 := hle _ hm
        have z2 : minI n ns ≤ k := by
          rcases List.mem_cons.mp hk with e | hk
          · rw [e]; exact h1
          · exact h2 k hk
        omega
      rw [e2]
      exact c.here r TX.int
    · cases ev
  · split at ev
    · rename_i n ns eb
      cases ev
      obtain ⟨x, rfl, cx⟩ := cs.one
      obtain ⟨a, xs, rfl, ha, va⟩ := cx.lst
      have e := va.ints eb
      subst e
      refine ⟨_, cr_max hc, a, n :: ns, rfl, .inl ha, by simp, fun k hk hle => ?_⟩
      obtain ⟨h1, h2, h3⟩ := maxI_ge ns n
      have hm : maxI n ns ∈ n :: ns := by
        rcases h3 with h3 | h3
        · rw [h3]; exact List.mem_cons_self
        · exact List.mem_cons_of_mem _ h3
      have e2 : k = maxI n ns := by
        have z1 := hle _ hm
        have z2 : k ≤ maxI n ns := by
          rcases List.mem_cons.mp hk with e | hk
          · rw [e]; exact h1
          · exact h2 k hk
        omega
      rw [e2]
      exact c.here r TX.int
    · cases ev
  · cases ev
    obtain ⟨x, y, rfl, cx, cy⟩ := cs.two
    exact ⟨_, call_min2 hc, _, _, by rw [cx.int, cy.int], c.here r TX.int⟩
  · cases ev
    obtain ⟨x, y, rfl, cx, cy⟩ := cs.two
    exact ⟨_, call_max2 hc, _, _, by rw [cx.int, cy.int], c.here r TX.int⟩
  · cases ev
    obtain ⟨x, rfl, cx⟩ := cs.one
    exact ⟨_, call_abs, _, by rw [cx.int], c.here r TX.int⟩
  · cases ev
    obtain ⟨x, rfl, cx⟩ := cs.one
    exact ⟨_, call_int1, .inl ⟨_, by rw [cx.int], c.here r TX.int⟩⟩
  · cases ev
    obtain ⟨x, rfl, cx⟩ := cs.one
    exact ⟨_, call_int1, .inr ⟨_, by rw [cx.bl], c.here r TX.int⟩⟩
  -- list, tuple
  · cases ev
    obtain ⟨x, rfl, cx⟩ := cs.one
    obtain ⟨a, xs, rfl, ha, va⟩ := cx.lst
    exact ⟨_, call_list_of, a, xs, rfl, .inl (.inl ha), fun p hp => c.lst r va hp⟩
  · cases ev
    obtain ⟨x, rfl, cx⟩ := cs.one
    obtain ⟨a, xs, rfl, ha, va⟩ := cx.tup
    exact ⟨_, call_list_of, a, xs, rfl, .inr ha, fun p hp => c.lst r va hp⟩
  · cases ev
    obtain ⟨x, rfl, cx⟩ := cs.one
    obtain ⟨a, xs, rfl, ha, va⟩ := cx.dct
    exact ⟨_, call_listD hc, a, xs, rfl, ha, fun p hp => c.lst r (VRs.keysK va) hp⟩
  · cases ev
    obtain ⟨x, rfl, cx⟩ := cs.one
    obtain ⟨a, xs, rfl, ha, va⟩ := cx.lst
    exact ⟨_, call_tuple_of, a, xs, rfl, .inl ⟨.inl ha, fun p hp => c.tup r (fun _ _ _ _ _ => TX.tup) va hp⟩⟩
  · cases ev
    obtain ⟨x, rfl, cx⟩ := cs.one
    have tx := cx.of (fun _ q => nomatch q) (fun _ q => nomatch q) (fun _ q => nomatch q)
    obtain ⟨a, xs, rfl, ha, va⟩ := cx.tup
    exact ⟨_, call_tuple_of, a, xs, rfl, .inr ⟨ha, c.here r (TX.tup tx)⟩⟩
  -- dict
  · cases ev
    obtain ⟨x, rfl, cx⟩ := cs.one
    obtain ⟨a, xs, rfl, ha, va⟩ := cx.dct
    exact ⟨_, call_dictD, a, xs, rfl, ha, fun p hp => c.dct r va hp⟩
  · split at ev
    · rename_i rs er
      cases ev
      obtain ⟨x, rfl, cx⟩ := cs.one
      obtain ⟨a, xs, rfl, ha, va⟩ := cx.lst
      obtain ⟨ps, kvs, rfl, q1, q2⟩ := pairs_rows va er
      exact ⟨_, call_dictP hc, a, ps, kvs, rfl, .inl ha, q1, fun p hp => c.dct r (VRk.merge q2 (by simp)) hp⟩
    · cases ev
  -- sorted
  · split at ev
    · rename_i rr er
      cases ev
      obtain ⟨x, rfl, cx⟩ := cs.one
      obtain ⟨a, xs, rfl, ha, va⟩ := cx.lst
      unfold sorted? at er
      split at er
      · rename_i ns en
        split at er
        · cases er
          have e := va.ints en
          subst e
          refine ⟨_, cr_sortedI, a, ns, rfl, .inl ha, fun ns' p h1 h2 hp => ?_⟩
          rw [sortI_one h1 h2]
          exact c.lst r (VRs.of_ints _) hp
        · cases er
      · split at er
        · rename_i ys en
          split at er
          · rename_i hl
            cases er
            have e := va.strs en
            subst e
            refine ⟨_, cr_sortedS, a, ys, rfl, .inl ha, hl, fun ns' p h1 h2 hp => ?_⟩
            rw [sortS_one h1 h2]
            exact c.lst r (VRs.of_strs _) hp
          · cases er
        · cases er
    · cases ev
  · split at ev
    · rename_i ys en
      obtain ⟨g, e1⟩ := guard_ok ev
      cases e1
      obtain ⟨x, rfl, cx⟩ := cs.one
      obtain ⟨a, xs, rfl, ha, va⟩ := cx.dct
      refine ⟨_, call_sortedD hc, a, xs, ys, rfl, ha, strs_keys va en, of_decide_eq_true g, fun ns' p h1 h2 hp => ?_⟩
      rw [sortS_one h1 h2]
      exact c.lst r (VRs.of_strs _) hp
    · cases ev
  · exact absurd rfl hs
  · exact absurd rfl (hf _)
  · cases ev
end

/-! ### isinstance -/
section
variable {m : List Addr} {O : Labs} {H : Hp} {X : Cx}
theorem kit_all {t c : String} (ht : t ∈ ["NoneType", "bool", "int", "str", "tuple", "list", "dict"]) (hc : isClass c = true) : kitB t c = some (isA t c) := by
  have hc' : c ∈ ["int", "bool", "str", "tuple", "list", "dict"] := by unfold isClass at hc; simpa using hc
  have all : (["NoneType", "bool", "int", "str", "tuple", "list", "dict"].all fun t => ["int", "bool", "str", "tuple", "list", "dict"].all fun c => decide (kitB t c = some (isA t c))) = true := by decide +kernel
  rw [List.all_eq_true] at all
  have z := all t ht
  rw [List.all_eq_true] at z
  exact of_decide_eq_true (z c hc')
theorem rd_lst {K : PySem.W.Frag} {a : Addr} {xs : List V} (h : Rd H a (.lst xs)) : TyX K H (.ref a) (.type "list") := by
  rcases h with h | ⟨o, h⟩
  · exact .base (.lst h)
  · exact .base (.frz h)
theorem isi_ok {d z : D} {c : String} {x : V} {Q : VK} (cx : RC X.K m O H d x) (ev : bi (.isinst c) [d] = .ok z) (q : ∀ b, z = .bl b → Q (.bl b) H) : rIsi X.K [x, .ty c] H Q := by
  unfold bi at ev
  simp only at ev
  split at ev
  · rename_i t et
    obtain ⟨g, e1⟩ := guard_ok ev
    injection e1 with e1
    refine ⟨x, .ty c, .type t, .type c, isA t c, rfl, .ty c, ?_, kit_ty (kit_all ?_ g), q _ e1.symm⟩
    · cases d <;> unfold typeOf at et <;> first | cases et | skip
      · rw [cx.non]; exact .base .non
      · rw [cx.bl]; exact .base (.bl _)
      · rw [cx.int]; exact .base (.int _)
      · rw [cx.str]; exact .base (.str _)
      · obtain ⟨a, xs, rfl, ha, _⟩ := cx.tup
        rcases ha with (h | ⟨o, h⟩) | ⟨o, its, n, h1, h2, _⟩
        · exact .base (.tup h)
        · exact .fTuple h
        · exact .kTuple h1 h2
      · obtain ⟨a, xs, rfl, ha, _⟩ := cx.lst
        exact rd_lst ha
      · obtain ⟨a, xs, rfl, ha, _⟩ := cx.dct
        rcases ha with h | ⟨o, h⟩
        · exact .base (.dK h)
        · exact .fDict h
    · cases d <;> unfold typeOf at et <;> first | (injection et with et; subst et; simp; done) | cases et
  · cases ev
end
end Mi

set_option Elab.async false
set_option linter.all false
set_option maxRecDepth 100000
set_option maxHeartbeats 4000000
/-! Mi: sorted(set(texts)). -/
namespace Mi
open PySem PySem.Spec PyProof.Rows L2

/-- the text of a set's member -/
def zKey (e : Int × Value) : Str := match e.2 with
  | .str x _ => x
  | _ => Str.empty
abbrev zK (P : Program) (w : World) := PySem.strKind P w
def ZEl (P : Program) (w : World) (e : Int × Value) : Prop := ∃ x tk, e.2 = Value.str x tk ∧ e.1 = (zK P w).hash x
/-- a set's own things: what it holds is told by a list of texts, each once -/
structure ZTab (P : Program) (w : World) (xs : List Str) (es : Array (Int × Value)) (t : SetTable) : Prop where
  el : ∀ e ∈ es.toList, ZEl P w e
  pm : (es.toList.map zKey).Perm xs
  nd : xs.Nodup
  few : es.size < scanBound
  fits : t.fits es.size = true
  ris : Ris t.place.toList
  led : w.params.followText "set-order" = true ∨ t.led = true
def ZSet (P : Program) (w : World) (h : Heap) (a : Addr) (xs : List Str) : Prop := ∃ o es ep t, h.get? a = some o ∧ o.ExactSet ∧ o.data = .set es ep t ∧ ZTab P w xs es t
def zNew (w : World) : Obj := { cls := .type "set", dict := none, data := .set #[] 0 (.fresh 0 0 (!w.params.followText "set-order")) }
section
variable {P : Program} {w : World} {A : Around} {E : Value → Shared → Prop} {s : Shared} {a : Addr} {xs : List Str}
theorem ZTab.size {es : Array (Int × Value)} {t : SetTable} (Z : ZTab P w xs es t) : es.size = xs.length := by
  rw [← Z.pm.length_eq, List.length_map, Array.length_toList]
theorem ZEl.elems {l : List (Int × Value)} (g : ∀ e ∈ l, ZEl P w e) : ElemsOf (zK P w) l := fun e he => by
  obtain ⟨k, tk, h1, h2⟩ := g e he
  exact ⟨⟨k, by rw [h1]; exact strKind_is P w k tk, h2⟩, by rw [h1] <;> rfl⟩
theorem ZEl.is {e : Int × Value} (g : ZEl P w e) (k : Str) : (zK P w).is k e.2 = true ↔ zKey e = k := by
  obtain ⟨k0, tk, h1, _⟩ := g
  unfold zKey
  rw [h1]
  show (Value.isStrOf k (.str k0 tk) = true) ↔ k0 = k
  simp [Value.isStrOf]
theorem ZEl.mem {l : List (Int × Value)} (g : ∀ e ∈ l, ZEl P w e) (k : Str) : k ∈ l.map zKey ↔ ∃ e ∈ l, (zK P w).is k e.2 = true := by
  rw [List.mem_map]
  exact ⟨fun ⟨e, he, q⟩ => ⟨e, he, ((g e he).is k).2 q⟩, fun ⟨e, he, q⟩ => ⟨e, he, ((g e he).is k).1 q⟩⟩
theorem ZSet.keep {h h' : Heap} (Z : ZSet P w h a xs) (k : ∀ o, h.get? a = some o → h'.get? a = some o) : ZSet P w h' a xs := by
  obtain ⟨o, es, ep, t, ho, r⟩ := Z
  exact ⟨o, es, ep, t, k o ho, r⟩
/-- a member is added: the table is stored, and laid anew where it got too full -/
theorem z_tail {g : Bool → Sem Unit} (hg : ∀ (b : Bool) (s₁ : Shared) (Q' : Unit → Shared → Prop), Q' () s₁ → wpAny (model P w) A (g b) Q' E s₁)
    {o : Obj} {es es1 : Array (Int × Value)} {ep : Nat} {t t2 : SetTable} (ho : s.heap.get? a = some o) (hex : o.ExactSet) (hd : o.data = .set es ep t) (Z : ZTab P w xs es1 t2) {wasDummy : Bool} {R : Option Bool → Shared → Prop}
    (hR : ∀ h', Heap.SameBut a s.heap h' → ZSet P w h' a xs → R (some true) { s with heap := h' }) :
    wpAny (model P w) A (do
        storeSet a es1 t2
        if (!wasDummy && t2.tooFull) = true then do
            g (relayAll t2 es1 (SetTable.grown es1.size)).2.2
            storeSet a (relayAll t2 es1 (SetTable.grown es1.size)).1 (relayAll t2 es1 (SetTable.grown es1.size)).2.1
            pure (some true)
          else pure (some true)) R E s := by
  refine wpAny_bind (wpAny_storeSet_of ho hd ?_ (fits_of_scanBound Z.few))
  have o1 := store_at (es' := es1) (t' := t2) ho hd
  have b1 := Heap.SameBut.update s.heap a (Obj.putSet es1 t2)
  split
  · have pm := relayAll_perm t2 es1 (SetTable.grown es1.size)
    have f3 := relayAll_fits t2 es1 (SetTable.grown es1.size)
    have r3 := relayAll_ris t2 es1 (SetTable.grown es1.size)
    have l3 := relayAll_led t2 es1 (SetTable.grown es1.size)
    generalize relayAll t2 es1 (SetTable.grown es1.size) = Y at pm f3 r3 l3 ⊢
    obtain ⟨es2, t3, gave⟩ := Y
    dsimp only at pm f3 r3 l3 ⊢
    have hz : es2.size = es1.size := by rw [← Array.length_toList, pm.length_eq, Array.length_toList]
    have few2 : es2.size < scanBound := by rw [hz]; exact Z.few
    refine wpAny_bind (hg _ _ _ ?_)
    refine wpAny_bind (wpAny_storeSet_of o1 rfl ?_ (fits_of_scanBound few2))
    have o2 := store_at (es' := es2) (t' := t3) o1 rfl
    exact wpAny_pure (hR _ (b1.trans (Heap.SameBut.update _ a _)) ⟨_, es2, _, t3, o2, hex, rfl, fun e he => Z.el e (pm.mem_iff.mp he), (pm.map zKey).trans Z.pm, Z.nd, few2, f3, r3, Z.led.imp id fun z => by rw [l3]; exact z⟩)
  · exact wpAny_pure (hR _ b1 ⟨_, es1, _, t2, o1, hex, rfl, Z⟩)
theorem z_add {k : Str} {tk : Tok} {Q : Bool → Shared → Prop} (Z : ZSet P w s.heap a xs) (room : xs.length + 1 < scanBound)
    (hQ : ∀ h' b, Heap.SameBut a s.heap h' → ZSet P w h' a (if k ∈ xs then xs else k :: xs) → Q b { s with heap := h' }) :
    wpAny (model P w) A (setAddHashed a (.str k tk) ((zK P w).hash k)) Q E s := by
  obtain ⟨o, es, ep, t, ho, hex, hd, T⟩ := Z
  have isk : (zK P w).is k (.str k tk) = true := strKind_is P w k tk
  have scn : (Value.str k tk).scannable = true := rfl
  have hel : ElemsOf (zK P w) es.toList := ZEl.elems T.el
  unfold setAddHashed setAddHashedIn
  refine wpAny_holding (wpAny_bind (wpAny_setState_of ho hd T.fits ?_))
  dsimp only
  rw [byScan_of scn T.few hel]
  simp only [↓reduceIte]
  unfold setAddByScan
  refine wpAny_bind (wpAny_bind (wpAny_rule (wpAny_bind (wpAny_setScan_of isk ho hd T.fits hel ?_))))
  cases hfi : List.findIdx? (fun e => (zK P w).is k e.2) es.toList with
  | some j =>
    dsimp only
    obtain ⟨hj, pj, _⟩ := List.findIdx?_eq_some_iff_getElem.mp hfi
    have hk : k ∈ xs := T.pm.mem_iff.mp ((ZEl.mem T.el k).2 ⟨es.toList[j], List.getElem_mem hj, pj⟩)
    exact wpAny_pure (wpAny_pure (hQ s.heap _ (Heap.SameBut.refl a s.heap) (by rw [if_pos hk]; exact ⟨o, es, ep, t, ho, hex, hd, T⟩)))
  | none =>
    dsimp only
    have hnk : k ∉ xs := fun z => by
      obtain ⟨e, he, q⟩ := (ZEl.mem T.el k).1 (T.pm.mem_iff.mpr z)
      have c := List.findIdx?_eq_none_iff.mp hfi e he
      rw [q] at c
      cases c
    have gw : ∀ (b : Bool) {s₁ : Shared} {Q' : Unit → Shared → Prop}, Q' () s₁ → wpAny (model P w) A (match b with | true => rule "set.scan.the-table-gave-way" | false => pure ()) Q' E s₁ :=
      fun b s₁ Q' q => by cases b <;> first | exact wpAny_pure q | exact wpAny_rule q
    have pm := layNew_perm t es ((zK P w).hash k) (.str k tk)
    have f1 := layNew_fits t es ((zK P w).hash k) (.str k tk)
    have r1 := layNew_ris t es ((zK P w).hash k) (.str k tk) T.ris
    have l1 := layNew_led t es ((zK P w).hash k) (.str k tk)
    generalize layNew t es ((zK P w).hash k) (.str k tk) = Y at pm f1 r1 l1 ⊢
    obtain ⟨es1, t1, wasDummy, gave⟩ := Y
    dsimp only at pm f1 r1 l1 ⊢
    rw [Array.toList_push] at pm
    have pc : es1.toList.Perm (((zK P w).hash k, Value.str k tk) :: es.toList) := pm.trans (List.perm_append_singleton _ _)
    have pk : (es1.toList.map zKey).Perm (k :: xs) := (pc.map zKey).trans (T.pm.cons k)
    have hz : es1.size = xs.length + 1 := by rw [← Array.length_toList, pc.length_eq, List.length_cons, Array.length_toList, T.size]
    have el1 : ∀ e ∈ es1.toList, ZEl P w e := fun e he => by
      rcases List.mem_cons.mp (pc.mem_iff.mp he) with z | z
      · rw [z]; exact ⟨k, tk, rfl, rfl⟩
      · exact T.el e z
    have mk : ∀ t2 : SetTable, t2.fits es1.size = true → Ris t2.place.toList → t2.led = t1.led → ZTab P w (k :: xs) es1 t2 := fun t2 a1 a2 a3 =>
      ⟨el1, pk, List.nodup_cons.mpr ⟨hnk, T.nd⟩, by rw [hz]; exact room, a1, a2, T.led.imp id fun z => by rw [a3, l1]; exact z⟩
    have fin : ∀ h' b, Heap.SameBut a s.heap h' → ZSet P w h' a (k :: xs) → Q b { s with heap := h' } := fun h' b sb r => hQ h' b sb (by rw [if_neg hnk]; exact r)
    refine wpAny_bind (gw _ ?_)
    split
    · refine wpAny_bind ?_
      rw [hashByValue_scannable 8 scn]
      refine wpAny_pure ?_
      refine z_tail ?_ ho hex hd (mk _ ?_ ?_ ?_) ?_
      · intro b s₁ Q' q; cases b <;> first | exact wpAny_pure q | exact wpAny_rule q
      · first | (split <;> first | exact f1 | exact SetTable.fits_plain_off f1) | exact f1
      · first | (split <;> exact r1) | exact r1
      · first | (split <;> rfl) | rfl
      · intro h' sb r; dsimp only; exact wpAny_pure (fin h' _ sb r)
    · refine wpAny_bind (wpAny_pure ?_)
      simp only [↓reduceIte]
      refine z_tail ?_ ho hex hd (mk _ f1 r1 rfl) ?_
      · intro b s₁ Q' q; cases b <;> first | exact wpAny_pure q | exact wpAny_rule q
      · intro h' sb r; dsimp only; exact wpAny_pure (fin h' _ sb r)
/-- all of a row of texts, each once, the last first -/
def zAll : List Str → List Str → List Str
  | [], acc => acc
  | x :: r, acc => zAll r (if x ∈ acc then acc else x :: acc)
theorem zAll_le : ∀ (r acc : List Str), (zAll r acc).length ≤ r.length + acc.length
  | [], acc => by simp [zAll]
  | x :: r, acc => by
    unfold zAll
    have := zAll_le r (if x ∈ acc then acc else x :: acc)
    by_cases h : x ∈ acc
    · rw [if_pos h] at this ⊢
      simp only [List.length_cons]
      omega
    · rw [if_neg h] at this ⊢
      simp only [List.length_cons] at this ⊢
      omega
theorem z_loop {I : Addr} {fp wr : List Addr} {G : Array GenState → Array GenState → Prop} {n : Nat} {Pv : Nat → Value → Prop} {St : Nat → Shared → Prop} {R : Result → Shared → Prop}
    (W : WalksS P w A.in1 I fp wr G n Pv St) (S : Addr) (hSf : S ∉ fp) (xs : List Str) (hn : n = xs.length) (hval : ∀ i v, Pv i v → ∃ x t, xs[i]? = some x ∧ v = .str x t) :
    ∀ (k i : Nat) (s : Shared) (acc : List Str), n - i = k → i ≤ n → St i s → (xs.drop i).length + acc.length + 1 < scanBound → ZSet P w s.heap S acc →
      (∀ s', Moved (S :: wr) G s s' → ZSet P w s'.heap S (zAll (xs.drop i) acc) → R (.ok (.ret .none)) s') →
      codeAny (model P w) A (.builtin "set.update.loop" ⟨[.ref S, .ref I], []⟩) R s := by
  have hSw : S ∉ wr := fun h => hSf (W.sub _ h)
  have sub : ∀ b ∈ wr, b ∈ S :: wr := fun b hb => List.mem_cons_of_mem _ hb
  intro k
  induction k with
  | zero =>
    intro i s acc hk hi hst hl hS hR
    have hin : i = n := by omega
    subst hin
    refine codeAny_builtin F.entry_set_update_loop ?_
    rw [Around.under_plainId F.plain_set_update_loop _]
    show wpAny _ A.in1 (pyNext (.ref I) >>= _) _ _ s
    refine wpAny_bind (W.done s _ _ hst fun s' hm => ?_)
    show wpAny _ A.in1 (ret Value.none) _ _ s'
    have e : xs.drop i = [] := by rw [hn, List.drop_length]
    rw [e] at hR
    exact wpAny_pure (hR s' (hm.mono sub) (hS.keep fun o e => hm.heap S o hSw e))
  | succ k ih =>
    intro i s acc hk hi hst hl hS hR
    have hlt : i < n := by omega
    refine codeAny_builtin F.entry_set_update_loop ?_
    rw [Around.under_plainId F.plain_set_update_loop _]
    show wpAny _ A.in1 (pyNext (.ref I) >>= _) _ _ s
    refine wpAny_bind (W.item i s _ _ hlt hst fun v s' hP hst' hm => ?_)
    obtain ⟨z, t, hz, rfl⟩ := hval i v hP
    have hS' : ZSet P w s'.heap S acc := hS.keep fun o e => hm.heap S o hSw e
    have hdr : xs.drop i = z :: xs.drop (i + 1) := by
      obtain ⟨hlt2, hg2⟩ := List.getElem?_eq_some_iff.mp hz
      rw [List.drop_eq_getElem_cons hlt2, hg2]
    rw [hdr] at hl hR
    rw [List.length_cons] at hl
    show wpAny _ A.in1 (holding [Value.str z t] (setAdd S (.str z t)) >>= _) _ _ s'
    refine wpAny_bind (wpAny_holding ?_)
    unfold setAdd
    refine wpAny_holding (wpAny_bind ((zK P w).pyHash (k := z) (strKind_is _ _ _ _) ?_))
    refine z_add (s := { s' with toks := s'.toks + 1 }) hS' (by omega) fun h' b hsb hS2 => ?_
    refine wpAny_pure ⟨plainId_quiet F.plain_set_update_loop _, ih (i + 1) _ _ (by omega) hlt (W.frame _ s' _ _ hst' (Nat.le_succ _) fun b hb o e => ?_) ?_ hS2 fun s'' hm'' hS'' => ?_⟩
    · rw [hsb.2 b (fun h : b = S => hSf (by rw [← h]; exact hb))]; exact e
    · split <;> (try simp only [List.length_cons]) <;> omega
    · refine hR s'' (Moved.trans W.gtrans ((hm.mono sub).then_heap (Nat.le_succ _) fun b o hb e => ?_) hm'') hS''
      rw [hsb.2 b (fun h : b = S => hb (by rw [h]; exact List.mem_cons_self))]; exact e
theorem z_new {h : Heap} (ho : h.get? a = some (zNew w)) : ZSet P w h a [] :=
  ⟨_, #[], 0, _, ho, ⟨rfl, rfl, rfl⟩, rfl, fun e he => by simp at he, by simp, List.nodup_nil, by decide, by rfl, List.Pairwise.nil, by
    show _ ∨ (!w.params.followText "set-order") = true
    cases w.params.followText "set-order"
    · exact .inr rfl
    · exact .inl rfl⟩
set_option maxHeartbeats 6400000 in
/-- set(list of texts) -/
theorem z_call {l : Addr} {items : Array Value} (xs : List Str) {Q : Value → Shared → Prop} (hh : A.handled = none) (hl : s.heap.IsList l items) (hit : StrsAre items.toList xs) (hb : xs.length + 1 < scanBound)
    (h : ∀ (h' : Heap) (tk : Nat), ZSet P w h' s.heap.objs.size (zAll xs []) → (∀ b o, s.heap.get? b = some o → h'.get? b = some o) → Q (.ref s.heap.objs.size) { s with heap := h', toks := tk }) :
    wpAny (model P w) A (call (.type "set") [.ref l]) Q E s := by
  have hisz : items.size = xs.length := by rw [← StrsAre.len_eq hit, Array.length_toList]
  obtain ⟨c, tl, hmro⟩ := F.called_set.mro
  have hmade := F.called_set.made
  have hsub := F.called_set.sub
  refine wpAny_call (codeAny_of_tree ?_)
  show wpAny _ _ (callAny (.type "set") _) _ _ _
  refine wpAny_pure ⟨Code.quiet_builtin _ (by decide +kernel), codeAny_builtin F.entry_type_call ?_⟩
  rw [Around.under_plain (weight_type_call_type "set" [.ref l] []) rfl]
  have h1 := F.called_set.notType
  have h2 := F.called_set.canCreate
  have hct := F.typeCall_set_1 (.ref l)
  repeat (any_goals (first | assumption | wp_step))
  refine codeAny_mono (code_set_led1 (.ref l) (E := E) (Q₁ := fun obj s₁ => obj = .ref s.heap.objs.size ∧ s₁ = { s with heap := s.heap.push (zNew w) }) ⟨rfl, rfl⟩) fun r s₁ hr => ?_
  cases r with
  | error e => exact hr
  | ok fl =>
    cases fl with
    | ret obj =>
      obtain ⟨rfl, rfl⟩ := hr
      have hS : (s.heap.push (zNew w)).get? s.heap.objs.size = some (zNew w) := Heap.get?_push_size _ rfl
      have hT : Shared.TypeIs { s with heap := s.heap.push (zNew w) } (.ref s.heap.objs.size) "set" := ⟨_, hS, rfl⟩
      have hli := F.called_set.init.lookup
      have hbi := F.called_set.init.bind (.ref s.heap.objs.size)
      repeat (any_goals (first | assumption | wp_step))
      refine codeAny_mono (codeAny_call_builtin (R := wants (fun r s₂ => r = .none ∧ ∃ h' tk, s₂ = { s with heap := h', toks := tk } ∧ ZSet P w h' s.heap.objs.size (zAll xs []) ∧
          (∀ b o, s.heap.get? b = some o → h'.get? b = some o)) E) F.called_set.init.plain F.entry_set_init (check_set_init_1 hT ?_)) fun r₂ s₂ hr₂ => ?_
      · obtain ⟨ol, hol, hcl, nl, hdl⟩ := hl
        obtain ⟨ocls, odict, odata, oslots⟩ := ol
        simp only at hcl hdl
        subst hcl; subst hdl
        have hol' : (s.heap.push (zNew w)).get? l = some { cls := .type "list", dict := odict, data := .seq items nl, slots := oslots } := Heap.get?_push_of_some _ hol
        have hsls := F.sub_list_set
        have hslf := F.sub_list_frozenset
        have hne : (Value.type "list" == Value.type "dict") = false := by decide
        have hl1 : (s.heap.push (zNew w)).IsList l items := ⟨_, hol', rfl, nl, rfl⟩
        unfold Builtin.«set.__init__» noKeywords Builtin.Frozenset.updateFrom
        generalize hPI : pyIter = PI
        wp_walk
        subst hPI
        refine wpAny_pyIter_list hl1 ?_
        refine wpAny_bind (wpAny_runValue ?_)
        have hlS : l < s.heap.objs.size := Heap.lt_size hol
        have hh3 : A.in1.in1.in1.handled = none := by simp [hh]
        have hneI : l ≠ (s.heap.push (zNew w)).objs.size := by
          rw [Heap.size_push]; exact Nat.ne_of_lt (Nat.lt_succ_of_lt hlS)
        have hSf : s.heap.objs.size ∉ [(s.heap.push (zNew w)).objs.size, l] := by
          rw [Heap.size_push]; simp only [List.mem_cons, List.mem_singleton, List.not_mem_nil, or_false, not_or]
          exact ⟨Nat.ne_of_lt (Nat.lt_succ_self _), Nat.ne_of_gt hlS⟩
        have hval : ∀ (i : Nat) (v : Value), items[i]? = some v → ∃ x t, xs[i]? = some x ∧ v = .str x t := fun i v hv => by
          obtain ⟨y, t, e, ey⟩ := StrsAre.item hit i v (by rw [Array.getElem?_toList]; exact hv)
          exact ⟨y, t, ey, e⟩
        refine z_loop ((Walks.list hh3 _ l hneI items).toS) s.heap.objs.size hSf xs hisz hval (items.size - 0) 0 _ [] (by omega) (Nat.zero_le _) ⟨⟨_, Heap.get?_push_size _ rfl, rfl, rfl⟩, (hl1.push _)⟩ (by simpa using hb)
          (z_new (Heap.get?_push_of_some _ hS)) fun s' hm hS' => ?_
        obtain ⟨h', g2, d', tk', os'⟩ := s'
        have eg : g2 = s.gens := hm.gens
        have ed : d' = s.drawn := hm.drawn
        have eo : os' = s.os := hm.os
        subst eg; subst ed; subst eo
        show wpAny _ _ _ _ _ _
        refine wpAny_pure ?_
        show wpAny _ _ (ret Value.none) _ _ _
        refine wpAny_pure ⟨rfl, h', tk', rfl, hS', fun b o e => ?_⟩
        have hb0 : b < s.heap.objs.size := Heap.lt_size e
        have hb2 : b ≠ (s.heap.push (zNew w)).objs.size := by
          rw [Heap.size_push]; exact Nat.ne_of_lt (Nat.lt_succ_of_lt hb0)
        exact hm.heap b o (by simp only [List.mem_cons, List.mem_singleton, List.not_mem_nil, or_false, not_or]; exact ⟨Nat.ne_of_lt hb0, hb2⟩) (Heap.get?_push_of_some _ (Heap.get?_push_of_some _ e))
      · cases r₂ with
        | error e => exact hr₂
        | ok fl₂ =>
          cases fl₂ with
          | ret r =>
            obtain ⟨rfl, h', tk, rfl, hS', hk'⟩ := hr₂
            repeat (any_goals (first | assumption | wp_step))
            exact h _ _ hS' hk'
          | _ => exact hr₂.elim
    | _ => exact hr.elim
/-- the texts of values -/
theorem z_strs : ∀ {l : List (Int × Value)}, (∀ e ∈ l, ZEl P w e) → StrsAre (l.map (·.2)) (l.map zKey)
  | [], _ => .nil
  | e :: l, h => by
    obtain ⟨x, tk, h1, _⟩ := h e List.mem_cons_self
    have ih := z_strs (l := l) fun y hy => h y (List.mem_cons_of_mem _ hy)
    rw [List.map_cons, List.map_cons, h1]
    have : zKey e = x := by unfold zKey; rw [h1]
    rw [this]
    exact .cons x tk ih
/-- sorted(set) -/
theorem z_sorted {Q : Value → Shared → Prop} (Z : ZSet P w s.heap a xs) (hh : A.handled = none) (h64 : xs.length < 64)
    (hQ : ∀ s' p (out : Array Value) (c : Nat) (ys : List Str), (∀ b o, s.heap.get? b = some o → s'.heap.get? b = some o) → s'.gens = s.gens → s'.os = s.os → s.heap.objs.size ≤ p →
      s'.heap.get? p = some (seqObj "list" out c) → StrsAre out.toList ys → ys.Perm xs → sortedS ys = true → Q (.ref p) s') :
    wpAny (model P w) A (call (.builtin "sorted") [.ref a]) Q E s := by
  obtain ⟨o, es, ep, t, ho, hex, hd, T⟩ := Z
  refine Calls.call_function_entry kind_sorted plain_sorted entry_sorted (args_sorted1 _) ?_
  unfold Builtin.«sorted»
  refine wpAny_bind (m := checkCount "sorted" 1 1 _) (wpAny_pure ?_)
  refine wpAny_bind (collect_set (A := A.in1) hh ⟨o, ho, hex.1, hd⟩ T.fits T.few T.ris T.led fun s1 vs k1 hz g1 o1 pm => ?_)
  have hvl : vs.length = xs.length := by rw [pm.length_eq, List.length_map, Array.length_toList, T.size]
  obtain ⟨zs, hS, hzs⟩ : ∃ zs, StrsAre vs zs ∧ zs.Perm xs := by
    have all : ∀ v ∈ vs, ∃ x tk, v = Value.str x tk := fun v hv => by
      obtain ⟨e, he, q⟩ := List.mem_map.mp (pm.mem_iff.mp hv)
      obtain ⟨x, tk, h1, _⟩ := T.el e he
      exact ⟨x, tk, by rw [← q]; exact h1⟩
    have mkS : ∀ l : List Value, (∀ v ∈ l, ∃ x tk, v = Value.str x tk) → StrsAre l (l.map fun v => zKey (0, v)) := by
      intro l
      induction l with
      | nil => intro _; exact .nil
      | cons v l ih =>
        intro h
        obtain ⟨x, tk, rfl⟩ := h v List.mem_cons_self
        exact .cons x tk (ih fun y hy => h y (List.mem_cons_of_mem _ hy))
    refine ⟨_, mkS vs all, ?_⟩
    have q := pm.map fun v => zKey (0, v)
    rw [List.map_map] at q
    exact q.trans T.pm
  refine wpAny_bind (wpAny_newList ?_ (by rw [hvl, sizeLine_eq]; omega))
  have hoL : (s1.heap.push (seqObj "list" vs.toArray 0)).get? s1.heap.objs.size = some (seqObj "list" vs.toArray 0) := Heap.get?_push_size _ rfl
  refine wpAny_bind (wpAny_holding (wpAny_call_entry slot_list_sort ⟨_, hoL, rfl⟩ entry_list_sort (list_sort_treeK strKind_oneLt hoL hS.keysOf (fun v₁ v₂ rest e => keyKind_strs (by rw [← e]; exact hS)) (by rw [hvl]; exact h64) fun st' hp hs => ?_) (args_list_sort _)))
  obtain ⟨ys, a1, a2, a3⟩ := sorted_out_str hS hp hs
  obtain ⟨c, hc⟩ := sortedHeap_at (vs := vs) (out := (arrOf st').map (·.2)) hoL
  refine ⟨_, rfl, wpAny_pure ⟨_, rfl, hQ _ s1.heap.objs.size _ c ys (fun b u e => ?_) g1 o1 hz hc a1 (a2.trans hzs) a3⟩⟩
  have q := k1 b u e
  have hlt := Heap.lt_size q
  show (sortedHeap (s1.heap.push (seqObj "list" vs.toArray 0)) s1.heap.objs.size vs _).get? b = some u
  rw [sortedHeap_old (Nat.ne_of_lt hlt) (by rw [size_push']; exact Nat.lt_succ_of_lt hlt)]
  exact Heap.get?_push_of_some _ q
end
section
variable {X : Cx}
/-- the rule: sorted(set(e)), e a list of texts -/
def tSrtSet (K : PySem.W.Frag) (ta : TE) : TE := fun σ H Q => ta σ H fun x H1 => ∃ (l : Addr) (xs : List Str), x = V.ref l ∧ SqL K H1 l (xs.map V.str) ∧ xs.length < 64 ∧
  ∀ (ys : List Str) (p : Addr), ys.Perm (zAll xs []) → sortedS ys = true → H1 p = none → Q (.ref p) (upd H1 p (.lst (ys.map V.str)))
theorem zAll_len (xs : List Str) : (zAll xs []).length ≤ xs.length := by have := zAll_le xs []; simpa using this
theorem pe_srtset {e : Expr} {ta : TE} {p p2 q pos : Pos} (hc : X.calm = true) (hg : Gl X "sorted") (hm : X.mg "sorted" = none) (hg2 : Gl X "set") (hm2 : X.mg "set" = none) (ha : PE X e ta)
    (na : starEach [e] X.env = (false, eval e X.env) :: starEach [] X.env) : PE X (.Call (.Name "sorted" p) [.Call (.Name "set" p2) [e] [] q] [] pos) (tSrtSet X.K ta) := by
  refine ⟨fun pins s σ H Q I h => ?_⟩
  refine Call_ (ld_blt I hg hm (show bootBuiltins ("sorted" : Str) = some (.builtin "sorted") from rfl) ?_)
  refine PyProof.Rows.callWith_builtin1 (PyProof.Rows.args_cons ?_ rfl) rfl rfl
  refine Call_ (ld_blt I hg2 hm2 PyProof.Rows.boot_set ?_)
  refine PyProof.Rows.callWith_type1 (PyProof.Rows.args_cons (thn (ha.run pins s σ H _ I h) fun v s1 ⟨x, H1, I1, r1, q1⟩ => PyProof.Rows.args_nil ?_) na) na rfl
  obtain ⟨l, xs, rfl, hq, h64, q1⟩ := q1
  cases r1
  obtain ⟨its, r, pl, hz⟩ := I1.list hq
  refine z_call (xs := xs) (I1.ok.hd hc) pl.isList (by simpa using r.strs) (by unfold scanBound; omega) fun h' tk hS hk => ?_
  have I2 : Inv X pins σ H1 { s1 with heap := h', toks := tk } := I1.kept fun b o e => hk b o e
  refine PyProof.Rows.args_nil ?_
  have hl := zAll_len xs
  have hh : X.A.handled = none := I1.ok.hd hc
  have hS2 : ZSet X.prog X.w ({ s1 with heap := h', toks := tk } : Shared).heap s1.heap.objs.size (zAll xs []) := hS
  generalize ({ s1 with heap := h', toks := tk } : Shared) = s2 at I2 hS2 ⊢
  refine z_sorted hS2 hh (by omega) fun s' p out c ys k g o hp hg hi pm so => ?_
  have hlen : (ys.map V.str).length ≤ sizeLine := by rw [List.length_map, pm.length_eq, sizeLine_eq]; omega
  have hn : H1 p = none := I2.hok.fresh hp
  have J : Inv X pins σ (upd H1 p (.lst (ys.map V.str))) { s2 with heap := s'.heap, gens := s'.gens, drawn := s'.drawn, toks := s'.toks } :=
    I2.call (ch := []) (Un.laid k hp hn) (I2.hok.laid k hp ⟨hlen, out.toList, c, vals_of_strs hi, hg⟩) (by rw [g]; exact I2.bare) (fun _ z => nomatch z)
  have e : s' = { s2 with heap := s'.heap, gens := s'.gens, drawn := s'.drawn, toks := s'.toks } := by
    cases s'
    cases s2
    cases o
    rfl
  rw [e]
  exact ⟨.ref p, _, J, rfl, q1 ys p pm so hn⟩
end
end Mi

set_option Elab.async false
set_option linter.all false
set_option maxRecDepth 100000
set_option maxHeartbeats 2000000
/-! Mi: readings one behind the other; the context of a body. -/
namespace Mi
open PySem PySem.Spec PyProof.Rows L2

section
variable {K : PySem.W.Frag} {E : EX} {T T1 : TR} {m m1 : List Addr} {O O1 : Labs} {H H1 : Hp} {ρ : Rho} {h : AH} {σ : L2.St} {Q : VK}
theorem rd_of_some {H : Hp} {a : Addr} (h : H a ≠ none) : ∃ u, Rd H a u := by
  cases e : H a with
  | none => exact absurd e h
  | some u => exact ⟨u, .inl e⟩
theorem rd_some {H : Hp} {a : Addr} {u : HO} (h : Rd H a u) : H a ≠ none := by
  rcases h with h | ⟨o, h⟩ <;> rw [h] <;> exact fun q => nomatch q
theorem Ext.stays (x : Ext m O H m1 O1 H1) {h1 : AH} (r1 : RH K m1 O1 H1 h1) {a : Addr} (n : H a ≠ none) : H1 a ≠ none := by
  cases e : O a with
  | un => rw [(x.un a e n).2]; exact n
  | fz =>
    obtain ⟨u, hu⟩ := rd_of_some n
    exact rd_some ((x.fz a e).2 u hu)
  | sl i => rw [(x.sl a i e).2]; exact n
  | ob k => exact r1.lab a (by rw [x.ob a k e]; exact fun q => nomatch q)
theorem Ext.was (x : Ext m O H m1 O1 H1) {h1 : AH} (r1 : RH K m1 O1 H1 h1) {a : Addr} (n : H1 a = none) : H a = none := by
  cases e : H a with
  | none => rfl
  | some u => exact absurd n (x.stays r1 (by rw [e]; exact fun q => nomatch q))
/-- how a value is told may be told from further back -/
def TMono (T : TR) : Prop := ∀ m' O' H' H0 H1 d fr v, (∀ p : Addr, H1 p = none → H0 p = none) → T m' O' H' H1 d fr v → T m' O' H' H0 d fr v
theorem FR.mono {m' : List Addr} {O' : Labs} {H' H0 H1 : Hp} {d : D} {v : V} (hn : ∀ p : Addr, H1 p = none → H0 p = none) (f : FR K m' O' H' H1 d v) : FR K m' O' H' H0 d v := by
  cases d with
  | lst l => obtain ⟨a, e, n, r⟩ := f; exact ⟨a, e, hn a n, r⟩
  | dct l => obtain ⟨a, e, n, r⟩ := f; exact ⟨a, e, hn a n, r⟩
  | dcT l => obtain ⟨a, e, n, r⟩ := f; exact ⟨a, e, hn a n, r⟩
  | _ => exact f
theorem tmX (pk : Bool) : TMono (TX K pk) := fun m' O' H' H0 H1 d fr v hn t => by
  unfold TX at t ⊢
  cases fr with
  | true => simp only [if_true] at t ⊢; exact t.mono hn
  | false => simpa using t
theorem tmV : TMono (TV K) := fun m' O' H' H0 H1 d fr v hn t => t
theorem tmP : TMono (TP K) := fun m' O' H' H0 H1 d fr v hn t => t
theorem Out.later {res : Res (D × Bool × AH)} {h1 : AH} (tm : TMono T) (o : Out K E T ρ σ m O H res Q) (x : Ext m O H m1 O1 H1) (r1 : R K m1 O1 H1 ρ h1 σ) : Out K E T ρ σ m1 O1 H1 res Q := by
  cases res with
  | stuck => exact o
  | exc e h' => exact fun m' O' H' x' r' => o m' O' H' (x.trans x') r'
  | ok p => exact fun m' O' H' v x' r' t => o m' O' H' v (x.trans x') r' (tm _ _ _ _ _ _ _ _ (fun p hp => x.was r1.st hp) t)
theorem OutA.later {res : Res (List D × AH)} {Q : List V → Hp → Prop} (o : OutA K E ρ σ m O H res Q) (x : Ext m O H m1 O1 H1) : OutA K E ρ σ m1 O1 H1 res Q := by
  cases res with
  | stuck => exact o
  | exc e h' => exact fun m' O' H' x' r' => o m' O' H' (x.trans x') r'
  | ok p => exact fun m' O' H' v x' r' t => o m' O' H' v (x.trans x') r' t
theorem OutT.later {res : Res (D × Bool × AH)} {Q : Bool → Hp → Prop} (o : OutT K E ρ σ m O H res Q) (x : Ext m O H m1 O1 H1) : OutT K E ρ σ m1 O1 H1 res Q := by
  cases res with
  | stuck => exact o
  | exc e h' => exact fun m' O' H' x' r' => o m' O' H' (x.trans x') r'
  | ok p =>
    obtain ⟨d, fr, h'⟩ := p
    cases d with
    | bl b => exact fun m' O' H' x' r' => o m' O' H' (x.trans x') r'
    | _ => exact o
/-- the rest behind an expression -/
structure Rest (K : PySem.W.Frag) (T1 : TR) (ρ : Rho) (σ : L2.St) (m : List Addr) (O : Labs) (H : Hp) (p : D × Bool × AH) (v : V) (H1 : Hp) (G : List Addr → Labs → Prop) : Prop where
  ex : ∃ m1 O1, Ext m O H m1 O1 H1 ∧ R K m1 O1 H1 ρ p.2.2 σ ∧ T1 m1 O1 H1 H p.1 p.2.1 v ∧ G m1 O1
theorem Out.seq {r1 : Res (D × Bool × AH)} {k : D × Bool × AH → Res (D × Bool × AH)} (tm : TMono T) (o : Out K E T ρ σ m O H (r1.bind k) Q) :
    Out K E T1 ρ σ m O H r1 fun v H1 => ∃ p, r1 = .ok p ∧ Rest K T1 ρ σ m O H p v H1 fun m1 O1 => Out K E T ρ σ m1 O1 H1 (k p) Q := by
  cases r1 with
  | stuck => exact o
  | exc e h' => exact o
  | ok p => exact fun m' O' H' v x' r' t => ⟨p, rfl, ⟨m', O', x', r', t, Out.later tm o x' r'⟩⟩
theorem Out.imp {res : Res (D × Bool × AH)} {Q' : VK} (o : Out K E T ρ σ m O H res Q) (w : ∀ v H', Q v H' → Q' v H') : Out K E T ρ σ m O H res Q' := by
  cases res with
  | stuck => exact o
  | exc e h' => exact o
  | ok p => exact fun m' O' H' v x' r' t => w _ _ (o m' O' H' v x' r' t)
/-- an expression, then what hands back a list of values -/
theorem OutA.seq {r1 : Res (D × Bool × AH)} {k : D × Bool × AH → Res (List D × AH)} {Q : List V → Hp → Prop} (o : OutA K E ρ σ m O H (r1.bind k) Q) :
    Out K E T1 ρ σ m O H r1 fun v H1 => ∃ p, r1 = .ok p ∧ Rest K T1 ρ σ m O H p v H1 fun m1 O1 => OutA K E ρ σ m1 O1 H1 (k p) Q := by
  cases r1 with
  | stuck => exact o
  | exc e h' => exact o
  | ok p => exact fun m' O' H' v x' r' t => ⟨p, rfl, ⟨m', O', x', r', t, OutA.later o x'⟩⟩
/-- a list of values, then an expression -/
structure RestA (K : PySem.W.Frag) (ρ : Rho) (σ : L2.St) (m : List Addr) (O : Labs) (H : Hp) (p : List D × AH) (vs : List V) (H1 : Hp) (G : List Addr → Labs → Prop) : Prop where
  ex : ∃ m1 O1, Ext m O H m1 O1 H1 ∧ R K m1 O1 H1 ρ p.2 σ ∧ VRs K m1 O1 H1 p.1 vs ∧ G m1 O1
theorem Out.seqA {r1 : Res (List D × AH)} {k : List D × AH → Res (D × Bool × AH)} (tm : TMono T) (o : Out K E T ρ σ m O H (r1.bind k) Q) :
    OutA K E ρ σ m O H r1 fun vs H1 => ∃ p, r1 = .ok p ∧ RestA K ρ σ m O H p vs H1 fun m1 O1 => Out K E T ρ σ m1 O1 H1 (k p) Q := by
  cases r1 with
  | stuck => exact o
  | exc e h' => exact o
  | ok p => exact fun m' O' H' v x' r' t => ⟨p, rfl, ⟨m', O', x', r', t, Out.later tm o x' r'⟩⟩
theorem OutA.seqA {r1 : Res (List D × AH)} {k : List D × AH → Res (List D × AH)} {Q : List V → Hp → Prop} (o : OutA K E ρ σ m O H (r1.bind k) Q) :
    OutA K E ρ σ m O H r1 fun vs H1 => ∃ p, r1 = .ok p ∧ RestA K ρ σ m O H p vs H1 fun m1 O1 => OutA K E ρ σ m1 O1 H1 (k p) Q := by
  cases r1 with
  | stuck => exact o
  | exc e h' => exact o
  | ok p => exact fun m' O' H' v x' r' t => ⟨p, rfl, ⟨m', O', x', r', t, OutA.later o x'⟩⟩
theorem Out.seqT {r1 : Res (D × Bool × AH)} {k : Bool → AH → Res (D × Bool × AH)} (tm : TMono T) (o : Out K E T ρ σ m O H (r1.bind (boolK k)) Q) :
    OutT K E ρ σ m O H r1 fun b H1 => ∃ m1 O1 h1, Ext m O H m1 O1 H1 ∧ R K m1 O1 H1 ρ h1 σ ∧ Out K E T ρ σ m1 O1 H1 (k b h1) Q := by
  cases r1 with
  | stuck => exact o
  | exc e h' => exact o
  | ok p =>
    obtain ⟨d, fr, h'⟩ := p
    cases d with
    | bl b => exact fun m' O' H' x' r' => ⟨m', O', h', x', r', Out.later tm o x' r'⟩
    | _ => exact o
theorem OutT.seqT {r1 : Res (D × Bool × AH)} {k : Bool → AH → Res (D × Bool × AH)} {Q : Bool → Hp → Prop} (o : OutT K E ρ σ m O H (r1.bind (boolK k)) Q) :
    OutT K E ρ σ m O H r1 fun b H1 => ∃ m1 O1 h1, Ext m O H m1 O1 H1 ∧ R K m1 O1 H1 ρ h1 σ ∧ OutT K E ρ σ m1 O1 H1 (k b h1) Q := by
  cases r1 with
  | stuck => exact o
  | exc e h' => exact o
  | ok p =>
    obtain ⟨d, fr, h'⟩ := p
    cases d with
    | bl b => exact fun m' O' H' x' r' => ⟨m', O', h', x', r', OutT.later o x'⟩
    | _ => exact o
theorem OutT.seq {r1 : Res (D × Bool × AH)} {k : D × Bool × AH → Res (D × Bool × AH)} {Q : Bool → Hp → Prop} (o : OutT K E ρ σ m O H (r1.bind k) Q) :
    Out K E T1 ρ σ m O H r1 fun v H1 => ∃ p, r1 = .ok p ∧ Rest K T1 ρ σ m O H p v H1 fun m1 O1 => OutT K E ρ σ m1 O1 H1 (k p) Q := by
  cases r1 with
  | stuck => exact o
  | exc e h' => exact o
  | ok p => exact fun m' O' H' v x' r' t => ⟨p, rfl, ⟨m', O', x', r', t, OutT.later o x'⟩⟩
end

/-! ### what a def promises, by the interpreter -/
abbrev XRel := Exn → Value → Option Addr → Hp → Prop
def NoSl (O : Labs) : Prop := ∀ a i, O a ≠ .sl i
def spOf (K : PySem.W.Frag) (XR : XRel) (n : Nat) (r : List D → AH → Res (D × Bool × AH)) : Sp := fun vs H Q E => vs.length = n ∧ ∃ m O h ds, NoSl O ∧ RH K m O H h ∧ VRs K m O H ds vs ∧ match r ds h with
  | .ok p => ∀ m' O' H' v, Ext m O H m' O' H' → NoSl O' → RH K m' O' H' p.2.2 → TX K false m' O' H' H p.1 p.2.1 v → Q v H'
  | .exc x h' => ∀ m' O' H' cls dd, Ext m O H m' O' H' → NoSl O' → RH K m' O' H' h' → XR x cls dd H' → E cls dd H'
  | .stuck => False
/-- how an error is wished for -/
def EW (XR : XRel) (W : WX) : EX := fun x _ _ H _ σ => ∀ cls dd, XR x cls dd H → W cls dd σ H
/-- slots' labels hidden from a callee -/
def hideS (O : Labs) : Labs := fun a => match O a with
  | .sl _ => .un
  | l => l
def showS (O O' : Labs) : Labs := fun a => match O a with
  | .sl i => .sl i
  | _ => O' a
section
variable {K : PySem.W.Frag} {m m' : List Addr} {O O' : Labs} {H H' : Hp} {ρ : Rho} {h h' : AH} {σ : L2.St}
theorem hideS_no (O : Labs) : NoSl (hideS O) := fun a i e => by
  unfold hideS at e
  cases q : O a <;> rw [q] at e <;> simp at e
theorem hideS_fz {O : Labs} {a : Addr} (h : O a = .fz) : hideS O a = .fz := by unfold hideS; rw [h]
theorem hideS_un {O : Labs} {a : Addr} (h : O a = .un) : hideS O a = .un := by unfold hideS; rw [h]
theorem hideS_ob {O : Labs} {a : Addr} {n : Nat} (h : O a = .ob n) : hideS O a = .ob n := by unfold hideS; rw [h]
theorem hideS_sl {O : Labs} {a : Addr} {n : Nat} (h : O a = .sl n) : hideS O a = .un := by unfold hideS; rw [h]
theorem keep_hide : Keep m O H m (hideS O) H := ⟨fun _ _ z => z, fun a h => ⟨hideS_fz h, fun _ q => q⟩⟩
theorem RH.hide (r : RH K m O H h) : RH K m (hideS O) H h := by
  refine ⟨fun a ha => r.lab a fun e => ha (hideS_un e), r.len, fun n d e => ?_⟩
  obtain ⟨a, h1, h2, h3⟩ := r.obj n d e
  exact ⟨a, h1, hideS_ob h2, h3.keep keep_hide rfl⟩
theorem Ext.shown (x : Ext m (hideS O) H m' O' H') (n : NoSl O') (r : RH K m O H h) : Ext m O H m' (showS O O') H' := by
  have other : ∀ a, (∀ i, O a ≠ .sl i) → showS O O' a = O' a := fun a ha => by
    unfold showS
    cases q : O a with
    | sl i => exact absurd q (ha i)
    | _ => rfl
  refine ⟨x.pre, fun a ha => ?_, fun a i ha => ?_, fun a ha hn => ?_, fun a k ha => ?_⟩
  · obtain ⟨h1, h2⟩ := x.fz a (hideS_fz ha)
    exact ⟨by rw [other a fun i e => by rw [ha] at e; cases e]; exact h1, h2⟩
  · obtain ⟨h1, h2⟩ := x.un a (hideS_sl ha) (r.lab a (by rw [ha]; exact fun q => nomatch q))
    exact ⟨by unfold showS; rw [ha], h2⟩
  · obtain ⟨h1, h2⟩ := x.un a (hideS_un ha) hn
    exact ⟨by rw [other a fun i e => by rw [ha] at e; cases e]; exact h1, h2⟩
  · rw [other a fun i e => by rw [ha] at e; cases e]
    exact x.ob a k (hideS_ob ha)
theorem keep_show (x : Ext m (hideS O) H m' O' H') (r : RH K m O H h) : Keep m' O' H' m' (showS O O') H' := by
  refine ⟨fun _ _ z => z, fun a ha => ⟨?_, fun _ q => q⟩⟩
  unfold showS
  cases q : O a with
  | sl i =>
    have := (x.un a (hideS_sl q) (r.lab a (by rw [q]; exact fun q => nomatch q))).1
    rw [ha] at this
    cases this
  | _ => exact ha
theorem R.shown (r : R K m O H ρ h σ) (x : Ext m (hideS O) H m' O' H') (n : NoSl O') (r' : RH K m' O' H' h') : R K m' (showS O O') H' ρ h' σ := by
  have xs := x.shown n r.st
  have ks := keep_show x r.st
  refine ⟨⟨fun a ha => ?_, r'.len, fun k d e => ?_⟩, r.len, fun i s v e1 e2 => (r.sl i s v e1 e2).keep xs.keep (xs.sl · i)⟩
  · unfold showS at ha
    cases q : O a with
    | sl i => rw [(xs.sl a i q).2]; exact r.st.lab a (by rw [q]; exact fun q => nomatch q)
    | un => rw [q] at ha; exact r'.lab a ha
    | fz => rw [q] at ha; exact r'.lab a ha
    | ob k => rw [q] at ha; exact r'.lab a ha
  · obtain ⟨a, h1, h2, h3⟩ := r'.obj k d e
    refine ⟨a, h1, ?_, h3.keep ks rfl⟩
    unfold showS
    cases q : O a with
    | sl i =>
      have := (x.un a (hideS_sl q) (r.st.lab a (by rw [q]; exact fun q => nomatch q))).1
      rw [h2] at this
      cases this
    | _ => exact h2
theorem TX.shown {d : D} {fr : Bool} {v : V} (t : TX K false m' O' H' H d fr v) (x : Ext m (hideS O) H m' O' H') (r : RH K m O H h) : TX K false m' (showS O O') H' H d fr v := by
  have ks := keep_show x r
  unfold TX at t ⊢
  cases fr with
  | false =>
    simp only [Bool.false_eq_true, if_false] at t ⊢
    exact VR.keep ks _ _ t
  | true =>
    simp only [if_true] at t ⊢
    have un : ∀ a, H a = none → O' a = .un → showS O O' a = .un := fun a ha hu => by
      unfold showS
      rw [r.un ha]
      exact hu
    cases d with
    | lst l => obtain ⟨a, e, hn, hu, c⟩ := t; exact ⟨a, e, hn, un a hn hu, c.keep ks rfl⟩
    | dct l => obtain ⟨a, e, hn, hu, c⟩ := t; exact ⟨a, e, hn, un a hn hu, c.keep ks rfl⟩
    | dcT l => obtain ⟨a, e, hn, hu, c⟩ := t; exact ⟨a, e, hn, un a hn hu, c.keep ks rfl⟩
    | non => exact VR.keep ks _ _ t
    | bl b => exact VR.keep ks _ _ t
    | int b => exact VR.keep ks _ _ t
    | str b => exact VR.keep ks _ _ t
    | tup b => exact VR.keep ks _ _ t
    | ref b => exact VR.keep ks _ _ t
    | scr b => exact VR.keep ks _ _ t
/-- a def's promise at a call -/
theorem call_ok {XR : XRel} {W : WX} {n : Nat} {r : List D → AH → Res (D × Bool × AH)} {ds : List D} {vs : List V} {Q : VK} (rr : R K m O H ρ h σ) (hv : VRs K m O H ds vs) (hl : vs.length = n)
    (o : Out K (EW XR W) (TX K false) ρ σ m O H (r ds h) Q) : spOf K XR n r vs H Q (fun cls d H => W cls d σ H) := by
  refine ⟨hl, m, hideS O, h, ds, hideS_no O, rr.st.hide, VRs.keep keep_hide _ _ hv, ?_⟩
  cases e : r ds h with
  | stuck => rw [e] at o; exact o
  | exc x h' =>
    rw [e] at o
    exact fun m' O' H' cls dd x' n' r' xr => o m' _ H' (x'.shown n' rr.st) (rr.shown x' n' r') cls dd xr
  | ok p =>
    rw [e] at o
    exact fun m' O' H' v x' n' r' t => o m' _ H' v (x'.shown n' rr.st) (rr.shown x' n' r') (t.shown x' rr.st)
end
end Mi

set_option Elab.async false
set_option linter.all false
set_option maxRecDepth 100000
set_option maxHeartbeats 2000000
/-! Mi: what is walked; comprehensions. -/
namespace Mi
open PySem PySem.Spec PyProof.Rows L2

theorem PI.pick {X : Cx} {tg e : Expr} {t' : TI} (w : ∀ σ H Q, t' σ H Q → ∃ t, PI X tg e t ∧ t σ H Q) : PI X tg e t' := ⟨fun pins s σ H Q I q => by
  obtain ⟨t, p, z⟩ := w σ H Q q
  exact p.run pins s σ H Q I z⟩
/-- what a walk gives, told -/
structure Src (K : PySem.W.Frag) (m : List Addr) (O : Labs) (H : Hp) (J : L2.It) (l : List D) : Prop where
  ex : ∃ (G : Hp → Prop) (Y : Nat → Hp → V → Hp → Prop), Walk J l.length G Y ∧ (∀ m' O' H', Keep m O H m' O' H' → G H') ∧
    ∀ m' O' H' i x H'', Keep m O H m' O' H' → Y i H' x H'' → H'' = H' ∧ ∃ d, l[i]? = some d ∧ VR K m' O' H' d x
def EVI (K : PySem.W.Frag) (E : EX) (r : Rho → AH → Res (List D × AH)) : TI := fun σ H Q => ∃ m O h ρ, R K m O H ρ h σ ∧ match r ρ h with
  | .ok p => ∀ m' O' H' (J : L2.It), Ext m O H m' O' H' → R K m' O' H' ρ p.2 σ → Src K m' O' H' J p.1 → Q J H'
  | .exc x h' => ∀ m' O' H', Ext m O H m' O' H' → R K m' O' H' ρ h' σ → E x m' O' H' h' σ
  | .stuck => False
/-- over a dict's keys: it is locked, and stays so -/
def iKeysL (td : TE) : TI := fun σ H R => td σ H fun x H1 => ∃ d kvs, x = .ref d ∧ ((H1 d = some (.dK kvs) ∧ ∀ o, R (Itk d o kvs) (upd H1 d (.frz o (.dK kvs)))) ∨ ∃ o, H1 d = some (.frz o (.dK kvs)) ∧ R (Itk d o kvs) H1)
theorem pi_keysL {X : Cx} {tg e : Expr} {td : TE} (he : PE X e td) : PI X tg e (iKeysL td) := by
  refine ⟨fun pins s σ H R I h => ?_⟩
  refine thn (he.run pins s σ H _ I h) fun u s1 ⟨x, H1, I1, rx, d, kvs, ex, q⟩ => ?_
  subst ex
  obtain rfl : u = Value.ref d := rx
  have go : ∀ (o : Obj) (H2 : Hp) (I2 : Inv X pins σ H2 s1), H2 d = some (.frz o (.dK kvs)) → R (Itk d o kvs) H2 → wpAny (model X.prog X.w) X.A (pyIter (.ref d)) (PIE X pins σ tg R) X.xe s1 := by
    intro o H2 I2 hd q2
    obtain ⟨hs, hgd, hx, es, ep, vs, hdt, hsz, kv, hm⟩ := I2.frzK hd
    refine iter_keys hs hgd hx hdt (pi_one (tk := s1.toks) I2 _ (turn_keys _ hdt) ⟨_, Heap.get?_push_size _ rfl, rfl, ?_⟩ q2)
    rw [hsz] <;> rfl
  rcases q with ⟨hd, q⟩ | ⟨o, hd, q⟩
  · obtain ⟨od, I2⟩ := I1.lock hd True.intro
    exact go od _ I2 upd_same (q od)
  · exact go o H1 I1 hd q

section
variable {K : PySem.W.Frag} {E : EX} {m : List Addr} {O : Labs} {H : Hp} {ρ : Rho} {h : AH} {σ : L2.St} {X : Cx}
/-- a frozen dict is locked -/
theorem lock_ext {d : Addr} {o : Obj} {kvs : List (Key × V)} (od : O d = .fz) (hd : H d = some (.dK kvs)) : Ext m O H m O (upd H d (.frz o (.dK kvs))) := by
  refine ⟨⟨[], by simp⟩, fun a ha => ⟨ha, fun w q => ?_⟩, fun a i ha => ⟨ha, upd_ne fun e => by rw [e, od] at ha; cases ha⟩, fun a ha _ => ⟨ha, upd_ne fun e => by rw [e, od] at ha; cases ha⟩, fun _ _ z => z⟩
  by_cases e : a = d
  · subst e
    rcases q with q | ⟨o', q⟩
    · rw [hd] at q
      cases q
      exact Or.inr ⟨o, upd_same⟩
    · rw [hd] at q; cases q
  · rcases q with q | ⟨o', q⟩
    · exact Or.inl (by rw [upd_ne e]; exact q)
    · exact Or.inr ⟨o', by rw [upd_ne e]; exact q⟩
theorem R.lock (r : R K m O H ρ h σ) {d : Addr} {o : Obj} {kvs : List (Key × V)} (od : O d = .fz) (hd : H d = some (.dK kvs)) : R K m O (upd H d (.frz o (.dK kvs))) ρ h σ :=
  r.ext (lock_ext od hd) (fun a ha => upd_some (r.st.lab a ha)) fun a n ha => upd_ne fun e => by rw [e, od] at ha; cases ha
/-- what stands behind a frozen address stays to be read -/
theorem Ext.rd {m' : List Addr} {O' : Labs} {H' : Hp} (x : Ext m O H m' O' H') {a : Addr} {u : HO} (o : O a = .fz) (h : Rd H a u) : Rd H' a u := (x.fz a o).2 u h
theorem Keep.rd {m' : List Addr} {O' : Labs} {H' : Hp} (x : Keep m O H m' O' H') {a : Addr} {u : HO} (o : O a = .fz) (h : Rd H a u) : Rd H' a u := (x.fz a o).2 u h
theorem Keep.trans {m' m'' : List Addr} {O' O'' : Labs} {H' H'' : Hp} (x : Keep m O H m' O' H') (y : Keep m' O' H' m'' O'' H'') : Keep m O H m'' O'' H'' :=
  ⟨fun n a h => y.mg n a (x.mg n a h), fun a h => ⟨(y.fz a (x.fz a h).1).1, fun u q => (y.fz a (x.fz a h).1).2 u ((x.fz a h).2 u q)⟩⟩
theorem FT.keep {m' : List Addr} {O' : Labs} {H' : Hp} (x : Keep m O H m' O' H') {a : Addr} {xs : List V} (h : FT K O H a xs) : FT K O' H' a xs := h.imp (fun z => ⟨(x.fz a z.1).1, x.rd z.1 z.2⟩) id
theorem FT.ext {m' : List Addr} {O' : Labs} {H' : Hp} (x : Ext m O H m' O' H') {a : Addr} {xs : List V} (h : FT K O H a xs) : FT K O' H' a xs := h.imp (fun z => ⟨(x.fz a z.1).1, x.rd z.1 z.2⟩) id

/-- for x in e, whatever e is -/
theorem pi_over {tg e : Expr} {r : Rho → AH → Res (D × Bool × AH)} (hX : X.K = K) (he : PE X e (EV K E (TV K) r)) :
    PI X tg e (EVI K E fun ρ h => (r ρ h).bind fun p => match items p.1 with | some l => .ok (l, p.2.2) | none => .stuck) := by
  subst hX
  refine PI.pick fun σ H Q ⟨m, O, h, ρ, rr, o⟩ => ?_
  dsimp only at o
  have base : ∀ (G : V → Hp → Prop), (∀ p, r ρ h = .ok p → ∀ m' O' H' v, Ext m O H m' O' H' → R X.K m' O' H' ρ p.2.2 σ → VR X.K m' O' H' p.1 v → G v H') → EV X.K E (TV X.K) r σ H G := fun G hG => by
    refine ⟨m, O, h, ρ, rr, ?_⟩
    cases e1 : r ρ h with
    | stuck => rw [e1] at o; exact o
    | exc x h' => rw [e1] at o; exact o
    | ok p => exact fun m' O' H' v x' r' t => hG p e1 m' O' H' v x' r' t
  cases e1 : r ρ h with
  | stuck => rw [e1] at o; exact o.elim
  | exc x h' => exact ⟨_, pi_list he, base _ fun p e2 => by rw [e1] at e2; cases e2⟩
  | ok p =>
    rw [e1] at o
    obtain ⟨d, fr, h'⟩ := p
    cases d with
    | lst l =>
      refine ⟨_, pi_list he, base _ fun p e2 m' O' H' v x' r' t => ?_⟩
      rw [e1] at e2; cases e2
      unfold VR at t
      obtain ⟨a, xs, rfl, od, ha, va⟩ := t
      refine ⟨a, rfl, ⟨xs, .inl ha⟩, o m' O' H' _ x' r' ⟨fun H => SqL X.K H a xs, YAt xs, by rw [va.length]; exact walk_list, fun m2 O2 H2 x2 => .inl (x2.rd od ha), fun m2 O2 H2 i y H3 x2 hy => ⟨hy.1, ?_⟩⟩⟩
      exact (VRs.keep x2 _ _ va).get hy.2
    | tup l =>
      refine ⟨_, pi_tup he, base _ fun p e2 m' O' H' v x' r' t => ?_⟩
      rw [e1] at e2; cases e2
      unfold VR at t
      obtain ⟨a, xs, rfl, ha, va⟩ := t
      refine ⟨a, rfl, ⟨xs, ha.sq⟩, o m' O' H' _ x' r' ⟨fun H => SqT X.K H a xs, YAt xs, by rw [va.length]; exact walk_tup, fun m2 O2 H2 x2 => (ha.keep x2).sq, fun m2 O2 H2 i y H3 x2 hy => ⟨hy.1, ?_⟩⟩⟩
      exact (VRs.keep x2 _ _ va).get hy.2
    | scr l =>
      refine ⟨_, pi_list he, base _ fun p e2 m' O' H' v x' r' t => ?_⟩
      rw [e1] at e2; cases e2
      unfold VR at t
      obtain ⟨a, rfl, ha⟩ := t
      refine ⟨a, rfl, ⟨_, ha.sq⟩, o m' O' H' _ x' r' ⟨fun H => SqL X.K H a (l.map V.int), YAt (l.map V.int), by rw [List.length_map]; have := walk_list (K := X.K) (a := a) (xs := l.map V.int); rwa [List.length_map] at this,
        fun m2 O2 H2 x2 => (show SL X.K O2 H2 a _ from ha.imp (fun z => ⟨(x2.fz a z.1).1, x2.rd z.1 z.2⟩) id).sq, fun m2 O2 H2 i y H3 x2 hy => ⟨hy.1, ?_⟩⟩⟩
      have q := hy.2
      rw [List.getElem?_map] at q
      obtain ⟨k, e3, e4⟩ := Option.map_eq_some_iff.mp q
      exact ⟨.int k, by rw [List.getElem?_map, e3]; rfl, by rw [← e4]; exact VR.i k⟩
    | str z =>
      refine ⟨_, pi_str he, base _ fun p e2 m' O' H' v x' r' t => ?_⟩
      rw [e1] at e2; cases e2
      unfold VR at t
      refine ⟨z, t, o m' O' H' _ x' r' ⟨fun _ => True, fun i H v H' => H' = H ∧ ∃ c, z.cps[i]? = some c ∧ v = .str ⟨#[c]⟩, ?_, fun _ _ _ _ => True.intro, fun m2 O2 H2 i y H3 x2 hy => ⟨hy.1, ?_⟩⟩⟩
      · show Walk _ (z.cps.toList.map _).length _ _
        rw [List.length_map, Array.length_toList]
        exact walk_str
      · obtain ⟨c, h1, h2⟩ := hy.2
        refine ⟨.str ⟨#[c]⟩, ?_, by rw [h2]; exact VR.s _⟩
        rw [List.getElem?_map, Array.getElem?_toList, h1]
        rfl
    | dct l =>
      refine ⟨_, pi_keysL he, base _ fun p e2 m' O' H' v x' r' t => ?_⟩
      rw [e1] at e2; cases e2
      unfold VR at t
      obtain ⟨a, kvs, rfl, od, ha, va⟩ := t
      have src : ∀ (ob : Obj) (H2 : Hp), Ext m' O' H' m' O' H2 → H2 a = some (.frz ob (.dK kvs)) → R X.K m' O' H2 ρ h' σ → Q (Itk a ob kvs) H2 := fun ob H2 x2 hf r2 => by
        refine o m' O' H2 _ (x'.trans x2) r2 ⟨fun H => H a = some (.frz ob (.dK kvs)), fun i H x H' => H' = H ∧ ∃ k v, kvs[i]? = some (k, v) ∧ x = kV k, ?_, fun m3 O3 H3 x3 => ?_, fun m3 O3 H3 i y H4 x3 hy => ⟨hy.1, ?_⟩⟩
        · show Walk _ (l.map _).length _ _
          rw [List.length_map, va.length]
          exact walk_keys
        · rcases x3.rd od (.inr ⟨ob, hf⟩ : Rd H2 a (.dK kvs)) with z | ⟨o2, z⟩
          · exact absurd ((x3.fz a od).2 (.frz ob (.dK kvs)) (.inl hf)) (fun q => by
              rcases q with q | ⟨o3, q⟩ <;> rw [z] at q <;> cases q)
          · rcases (x3.fz a od).2 (.frz ob (.dK kvs)) (.inl hf) with q | ⟨o3, q⟩
            · exact q
            · rw [z] at q; cases q
        · obtain ⟨k, v, h1, h2⟩ := hy.2
          have q := VRs.keysK (VRk.keep (x2.keep.trans x3) _ _ va)
          have e5 : (kvs.map fun p => kV p.1)[i]? = some (kV k) := by rw [List.getElem?_map, h1]; rfl
          obtain ⟨d', e6, e7⟩ := q.get e5
          exact ⟨d', e6, by rw [h2]; exact e7⟩
      refine ⟨a, kvs, rfl, ?_⟩
      rcases ha with ha | ⟨ob, ha⟩
      · exact .inl ⟨ha, fun ob => src ob _ (lock_ext od ha) upd_same (r'.lock od ha)⟩
      · exact .inr ⟨ob, ha, src ob H' .refl ha r'⟩
    | _ => exact False.elim o
/-- for i in range(..) -/
theorem pi_rng1 {tg a : Expr} {p pos : Pos} {r : Rho → AH → Res (List D × AH)} (hX : X.K = K) (hg : Gl X "range") (hm : X.mg "range" = none) (ha : PA X [a] (EVA K E r)) (hs : starEach [a] X.env = [(false, eval a X.env)]) (h1 : ∀ ρ h p, r ρ h = .ok p → p.1.length = 1) :
    PI X tg (.Call (.Name "range" p) [a] [] pos) (EVI K E fun ρ h => (r ρ h).bind fun p => (rng p.1).bind fun l => .ok (l, p.2)) := by
  refine PI.pick fun σ H Q ⟨m, O, h, ρ, rr, o⟩ => ⟨_, pi_range1 hg hm ha hs, m, O, h, ρ, rr, ?_⟩
  dsimp only at o
  cases e1 : r ρ h with
  | stuck => rw [e1] at o; exact o
  | exc x h' => rw [e1] at o; exact o
  | ok p =>
    have hl := h1 ρ h p e1
    rw [e1] at o
    obtain ⟨ds, h'⟩ := p
    match ds, hl with
    | [d], _ =>
      intro m' O' H' vs x' r' t
      simp only [VRs_cons, VRs_nil] at t
      obtain ⟨v, _, rfl, q, rfl⟩ := t
      cases d with
      | int j =>
        unfold VR at q
        subst q
        simp only [Res.bind_ok, rng, guard'] at o
        by_cases b : -(2 ^ 62) ≤ j ∧ j < 2 ^ 62
        · rw [decide_eq_true b] at o
          simp only [if_true, Res.bind_ok] at o
          refine ⟨j, rfl, b.1, b.2, o m' O' H' _ x' r' ⟨fun _ => True, fun i H v H' => (H' = H ∧ v = .int (0 + i)) ∧ i < j.toNat, ?_, fun _ _ _ _ => True.intro, fun m2 O2 H2 i y H3 x2 hy => ⟨hy.1.1, ?_⟩⟩⟩
          · show Walk _ (rangeL 0 j.toNat).length _ (fun i H v H' => (H' = H ∧ v = .int (0 + i)) ∧ i < j.toNat)
            unfold rangeL
            rw [List.length_map, List.length_range]
            exact ⟨walk_range.goes, walk_range.stops, fun i H v H' hi g y => ⟨walk_range.yields i H v H' hi g y, hi⟩⟩
          · obtain ⟨⟨_, hv⟩, hi⟩ := hy
            exact ⟨.int (0 + (i : Nat)), by unfold rangeL; rw [List.getElem?_map, List.getElem?_range hi]; rfl, by rw [hv]; exact VR.i _⟩
        · rw [decide_eq_false b] at o
          simp at o
      | _ => simp [rng] at o
theorem pi_rng2 {tg a b : Expr} {p pos : Pos} {r : Rho → AH → Res (List D × AH)} (hX : X.K = K) (hg : Gl X "range") (hm : X.mg "range" = none) (ha : PA X [a, b] (EVA K E r)) (hs : starEach [a, b] X.env = [(false, eval a X.env), (false, eval b X.env)]) (hs2 : starEach [b] X.env = [(false, eval b X.env)]) (h1 : ∀ ρ h p, r ρ h = .ok p → p.1.length = 2) :
    PI X tg (.Call (.Name "range" p) [a, b] [] pos) (EVI K E fun ρ h => (r ρ h).bind fun p => (rng p.1).bind fun l => .ok (l, p.2)) := by
  refine PI.pick fun σ H Q ⟨m, O, h, ρ, rr, o⟩ => ⟨_, pi_range2 hg hm ha hs hs2, m, O, h, ρ, rr, ?_⟩
  dsimp only at o
  cases e1 : r ρ h with
  | stuck => rw [e1] at o; exact o
  | exc x h' => rw [e1] at o; exact o
  | ok p =>
    have hl := h1 ρ h p e1
    rw [e1] at o
    obtain ⟨ds, h'⟩ := p
    match ds, hl with
    | [c, d], _ =>
      intro m' O' H' vs x' r' t
      simp only [VRs_cons, VRs_nil] at t
      obtain ⟨v, _, rfl, q, v2, _, rfl, q2, rfl⟩ := t
      cases c with
      | int i0 =>
        cases d with
        | int j =>
          unfold VR at q q2
          subst q; subst q2
          simp only [Res.bind_ok, rng, guard'] at o
          by_cases b : -(2 ^ 62) ≤ i0 ∧ i0 < 2 ^ 62 ∧ -(2 ^ 62) ≤ j ∧ j < 2 ^ 62
          · rw [decide_eq_true b] at o
            simp only [if_true, Res.bind_ok] at o
            refine ⟨i0, j, rfl, b, o m' O' H' _ x' r' ⟨fun _ => True, fun i H v H' => (H' = H ∧ v = .int (i0 + i)) ∧ i < (j - i0).toNat, ?_, fun _ _ _ _ => True.intro, fun m2 O2 H2 i y H3 x2 hy => ⟨hy.1.1, ?_⟩⟩⟩
            · show Walk _ (rangeL i0 (j - i0).toNat).length _ (fun i H v H' => (H' = H ∧ v = .int (i0 + i)) ∧ i < (j - i0).toNat)
              unfold rangeL
              rw [List.length_map, List.length_range]
              exact ⟨walk_range.goes, walk_range.stops, fun i H v H' hi g y => ⟨walk_range.yields i H v H' hi g y, hi⟩⟩
            · obtain ⟨⟨_, hv⟩, hi⟩ := hy
              exact ⟨.int (i0 + (i : Nat)), by unfold rangeL; rw [List.getElem?_map, List.getElem?_range hi]; rfl, by rw [hv]; exact VR.i _⟩
          · rw [decide_eq_false b] at o
            simp at o
        | _ => simp [rng] at o
      | _ => simp [rng] at o
end
end Mi

set_option Elab.async false
set_option linter.all false
set_option maxRecDepth 100000
set_option maxHeartbeats 2000000
/-! Mi: comprehensions. -/
namespace Mi
open PySem PySem.Spec PyProof.Rows L2

section
variable {K : PySem.W.Frag} {E E' : EX} {m m1 : List Addr} {O O1 : Labs} {H H1 : Hp} {ρ ρ1 : Rho} {h h1 : AH} {σ : L2.St} {X : Cx}
/-- the slots are told further on -/
theorem R.later (r : R K m O H ρ h σ) (x : Ext m O H m1 O1 H1) (r1 : RH K m1 O1 H1 h1) : R K m1 O1 H1 ρ h1 σ :=
  ⟨r1, r.len, fun i s v e1 e2 => (r.sl i s v e1 e2).keep x.keep (x.sl · i)⟩
theorem Keep.updUn {D : Addr} {o : HO} (un : O D = .un) : Keep m O H m O (upd H D o) := by
  refine ⟨fun _ _ z => z, fun a ha => ⟨ha, fun u q => ?_⟩⟩
  have ne : a ≠ D := fun e => by rw [e, un] at ha; cases ha
  rcases q with q | ⟨o', q⟩
  · exact .inl (by rw [upd_ne ne]; exact q)
  · exact .inr ⟨o', by rw [upd_ne ne]; exact q⟩
theorem RH.updUn {D : Addr} {o : HO} (r : RH K m O H h) (un : O D = .un) : RH K m O (upd H D o) h := by
  refine ⟨fun a ha => ?_, r.len, fun n d e => ?_⟩
  · rw [upd_ne fun e => ha (by rw [e]; exact un)]; exact r.lab a ha
  · obtain ⟨a, h1, h2, h3⟩ := r.obj n d e
    exact ⟨a, h1, h2, h3.keep (Keep.updUn un) (upd_ne fun e => by rw [e, un] at h2; cases h2)⟩
theorem Ext.updNew {D : Addr} {o : HO} (x : Ext m O H m1 O1 H1) (hn : H D = none) (un : O D = .un) : Ext m O H m1 O1 (upd H1 D o) := by
  have ne : ∀ a l', O a = l' → l' ≠ .un → a ≠ D := fun a l' ha hl e => by rw [e, un] at ha; exact hl ha.symm
  refine ⟨x.pre, fun a ha => ⟨(x.fz a ha).1, fun u q => ?_⟩, fun a i ha => ⟨(x.sl a i ha).1, ?_⟩, fun a ha hh => ⟨(x.un a ha hh).1, ?_⟩, x.ob⟩
  · have n := ne a _ ha fun q => nomatch q
    rcases (x.fz a ha).2 u q with q | ⟨o', q⟩
    · exact .inl (by rw [upd_ne n]; exact q)
    · exact .inr ⟨o', by rw [upd_ne n]; exact q⟩
  · rw [upd_ne (ne a _ ha fun q => nomatch q)]; exact (x.sl a i ha).2
  · rw [upd_ne fun e => hh (by rw [e]; exact hn)]; exact (x.un a ha hh).2
theorem wipeR_length (ρ : Rho) : ∀ vs : List Nat, (wipeR ρ vs).length = ρ.length
  | [] => rfl
  | v :: vs => by unfold wipeR; rw [List.length_set, wipeR_length ρ vs]
theorem wipeR_get {i : Nat} {s : Sl} : ∀ {vs : List Nat}, (wipeR ρ vs)[i]? = some s → s = none ∨ (i ∉ vs ∧ ρ[i]? = some s)
  | [], h => .inr ⟨by simp, h⟩
  | v :: vs, h => by
    unfold wipeR at h
    by_cases e : v = i
    · subst e
      rw [List.getElem?_set] at h
      simp only [if_true] at h
      split at h
      · cases h; exact .inl rfl
      · cases h
    · rw [List.getElem?_set_ne e] at h
      rcases wipeR_get h with q | ⟨q, q2⟩
      · exact .inl q
      · exact .inr ⟨fun z => by rcases List.mem_cons.mp z with z | z; exact e z.symm; exact q z, q2⟩
theorem R.wipe (r : R K m O H ρ h σ) (vs : List Nat) : R K m O H (wipeR ρ vs) h (wipe σ vs) := by
  refine ⟨r.st, by rw [wipeR_length, wipe_length]; exact r.len, fun i s v e1 e2 => ?_⟩
  rcases wipeR_get e1 with e | ⟨e, e3⟩
  · subst e; exact True.intro
  · rw [wipe_out e] at e2
    exact r.sl i s v e3 e2
theorem wipe_set {v : Option V} {i : Nat} : ∀ {vs : List Nat}, i ∈ vs → wipe (σ.set i v) vs = wipe σ vs
  | [], h => by simp at h
  | w :: vs, h => by
    show (wipe (σ.set i v) vs).set w none = (wipe σ vs).set w none
    by_cases e : w = i
    · subst e
      by_cases q : w ∈ vs
      · rw [wipe_set q]
      · apply List.ext_getElem?
        intro j
        by_cases ej : w = j
        · subst ej
          rw [List.getElem?_set, List.getElem?_set]
          simp only [if_true, wipe_length, List.length_set]
        · rw [List.getElem?_set_ne ej, List.getElem?_set_ne ej]
          clear h q
          induction vs with
          | nil => exact List.getElem?_set_ne ej
          | cons u us ih =>
            show ((wipe (σ.set w v) us).set u none)[j]? = ((wipe σ us).set u none)[j]?
            rw [List.getElem?_set, List.getElem?_set]
            simp only [wipe_length, List.length_set, ih]
    · rcases List.mem_cons.mp h with z | z
      · exact absurd z.symm e
      · rw [wipe_set z]

/-! ### targets -/
def tgIs : Tg → List Nat
  | .name i => [i]
  | .tup is => is
def gNames : List Nat → TGs
  | [] => gNil
  | i :: is => gCons (gName i) (gNames is)
def gOf (K : PySem.W.Frag) : Tg → TG
  | .name i => gName i
  | .tup is => gTup K is.length (gNames is)
theorem R.set {d : D} {v : V} (r : R K m O H ρ h σ) (i : Nat) (hv : VR K m O H d v) : R K m O H (ρ.set i (some (d, false))) h (σ.set i (some v)) := by
  refine ⟨r.st, by rw [List.length_set, List.length_set]; exact r.len, fun j s w e1 e2 => ?_⟩
  by_cases e : i = j
  · subst e
    rw [List.getElem?_set] at e1 e2
    simp only [if_true] at e1 e2
    split at e1
    · cases e1
      split at e2
      · cases e2; exact ⟨v, rfl, hv⟩
      · cases e2
    · cases e1
  · rw [List.getElem?_set_ne e] at e1 e2
    exact r.sl j s w e1 e2
theorem names_ok : ∀ {is : List Nat} {ds : List D} {vs : List V} {ρ : Rho} {σ : L2.St} {Q : L2.St → Hp → Prop}, ds.length = is.length → VRs K m O H ds vs → R K m O H ρ h σ →
    (∀ σ2, R K m O H ((is.zip ds).foldl (fun r p => r.set p.1 (some (p.2, false))) ρ) h σ2 → (∀ ws, (∀ i ∈ is, i ∈ ws) → wipe σ2 ws = wipe σ ws) → Q σ2 H) → gNames is vs σ H Q
  | [], [], _, _, _, _, _, hv, r, q => by
    rw [VRs_nil] at hv; subst hv
    exact ⟨rfl, q _ r fun _ _ => rfl⟩
  | [], _ :: _, _, _, _, _, hl, _, _, _ => by simp at hl
  | _ :: _, [], _, _, _, _, hl, _, _, _ => by simp at hl
  | i :: is, d :: ds, _, _, σ, _, hl, hv, r, q => by
    rw [VRs_cons] at hv
    obtain ⟨v, vs, rfl, h1, h2⟩ := hv
    refine ⟨v, vs, rfl, names_ok (by simpa using hl) h2 (r.set i h1) fun σ2 r2 w => ?_⟩
    refine q σ2 r2 fun ws hw => ?_
    rw [w ws fun j hj => hw j (List.mem_cons_of_mem _ hj)]
    exact wipe_set (hw i List.mem_cons_self)
theorem tg_ok {t : Tg} {d : D} {x : V} {ρ' : Rho} {Q : L2.St → Hp → Prop} (e : setTg t d ρ = .ok ρ') (r : R K m O H ρ h σ) (hv : VR K m O H d x)
    (q : ∀ σ2, R K m O H ρ' h σ2 → (∀ ws, (∀ i ∈ tgIs t, i ∈ ws) → wipe σ2 ws = wipe σ ws) → Q σ2 H) : gOf K t x σ H Q := by
  cases t with
  | name i =>
    simp only [setTg, guard'] at e
    by_cases hl : i < ρ.length
    · simp only [hl, decide_true, if_true, Res.ok.injEq] at e
      subst e
      exact q _ (r.set i hv) fun ws hw => wipe_set (hw i (by simp [tgIs]))
    · simp [hl] at e
  | tup is =>
    cases d with
    | tup ds =>
      simp only [setTg] at e
      by_cases hl : ds.length = is.length
      · rw [if_pos hl] at e
        simp only [Res.ok.injEq] at e
        subst e
        unfold VR at hv
        obtain ⟨a, xs, rfl, ha, va⟩ := hv
        exact ⟨a, xs, rfl, ha.sq, by rw [← va.length, hl], names_ok hl va r q⟩
      · rw [if_neg hl] at e; cases e
    | _ => simp [setTg] at e
theorem bind_ok_inv {α β : Type} {r : Res α} {k : α → Res β} {b : β} (e : r.bind k = .ok b) : ∃ a, r = .ok a ∧ k a = .ok b := by
  cases r with
  | ok a => exact ⟨a, rfl, e⟩
  | exc x h => cases e
  | stuck => cases e
theorem boolK_inv {α : Type} {k : Bool → AH → Res α} {p : D × Bool × AH} {b : α} (e : boolK k p = .ok b) : ∃ c fr h', p = (.bl c, fr, h') ∧ k c h' = .ok b := by
  obtain ⟨d, fr, h'⟩ := p
  cases d with
  | bl c => exact ⟨c, fr, h', rfl, e⟩
  | _ => cases e
/-- a comprehension's reading -/
theorem lc_ok {cf : Calls} {pk : Bool} {own : List Nat} {t : Tg} {src : Mi.It} {c e : Mi.E} {tt : TT} (htt : ∀ σ H Q, EVT K E' (fun ρ => ev cf ρ c) σ H Q → tt σ H Q) (hw : ∀ i ∈ tgIs t, i ∈ own) (σ : L2.St) (H : Hp) (Q : VK)
    (o : EV K E (TX K pk) (fun ρ => ev cf ρ (.lc own t src c e)) σ H Q) : tLc (EVI K E fun ρ => evi cf ρ src) (gOf K t) tt (EV K E' (TV K) fun ρ => ev cf ρ e) own σ H Q := by
  obtain ⟨m, O, h, ρ, rr, o⟩ := o
  dsimp only at o
  simp only [ev] at o
  refine ⟨m, O, h, ρ, rr, ?_⟩
  dsimp only
  cases e1 : evi cf ρ src h with
  | stuck => rw [e1] at o; exact o
  | exc x h' => rw [e1] at o; exact o
  | ok p =>
    rw [e1] at o
    obtain ⟨l, h1⟩ := p
    intro m1 O1 H1 J x1 r1 ⟨G, Y, w, hG, hY⟩ D hD
    simp only [Res.bind_ok] at o
    have uD : O1 D = .un := r1.st.un hD
    generalize hf : (fun x h => (setTg t x (wipeR ρ own)).bind fun ρ' => (ev cf ρ' c h).bind (boolK fun k h =>
      if k then (ev cf ρ' e h).bind fun r => Res.ok (some r.1, r.2.2) else Res.ok (none, h))) = f at o
    cases e2 : lcGo f l [] h1 with
    | stuck => rw [e2] at o; exact o.elim
    | exc _ _ => rw [e2] at o; exact o.elim
    | ok q =>
      rw [e2] at o
      simp only [Res.quiet, Res.bind_ok] at o
      refine lc_it w (vs := own) (σ := σ) (H1 := H1) (D := D) (Qd := fun H => Q (.ref D) H) (fun i H' => ∃ m2 O2 h2 accd accv, Ext m1 O1 H1 m2 O2 H' ∧ RH K m2 O2 H' h2 ∧ O2 D = .un ∧ H' D = some (.lst accv) ∧ VRs K m2 O2 H' accd accv ∧ lcGo f (l.drop i) accd h2 = .ok q)
        ?_ ?_ ?_ ?_
      · exact ⟨m1, O1, h1, [], [], Ext.refl.updNew hD uD, r1.st.updUn uD, uD, upd_same, by simp, by simpa using e2⟩
      · rintro i H' _ ⟨m2, O2, h2, accd, accv, x2, _⟩
        exact hG _ _ _ x2.keep
      · rintro i x H2 H2' hi ⟨m2, O2, h2, accd, accv, x2, r2, u2, d2, v2, go⟩ y
        obtain ⟨rfl, dd, hd, hv⟩ := hY _ _ _ _ _ _ x2.keep y
        have hdr : l.drop i = dd :: l.drop (i + 1) := by
          obtain ⟨hlt, hg2⟩ := List.getElem?_eq_some_iff.mp hd
          rw [List.drop_eq_getElem_cons hlt, hg2]
        rw [hdr] at go
        unfold lcGo at go
        obtain ⟨p, ep, go⟩ := bind_ok_inv go
        rw [← hf] at ep
        dsimp only at ep
        obtain ⟨ρ', es, ep⟩ := bind_ok_inv ep
        obtain ⟨p1, ec, ep⟩ := bind_ok_inv ep
        obtain ⟨b, fr, h3, rfl, ep⟩ := boolK_inv ep
        have rw2 : R K m2 O2 H2' (wipeR ρ own) h2 (wipe σ own) := (r1.wipe _).later x2 r2
        refine tg_ok es rw2 hv fun σ2 r3 hwp => ⟨?_, htt _ _ _ ⟨m2, O2, h2, ρ', r3, ?_⟩⟩
        · rw [hwp _ hw]
          apply List.ext_getElem?
          intro j
          by_cases ej : j ∈ own
          · have z : ∀ (σ : L2.St) (vs : List Nat), j ∈ vs → (wipe σ vs)[j]? = if j < σ.length then some none else none := by
              intro σ vs
              induction vs with
              | nil => intro h; simp at h
              | cons u us ih =>
                intro h
                show ((wipe σ us).set u none)[j]? = _
                rw [List.getElem?_set]
                by_cases eu : u = j
                · subst eu; simp [wipe_length]
                · rw [if_neg eu]
                  exact ih (by rcases List.mem_cons.mp h with z | z; exact absurd z.symm eu; exact z)
            rw [z _ _ ej, z _ _ ej, wipe_length]
          · rw [wipe_out ej]
        · show OutT K E' ρ' σ2 m2 O2 H2' (ev cf ρ' c h2) _
          rw [ec]
          intro m3 O3 H3 x3 r4
          have un3 := x3.un D u2 (by rw [d2]; exact fun q => nomatch q)
          cases b with
          | false =>
            simp only [Bool.false_eq_true, if_false] at ep ⊢
            cases ep
            exact ⟨m3, O3, h3, accd, accv, x2.trans x3, r4.st, un3.1, by rw [un3.2]; exact d2, VRs.keep x3.keep _ _ v2, go⟩
          | true =>
            simp only [if_true] at ep ⊢
            obtain ⟨pe, ee, ep⟩ := bind_ok_inv ep
            cases ep
            refine ⟨m3, O3, h3, ρ', r4, ?_⟩
            show Out K E' (TV K) ρ' σ2 m3 O3 H3 (ev cf ρ' e h3) _
            rw [ee]
            intro m4 O4 H4 yv x4 r5 tv
            have un4 := x4.un D un3.1 (by rw [un3.2, d2]; exact fun q => nomatch q)
            have d4 : H4 D = some (.lst accv) := by rw [un4.2, un3.2]; exact d2
            have v4 := VRs.keep (x3.trans x4).keep _ _ v2
            dsimp only at go
            unfold guard' fits at go
            split at go
            · rename_i hfit
              refine ⟨accv, d4, ?_, m4, O4, pe.2.2, accd ++ [pe.1], accv ++ [yv], ((x2.trans x3).trans x4).updNew hD uD, r5.st.updUn un4.1, un4.1, upd_same, ?_, go⟩
              · rw [← v2.length]
                exact of_decide_eq_true hfit
              · exact VRs.keep (Keep.updUn un4.1) _ _ (v4.append (VRs.one tv))
            · cases go
      · rintro H' ⟨m2, O2, h2, accd, accv, x2, r2, u2, d2, v2, go⟩
        rw [List.drop_length] at go
        unfold lcGo at go
        cases go
        refine o m2 O2 H' (.ref D) (x1.trans x2) (r1.later x2 r2) ?_
        unfold TX
        simp only [if_true]
        exact ⟨D, rfl, x1.was r1.st hD, u2, accv, d2, v2⟩
/-- a comprehension of one for -/
theorem pe_lcM {cf : Calls} {pk : Bool} {elt tg iter : Expr} {ifs : List Expr} {scope : Scope} {own : List (Str × Nat)} {pos : Pos} {t : Tg} {src : Mi.It} {c e : Mi.E} {tt : TT} (hK : X.K = K) (hc : X.calm = true) (hN : X.N.Nodup)
    (hi : PI X tg iter (EVI K E fun ρ => evi cf ρ src)) (ok : BlkOk X.N X.env.scope scope own)
    (hg : ∀ (s : Shared) (H : Hp) (C : Addr) (cl : List (Str × Addr)) (fp : List Addr), PG (X.blk s H scope (compEnvC scope cl C X.env) fp) tg (gOf K t)) (ht : ∀ (s : Shared) (H : Hp) (C : Addr) (cl : List (Str × Addr)) (fp : List Addr), PTs (X.blk s H scope (compEnvC scope cl C X.env) fp) ifs tt)
    (he : ∀ (s : Shared) (H : Hp) (C : Addr) (cl : List (Str × Addr)) (fp : List Addr), PE (X.blk s H scope (compEnvC scope cl C X.env) fp) elt (EV K E' (TV K) fun ρ => ev cf ρ e)) (hs : ∀ x, foldedSetIterable iter X.env x = pure x)
    (htt : ∀ σ H Q, EVT K E' (fun ρ => ev cf ρ c) σ H Q → tt σ H Q) (hw : ∀ i ∈ tgIs t, i ∈ own.map (·.2)) :
    PE X (.ListComp elt [⟨tg, iter, ifs, 0⟩] scope pos) (EV K E (TX K pk) fun ρ => ev cf ρ (.lc (own.map (·.2)) t src c e)) := by
  exact PE.mono (pe_lc hc hN hi ok hg ht he hs) fun σ H Q o => lc_ok htt hw σ H Q o
end
end Mi

set_option Elab.async false
set_option linter.all false
set_option maxRecDepth 100000
set_option maxHeartbeats 2000000
/-! Mi: each kind of expression, by the interpreter. -/
namespace Mi
open PySem PySem.Spec PyProof.Rows L2

theorem guard_ne {α : Type} {b : Bool} {r : Res α} {x : Exn} {h : AH} (hr : r ≠ .exc x h) : guard' b r ≠ .exc x h := by
  unfold guard'
  split
  · exact hr
  · exact fun q => nomatch q
theorem of_ne {α : Type} {r : Option α} {x : Exn} {h : AH} : Res.of r ≠ .exc x h := by
  cases r <;> exact fun q => nomatch q
theorem bind_ne {α β : Type} {r : Res α} {k : α → Res β} {x : Exn} {h : AH} (hr : r ≠ .exc x h) (hk : ∀ a, k a ≠ .exc x h) : r.bind k ≠ .exc x h := by
  cases r with
  | ok a => exact hk a
  | exc y g => exact fun q => hr (by cases q; rfl)
  | stuck => exact fun q => nomatch q
theorem bin_ne {o : Op2} {d e : D} {x : Exn} {h : AH} : bin o d e ≠ .exc x h := by
  unfold bin
  split <;> first | exact guard_ne fun q => nomatch q | exact fun q => nomatch q
theorem isIn_ne {d e : D} {x : Exn} {h : AH} : isIn d e ≠ .exc x h := by
  unfold isIn
  split
  · exact guard_ne fun q => nomatch q
  · exact guard_ne fun q => nomatch q
  · split <;> exact fun q => nomatch q
  · exact fun q => nomatch q
theorem isB_ne {d e : D} {x : Exn} {h : AH} : isB d e ≠ .exc x h := by
  unfold isB
  split
  · exact fun q => nomatch q
  · split <;> exact fun q => nomatch q
  · exact fun q => nomatch q
theorem eqB_ne {d e : D} {x : Exn} {h : AH} : eqB d e ≠ .exc x h := guard_ne fun q => nomatch q
theorem cmp_ne {o : OpC} {d e : D} {x : Exn} {h : AH} : cmp o d e ≠ .exc x h := by
  cases o with
  | eq => exact eqB_ne
  | ne => exact bind_ne eqB_ne fun _ q => nomatch q
  | isin => exact isIn_ne
  | notin => exact bind_ne isIn_ne fun _ q => nomatch q
  | is => exact isB_ne
  | isnot => exact bind_ne isB_ne fun _ q => nomatch q
  | lt => unfold cmp; dsimp only; split <;> exact fun q => nomatch q
  | le => unfold cmp; dsimp only; split <;> exact fun q => nomatch q
  | gt => unfold cmp; dsimp only; split <;> exact fun q => nomatch q
  | ge => unfold cmp; dsimp only; split <;> exact fun q => nomatch q
theorem idx_ne {d e : D} {x : Exn} {h : AH} : idx d e ≠ .exc x h := by
  unfold idx
  split
  · exact of_ne
  · exact of_ne
  · exact of_ne
  · split
    · exact guard_ne fun q => nomatch q
    · exact fun q => nomatch q
  · split
    · exact of_ne
    · exact fun q => nomatch q
  · exact fun q => nomatch q
theorem cut_ne {d : D} {e f : Option Int} {x : Exn} {h : AH} : cut d e f ≠ .exc x h := by
  unfold cut
  split <;> exact fun q => nomatch q
theorem partOf_ne {e : Mi.E} {d : D} {x : Exn} {h : AH} : partOf e d ≠ .exc x h := by
  unfold partOf
  split <;> exact fun q => nomatch q
theorem getD_ne {d : D} {es : List D} {x : Exn} {h : AH} : getD d es ≠ .exc x h := by
  unfold getD
  split
  · split <;> exact fun q => nomatch q
  · split <;> exact fun q => nomatch q
  · exact fun q => nomatch q
theorem bi_ne {f : Bi} {es : List D} {x : Exn} {h : AH} : bi f es ≠ .exc x h := by
  unfold bi
  split <;> first | exact guard_ne fun q => nomatch q | (split <;> first | exact guard_ne fun q => nomatch q | exact fun q => nomatch q) | exact fun q => nomatch q

section
variable {K : PySem.W.Frag} {E : EX} {m m1 : List Addr} {O O1 : Labs} {H H1 : Hp} {ρ ρ1 : Rho} {h h1 : AH} {σ : L2.St} {X : Cx} {cf : Calls} {pos : Pos} {pk : Bool}
/-- an expression is read as the interpreter has it -/
abbrev ME (K : PySem.W.Frag) (E : EX) (X : Cx) (cf : Calls) (pk : Bool) (e : Expr) (i : Mi.E) : Prop := PE X e (EV K E (TX K pk) fun ρ => ev cf ρ i)
abbrev MT (K : PySem.W.Frag) (E : EX) (X : Cx) (cf : Calls) (e : Expr) (i : Mi.E) : Prop := PT X e (EVT K E fun ρ => ev cf ρ i)
abbrev MA (K : PySem.W.Frag) (E : EX) (X : Cx) (cf : Calls) (e : List Expr) (i : Mi.Es) : Prop := PA X e (EVA K E fun ρ => evs cf ρ i)
/-- of a list of expressions that are looked at -/
def OutP (K : PySem.W.Frag) (E : EX) (ρ : Rho) (σ : L2.St) (m : List Addr) (O : Labs) (H : Hp) (res : Res (List D × AH)) (Q : List V → Hp → Prop) : Prop := match res with
  | .ok p => ∀ m' O' H' vs, Ext m O H m' O' H' → R K m' O' H' ρ p.2 σ → RCs K m' O' H' p.1 vs → Q vs H'
  | .exc x h' => ∀ m' O' H', Ext m O H m' O' H' → R K m' O' H' ρ h' σ → E x m' O' H' h' σ
  | .stuck => False
def EVP (K : PySem.W.Frag) (E : EX) (r : Rho → AH → Res (List D × AH)) : TA := fun σ H Q => ∃ m O h ρ, R K m O H ρ h σ ∧ OutP K E ρ σ m O H (r ρ h) Q
abbrev MP (K : PySem.W.Frag) (E : EX) (X : Cx) (cf : Calls) (e : List Expr) (i : Mi.Es) : Prop := PA X e (EVP K E fun ρ => evs cf ρ i)
theorem OutP.later {res : Res (List D × AH)} {Q : List V → Hp → Prop} (o : OutP K E ρ σ m O H res Q) (x : Ext m O H m1 O1 H1) : OutP K E ρ σ m1 O1 H1 res Q := by
  cases res with
  | stuck => exact o
  | exc e h' => exact fun m' O' H' x' r' => o m' O' H' (x.trans x') r'
  | ok p => exact fun m' O' H' v x' r' t => o m' O' H' v (x.trans x') r' t
theorem OutP.seq {r1 : Res (D × Bool × AH)} {k : D × Bool × AH → Res (List D × AH)} {T1 : TR} {Q : List V → Hp → Prop} (o : OutP K E ρ σ m O H (r1.bind k) Q) :
    Out K E T1 ρ σ m O H r1 fun v H1 => ∃ p, r1 = .ok p ∧ Rest K T1 ρ σ m O H p v H1 fun m1 O1 => OutP K E ρ σ m1 O1 H1 (k p) Q := by
  cases r1 with
  | stuck => exact o
  | exc e h' => exact o
  | ok p => exact fun m' O' H' v x' r' t => ⟨p, rfl, ⟨m', O', x', r', t, OutP.later o x'⟩⟩
structure RestP (K : PySem.W.Frag) (ρ : Rho) (σ : L2.St) (m : List Addr) (O : Labs) (H : Hp) (p : List D × AH) (vs : List V) (H1 : Hp) (G : List Addr → Labs → Prop) : Prop where
  ex : ∃ m1 O1, Ext m O H m1 O1 H1 ∧ R K m1 O1 H1 ρ p.2 σ ∧ RCs K m1 O1 H1 p.1 vs ∧ G m1 O1
theorem Out.seqP {T : TR} {Q : VK} {r1 : Res (List D × AH)} {k : List D × AH → Res (D × Bool × AH)} (tm : TMono T) (o : Out K E T ρ σ m O H (r1.bind k) Q) :
    OutP K E ρ σ m O H r1 fun vs H1 => ∃ p, r1 = .ok p ∧ RestP K ρ σ m O H p vs H1 fun m1 O1 => Out K E T ρ σ m1 O1 H1 (k p) Q := by
  cases r1 with
  | stuck => exact o
  | exc e h' => exact o
  | ok p => exact fun m' O' H' v x' r' t => ⟨p, rfl, ⟨m', O', x', r', t, Out.later tm o x' r'⟩⟩
theorem OutP.seqP {r1 : Res (D × Bool × AH)} {k : D × Bool × AH → Res (List D × AH)} {Q : List V → Hp → Prop} (o : OutP K E ρ σ m O H (r1.bind k) Q) :
    Out K E (TP K) ρ σ m O H r1 fun v H1 => ∃ p, r1 = .ok p ∧ Rest K (TP K) ρ σ m O H p v H1 fun m1 O1 => OutP K E ρ σ m1 O1 H1 (k p) Q := OutP.seq o
theorem OutP.imp {res : Res (List D × AH)} {Q Q' : List V → Hp → Prop} (o : OutP K E ρ σ m O H res Q) (w : ∀ v H', Q v H' → Q' v H') : OutP K E ρ σ m O H res Q' := by
  cases res with
  | stuck => exact o
  | exc e h' => exact o
  | ok p => exact fun m' O' H' v x' r' t => w _ _ (o m' O' H' v x' r' t)
theorem OutA.imp {res : Res (List D × AH)} {Q Q' : List V → Hp → Prop} (o : OutA K E ρ σ m O H res Q) (w : ∀ v H', Q v H' → Q' v H') : OutA K E ρ σ m O H res Q' := by
  cases res with
  | stuck => exact o
  | exc e h' => exact o
  | ok p => exact fun m' O' H' v x' r' t => w _ _ (o m' O' H' v x' r' t)
theorem OutT.imp {res : Res (D × Bool × AH)} {Q Q' : Bool → Hp → Prop} (o : OutT K E ρ σ m O H res Q) (w : ∀ v H', Q v H' → Q' v H') : OutT K E ρ σ m O H res Q' := by
  cases res with
  | stuck => exact o
  | exc e h' => exact o
  | ok p =>
    obtain ⟨d, fr, h'⟩ := p
    cases d with
    | bl b => exact fun m' O' H' x' r' => w _ _ (o m' O' H' x' r')
    | _ => exact o
/-- a value at hand -/
theorem Out.now {T : TR} {Q : VK} {d : D} {fr : Bool} {v : V} (o : Out K E T ρ σ m O H (.ok (d, fr, h)) Q) (r : R K m O H ρ h σ) (t : T m O H H d fr v) : Q v H := o m O H v .refl r t

/-! ### names, constants -/
theorem R.get {d : D} {i : Nat} {fl : Bool} (r : R K m O H ρ h σ) (e : ρ[i]? = some (some (d, fl))) : ∃ v, σ[i]? = some (some v) ∧ RC K m O H d v ∧ (fl = false → VR K m O H d v) := by
  have hi : i < σ.length := by rw [← r.len]; exact (List.getElem?_eq_some_iff.mp e).1
  have es : σ[i]? = some σ[i] := List.getElem?_eq_getElem hi
  have z := r.sl i _ _ e es
  cases fl with
  | false =>
    obtain ⟨v, e1, e2⟩ := z
    exact ⟨v, by rw [es, e1], .inl e2, fun _ => e2⟩
  | true =>
    obtain ⟨a, e1, e2, e3⟩ := z
    exact ⟨.ref a, by rw [es, e1], .inr ⟨i, a, rfl, e2, e3⟩, fun q => nomatch q⟩
theorem TX.of {d : D} {v : V} (q : VR K m O H d v) {H0 : Hp} : TX K pk m O H H0 d false v := by
  unfold TX
  simp only [Bool.false_eq_true, if_false]
  split
  · exact .inl q
  · exact q
theorem me_var {i : Nat} {x : Str} (hN : X.N[i]? = some x) (hv : Vis X.env.scope x) (hd : (x == ("__debug__" : Str)) = false) (hcd : (x == ("__classdict__" : Str)) = false) : ME K E X cf pk (.Name x pos) (.var i) := by
  refine PE.mono (pe_var hN hv hd hcd) fun σ H Q ⟨m, O, h, ρ, r, o⟩ => ?_
  simp only [ev] at o
  cases e : ρ[i]? with
  | none => rw [e] at o; exact o.elim
  | some s =>
    match s, e with
    | none, e => rw [e] at o; exact o.elim
    | some (d, true), e => rw [e] at o; exact o.elim
    | some (d, false), e =>
      rw [e] at o
      obtain ⟨v, e1, _, e2⟩ := r.get e
      exact ⟨v, e1, Out.now o r (TX.of (e2 rfl))⟩
theorem me_pk {i : Nat} {x : Str} (hN : X.N[i]? = some x) (hv : Vis X.env.scope x) (hd : (x == ("__debug__" : Str)) = false) (hcd : (x == ("__classdict__" : Str)) = false) : ME K E X cf true (.Name x pos) (.pk i) := by
  refine PE.mono (pe_var hN hv hd hcd) fun σ H Q ⟨m, O, h, ρ, r, o⟩ => ?_
  simp only [ev] at o
  cases e : ρ[i]? with
  | none => rw [e] at o; exact o.elim
  | some s =>
    match s, e with
    | none, e => rw [e] at o; exact o.elim
    | some (d, fl), e =>
      rw [e] at o
      obtain ⟨v, e1, e2, _⟩ := r.get e
      exact ⟨v, e1, Out.now o r (by unfold TX; simpa using e2)⟩
theorem me_true (h : ME K E X cf false e i) : ME K E X cf true e i := PE.mono h fun σ H Q ⟨m, O, hh, ρ, r, o⟩ => by
  refine ⟨m, O, hh, ρ, r, ?_⟩
  dsimp only at o ⊢
  cases q : ev cf ρ i hh with
  | stuck => rw [q] at o; exact o
  | exc x h' => rw [q] at o; exact o
  | ok p =>
    rw [q] at o
    intro m' O' H' v x' r' t
    refine o m' O' H' v x' r' ?_
    unfold TX at t ⊢
    cases hf : p.2.1 with
    | true => simp only [hf, if_true] at t ⊢; exact t
    | false =>
      simp only [hf, Bool.false_eq_true, if_false] at t
      simp only [Bool.false_eq_true, if_false, if_true]
      exact .inl t
theorem me_pkk (h : ME K E X cf false e i) : ME K E X cf pk e i := by
  cases pk with
  | false => exact h
  | true => exact me_true h
theorem me_non {j : Nat} : ME K E X cf pk (.Constant .none j pos) .non := PE.mono pe_non fun σ H Q ⟨m, O, h, ρ, r, o⟩ => Out.now o r (TX.of VR.n)
theorem me_bl {j : Nat} {b : Bool} : ME K E X cf pk (.Constant (.bool b) j pos) (.bl b) := PE.mono pe_bl fun σ H Q ⟨m, O, h, ρ, r, o⟩ => Out.now o r (TX.of (VR.b b))
theorem me_int {j : Nat} {b : Int} : ME K E X cf pk (.Constant (.int b) j pos) (.int b) := PE.mono pe_int fun σ H Q ⟨m, O, h, ρ, r, o⟩ => Out.now o r (TX.of (VR.i b))
theorem me_str {j : Nat} {b : Str} : ME K E X cf pk (.Constant (.str b) j pos) (.str b) := PE.mono pe_str fun σ H Q ⟨m, O, h, ρ, r, o⟩ => Out.now o r (TX.of (VR.s b))

/-! ### lists of expressions -/
theorem ma_nil : MA K E X cf [] .nil := PA.mono pa_nil fun σ H Q ⟨m, O, h, ρ, r, o⟩ => o m O H [] .refl r (by simp)
theorem ma_cons {e : Expr} {es : List Expr} {i : Mi.E} {is : Mi.Es} (he : ME K E X cf false e i) (hr : MA K E X cf es is) (hs : starEach (e :: es) X.env = (false, eval e X.env) :: starEach es X.env) : MA K E X cf (e :: es) (.cons i is) := by
  refine PA.mono (pa_cons (EV.val he) hr hs) fun σ H Q ⟨m, O, h, ρ, r, o⟩ => ⟨m, O, h, ρ, r, ?_⟩
  simp only [evs] at o
  refine (OutA.seq (T1 := TV K) o).imp ?_
  rintro x H1 ⟨p, _, ⟨m1, O1, x1, r1, t1, o1⟩⟩
  refine ⟨m1, O1, _, ρ, r1, (OutA.seqA o1).imp ?_⟩
  rintro ys H2 ⟨q, _, ⟨m2, O2, x2, r2, t2, o2⟩⟩
  refine o2 m2 O2 H2 (x :: ys) .refl r2 ?_
  rw [VRs_cons]
  exact ⟨x, ys, rfl, VR.keep x2.keep _ _ t1, t2⟩
theorem mp_nil : MP K E X cf [] .nil := PA.mono pa_nil fun σ H Q ⟨m, O, h, ρ, r, o⟩ => o m O H [] .refl r rfl
theorem OutP.seqPP {r1 : Res (List D × AH)} {k : List D × AH → Res (List D × AH)} {Q : List V → Hp → Prop} (o : OutP K E ρ σ m O H (r1.bind k) Q) :
    OutP K E ρ σ m O H r1 fun vs H1 => ∃ p, r1 = .ok p ∧ RestP K ρ σ m O H p vs H1 fun m1 O1 => OutP K E ρ σ m1 O1 H1 (k p) Q := by
  cases r1 with
  | stuck => exact o
  | exc e h' => exact o
  | ok p => exact fun m' O' H' v x' r' t => ⟨p, rfl, ⟨m', O', x', r', t, OutP.later o x'⟩⟩
theorem mp_cons {e : Expr} {es : List Expr} {i : Mi.E} {is : Mi.Es} (he : ME K E X cf true e i) (hr : MP K E X cf es is) (hs : starEach (e :: es) X.env = (false, eval e X.env) :: starEach es X.env) : MP K E X cf (e :: es) (.cons i is) := by
  refine PA.mono (pa_cons (EV.peek he) hr hs) fun σ H Q ⟨m, O, h, ρ, r, o⟩ => ⟨m, O, h, ρ, r, ?_⟩
  simp only [evs] at o
  refine (OutP.seq (T1 := TP K) o).imp ?_
  rintro x H1 ⟨p, _, ⟨m1, O1, x1, r1, t1, o1⟩⟩
  refine ⟨m1, O1, _, ρ, r1, (OutP.seqPP o1).imp ?_⟩
  rintro ys H2 ⟨q, _, ⟨m2, O2, x2, r2, t2, o2⟩⟩
  exact o2 m2 O2 H2 (x :: ys) .refl r2 ⟨x, ys, rfl, RC.keep x2 t1, t2⟩

/-! ### operators -/
theorem me_neg {a : Expr} {i : Mi.E} (ha : ME K E X cf true a i) : ME K E X cf pk (.UnaryOp .USub a pos) (.neg i) := by
  refine PE.mono (pe_un un_neg (EV.peek ha)) fun σ H Q ⟨m, O, h, ρ, r, o⟩ => ⟨m, O, h, ρ, r, ?_⟩
  simp only [ev] at o
  refine (Out.seq (T1 := TP K) (tmX pk) o).imp ?_
  rintro x H1 ⟨⟨d, fr, h1⟩, _, ⟨m1, O1, x1, r1, t1, o1⟩⟩
  cases d with
  | int n => exact ⟨n, RC.int t1, Out.now o1 r1 (TX.of (VR.i _))⟩
  | _ => exact o1.elim
theorem me_bin (hX : X.K = K) {o : Op2} {a b : Expr} {ia ib : Mi.E} (ha : ME K E X cf true a ia) (hb : ME K E X cf true b ib) : ME K E X cf pk (.BinOp a (opOf o) b pos) (.bin o ia ib) := by
  refine PE.mono (pe_op anyO (EV.peek ha) (EV.peek hb)) fun σ H Q ⟨m, O, h, ρ, r, oo⟩ => ⟨m, O, h, ρ, r, ?_⟩
  simp only [ev] at oo
  refine (Out.seq (T1 := TP K) (tmX pk) oo).imp ?_
  rintro x H1 ⟨p, _, ⟨m1, O1, x1, r1, t1, o1⟩⟩
  refine ⟨m1, O1, _, ρ, r1, (Out.seq (T1 := TP K) (tmX pk) o1).imp ?_⟩
  rintro y H2 ⟨q, _, ⟨m2, O2, x2, r2, t2, o2⟩⟩
  cases e : bin o p.1 q.1 with
  | stuck => rw [e] at o2; exact o2.elim
  | exc _ _ => exact absurd e bin_ne
  | ok d =>
    rw [e] at o2
    exact bin_ok hX r2 (RC.keep x2 t1) t2 e fun m' O' H' w xx rr tt => o2 m' O' H' w xx rr tt
theorem me_cmp (hX : X.K = K) (hu : X.A.units + 64 < cLine) {o : OpC} {a b : Expr} {ia ib : Mi.E} (ha : ME K E X cf true a ia) (hb : ME K E X cf true b ib) (hm : behindInMarks (cmpOf o) b = false) :
    ME K E X cf pk (.Compare a [cmpOf o] [b] pos) (.cmp o ia ib) := by
  refine PE.mono (pe_cmpR anyO (EV.peek ha) (EV.peek hb) hm) fun σ H Q ⟨m, O, h, ρ, r, oo⟩ => ⟨m, O, h, ρ, r, ?_⟩
  simp only [ev] at oo
  refine (Out.seq (T1 := TP K) (tmX pk) oo).imp ?_
  rintro x H1 ⟨p, _, ⟨m1, O1, x1, r1, t1, o1⟩⟩
  refine ⟨m1, O1, _, ρ, r1, (Out.seq (T1 := TP K) (tmX pk) o1).imp ?_⟩
  rintro y H2 ⟨q, _, ⟨m2, O2, x2, r2, t2, o2⟩⟩
  cases e : cmp o p.1 q.1 with
  | stuck => rw [e] at o2; exact o2.elim
  | exc _ _ => exact absurd e cmp_ne
  | ok d =>
    rw [e] at o2
    exact cmp_ok hX hu (RC.keep x2 t1) t2 e (Out.now o2 r2 (TX.of (VR.b _)))
/-- a test: what is read as a value -/
theorem EVT.test {r : Rho → AH → Res (D × Bool × AH)} {T : TR} (hT : ∀ m' O' H' H0 d fr v b, T m' O' H' H0 d fr v → d = .bl b → v = .bl b) (σ : L2.St) (H : Hp) (Q : Bool → Hp → Prop) (o : EVT K E r σ H Q) :
    EV K E T r σ H fun x H' => ∃ k, x = .bl k ∧ Q k H' := by
  obtain ⟨m, O, h, ρ, rr, o⟩ := o
  refine ⟨m, O, h, ρ, rr, ?_⟩
  cases e : r ρ h with
  | stuck => rw [e] at o; exact o
  | exc x h' => rw [e] at o; exact o
  | ok p =>
    rw [e] at o
    obtain ⟨d, fr, h'⟩ := p
    cases d with
    | bl b => exact fun m' O' H' v x' r' t => ⟨b, hT _ _ _ _ _ _ _ b t rfl, o m' O' H' x' r'⟩
    | _ => exact o.elim
theorem TX.isbl {d : D} {fr : Bool} {H0 : Hp} {v : V} {b : Bool} (t : TX K pk m O H H0 d fr v) (e : d = .bl b) : v = .bl b := by
  subst e
  unfold TX at t
  cases fr with
  | true => simp only [if_true] at t; unfold FR at t; dsimp only at t; unfold VR at t; exact t
  | false =>
    simp only [Bool.false_eq_true, if_false] at t
    split at t
    · exact RC.bl t
    · unfold VR at t; exact t
theorem mt_val {e : Expr} {i : Mi.E} (h : ME K E X cf true e i) (he : ∀ whole, isTrue e X.env whole = (do let v ← whole; standAt e.pos; holding [v] (truthy v))) : MT K E X cf e i :=
  PT.mono (pt_val h he) fun σ H Q o => EVT.test (fun _ _ _ _ _ _ _ _ t q => t.isbl q) σ H Q o
theorem mt_cmp (hX : X.K = K) (hu : X.A.units + 64 < cLine) {o : OpC} {a b : Expr} {ia ib : Mi.E} (ha : ME K E X cf true a ia) (hb : ME K E X cf true b ib) (hm : behindInMarks (cmpOf o) b = false) :
    MT K E X cf (.Compare a [cmpOf o] [b] pos) (.cmp o ia ib) := by
  refine PT.mono (pt_cmpR anyO (EV.peek ha) (EV.peek hb) hm) fun σ H Q ⟨m, O, h, ρ, r, oo⟩ => ⟨m, O, h, ρ, r, ?_⟩
  simp only [ev] at oo
  refine (OutT.seq (T1 := TP K) oo).imp ?_
  rintro x H1 ⟨p, _, ⟨m1, O1, x1, r1, t1, o1⟩⟩
  refine ⟨m1, O1, _, ρ, r1, (OutT.seq (T1 := TP K) o1).imp ?_⟩
  rintro y H2 ⟨q, _, ⟨m2, O2, x2, r2, t2, o2⟩⟩
  cases e : cmp o p.1 q.1 with
  | stuck => rw [e] at o2; exact o2.elim
  | exc _ _ => exact absurd e cmp_ne
  | ok d =>
    rw [e] at o2
    exact cmp_ok hX hu (RC.keep x2 t1) t2 e ⟨d, rfl, o2 m2 O2 H2 .refl r2⟩
theorem me_chain (hX : X.K = K) (hu : X.A.units + 64 < cLine) {o o' : OpC} {a b c : Expr} {ia ib ic : Mi.E} (ha : ME K E X cf true a ia) (hb : ME K E X cf true b ib) (hc : ME K E X cf true c ic) (hm : lastMarks [cmpOf o, cmpOf o'] [b, c] = false) :
    ME K E X cf pk (.Compare a [cmpOf o, cmpOf o'] [b, c] pos) (.chain o o' ia ib ic) := by
  refine PE.mono (pe_chain anyO anyO (EV.peek ha) (EV.peek hb) (EV.peek hc) hm) fun σ H Q ⟨m, O, h, ρ, r, oo⟩ => ⟨m, O, h, ρ, r, ?_⟩
  simp only [ev] at oo
  refine (Out.seq (T1 := TP K) (tmX pk) oo).imp ?_
  rintro x H1 ⟨p, _, ⟨m1, O1, x1, r1, t1, o1⟩⟩
  refine ⟨m1, O1, _, ρ, r1, (Out.seq (T1 := TP K) (tmX pk) o1).imp ?_⟩
  rintro y H2 ⟨q, _, ⟨m2, O2, x2, r2, t2, o2⟩⟩
  cases e : cmp o p.1 q.1 with
  | stuck => rw [e] at o2; exact o2.elim
  | exc _ _ => exact absurd e cmp_ne
  | ok d =>
    rw [e] at o2
    refine cmp_ok hX hu (RC.keep x2 t1) t2 e ⟨d, rfl, ?_⟩
    cases d with
    | false => exact Out.now o2 r2 (TX.of (VR.b _))
    | true =>
      refine ⟨m2, O2, _, ρ, r2, (Out.seq (T1 := TP K) (tmX pk) (show Out K E (TX K pk) ρ σ m2 O2 H2 ((ev cf ρ ic q.2.2).bind _) Q from o2)).imp ?_⟩
      rintro z H3 ⟨u, _, ⟨m3, O3, x3, r3, t3, o3⟩⟩
      cases e3 : cmp o' q.1 u.1 with
      | stuck => rw [e3] at o3; exact o3.elim
      | exc _ _ => exact absurd e3 cmp_ne
      | ok k =>
        rw [e3] at o3
        exact cmp_ok hX hu (RC.keep x3 t2) t3 e3 (Out.now o3 r3 (TX.of (VR.b _)))
theorem mt_chain (hX : X.K = K) (hu : X.A.units + 64 < cLine) {o o' : OpC} {a b c : Expr} {ia ib ic : Mi.E} (ha : ME K E X cf true a ia) (hb : ME K E X cf true b ib) (hc : ME K E X cf true c ic) (hm : lastMarks [cmpOf o, cmpOf o'] [b, c] = false) :
    MT K E X cf (.Compare a [cmpOf o, cmpOf o'] [b, c] pos) (.chain o o' ia ib ic) := by
  refine PT.mono (pt_chain anyO anyO (EV.peek ha) (EV.peek hb) (EV.peek hc) hm) fun σ H Q ⟨m, O, h, ρ, r, oo⟩ => ⟨m, O, h, ρ, r, ?_⟩
  simp only [ev] at oo
  refine (OutT.seq (T1 := TP K) oo).imp ?_
  rintro x H1 ⟨p, _, ⟨m1, O1, x1, r1, t1, o1⟩⟩
  refine ⟨m1, O1, _, ρ, r1, (OutT.seq (T1 := TP K) o1).imp ?_⟩
  rintro y H2 ⟨q, _, ⟨m2, O2, x2, r2, t2, o2⟩⟩
  cases e : cmp o p.1 q.1 with
  | stuck => rw [e] at o2; exact o2.elim
  | exc _ _ => exact absurd e cmp_ne
  | ok d =>
    rw [e] at o2
    refine cmp_ok hX hu (RC.keep x2 t1) t2 e ⟨d, rfl, ?_⟩
    cases d with
    | false => exact ⟨false, rfl, o2 m2 O2 H2 .refl r2⟩
    | true =>
      refine ⟨m2, O2, _, ρ, r2, (OutT.seq (T1 := TP K) (show OutT K E ρ σ m2 O2 H2 ((ev cf ρ ic q.2.2).bind _) Q from o2)).imp ?_⟩
      rintro z H3 ⟨u, _, ⟨m3, O3, x3, r3, t3, o3⟩⟩
      cases e3 : cmp o' q.1 u.1 with
      | stuck => rw [e3] at o3; exact o3.elim
      | exc _ _ => exact absurd e3 cmp_ne
      | ok k =>
        rw [e3] at o3
        exact cmp_ok hX hu (RC.keep x3 t2) t3 e3 ⟨k, rfl, o3 m3 O3 H3 .refl r3⟩
end
end Mi

set_option Elab.async false
set_option linter.all false
set_option maxRecDepth 100000
set_option maxHeartbeats 2000000
/-! Mi: each kind of expression, by the interpreter (second part). -/
namespace Mi
open PySem PySem.Spec PyProof.Rows L2

section
variable {K : PySem.W.Frag} {E : EX} {m m1 : List Addr} {O O1 : Labs} {H H1 : Hp} {ρ ρ1 : Rho} {h h1 : AH} {σ : L2.St} {X : Cx} {cf : Calls} {pos : Pos} {pk : Bool}
/-- a bool, as a value -/
theorem Out.seqB {T : TR} {Q : VK} {r1 : Res (D × Bool × AH)} {k : Bool → AH → Res (D × Bool × AH)} (tm : TMono T) (o : Out K E T ρ σ m O H (r1.bind (boolK k)) Q) :
    Out K E (TP K) ρ σ m O H r1 fun x H1 => ∃ c, x = .bl c ∧ ∃ m1 O1 h1, Ext m O H m1 O1 H1 ∧ R K m1 O1 H1 ρ h1 σ ∧ Out K E T ρ σ m1 O1 H1 (k c h1) Q := by
  cases r1 with
  | stuck => exact o
  | exc e h' => exact o
  | ok p =>
    obtain ⟨d, fr, h'⟩ := p
    cases d with
    | bl b => exact fun m' O' H' v x' r' t => ⟨b, RC.bl t, m', O', h', x', r', Out.later tm o x' r'⟩
    | _ => exact o.elim
theorem me_not {a : Expr} {i : Mi.E} (ha : ME K E X cf true a i) : ME K E X cf pk (.UnaryOp .Not a pos) (.not i) := by
  refine PE.mono (pe_not (EV.peek ha)) fun σ H Q ⟨m, O, h, ρ, r, o⟩ => ⟨m, O, h, ρ, r, ?_⟩
  simp only [ev] at o
  refine (Out.seqB (tmX pk) o).imp ?_
  rintro x H1 ⟨c, rfl, m1, O1, h1, x1, r1, o1⟩
  exact ⟨c, rfl, Out.now o1 r1 (TX.of (VR.b _))⟩
theorem mt_not {a : Expr} {i : Mi.E} (ha : MT K E X cf a i) : MT K E X cf (.UnaryOp .Not a pos) (.not i) := by
  refine PT.mono (pt_not ha) fun σ H Q ⟨m, O, h, ρ, r, o⟩ => ⟨m, O, h, ρ, r, ?_⟩
  simp only [ev] at o
  refine (OutT.seqT o).imp ?_
  rintro c H1 ⟨m1, O1, h1, x1, r1, o1⟩
  exact o1 m1 O1 H1 .refl r1
theorem me_one {op : BoolOp} {a : Expr} {i : Mi.E} (ha : ME K E X cf pk a i) : ME K E X cf pk (.BoolOp op [a] pos) i := pe_one ha
/-- a value that is handed on -/
theorem Out.hand {Q : VK} {r1 : Res (D × Bool × AH)} (o : Out K E (TX K pk) ρ σ m O H (r1.bind fun q => .ok (q.1, false, q.2.2)) Q) : Out K E (TV K) ρ σ m O H r1 Q := by
  cases r1 with
  | stuck => exact o
  | exc e h' => exact o
  | ok p => exact fun m' O' H' v x' r' t => o m' O' H' v x' r' (TX.of t)
theorem me_and {a b : Expr} {rest : List Expr} {i j : Mi.E} (ha : ME K E X cf true a i) (hb : ME K E X cf false (.BoolOp .And (b :: rest) pos) j) : ME K E X cf pk (.BoolOp .And (a :: b :: rest) pos) (.and i j) := by
  refine PE.mono (pe_and (EV.peek ha) (EV.val hb)) fun σ H Q ⟨m, O, h, ρ, r, o⟩ => ⟨m, O, h, ρ, r, ?_⟩
  simp only [ev] at o
  refine (Out.seqB (tmX pk) o).imp ?_
  rintro x H1 ⟨c, rfl, m1, O1, h1, x1, r1, o1⟩
  refine ⟨c, rfl, ?_⟩
  cases c with
  | false => exact Out.now o1 r1 (TX.of (VR.b _))
  | true => exact ⟨m1, O1, h1, ρ, r1, Out.hand (pk := pk) o1⟩
theorem me_or {a b : Expr} {rest : List Expr} {i j : Mi.E} (ha : ME K E X cf true a i) (hb : ME K E X cf false (.BoolOp .Or (b :: rest) pos) j) : ME K E X cf pk (.BoolOp .Or (a :: b :: rest) pos) (.or i j) := by
  refine PE.mono (pe_or (EV.peek ha) (EV.val hb)) fun σ H Q ⟨m, O, h, ρ, r, o⟩ => ⟨m, O, h, ρ, r, ?_⟩
  simp only [ev] at o
  refine (Out.seqB (tmX pk) o).imp ?_
  rintro x H1 ⟨c, rfl, m1, O1, h1, x1, r1, o1⟩
  refine ⟨c, rfl, ?_⟩
  cases c with
  | true => exact Out.now o1 r1 (TX.of (VR.b _))
  | false => exact ⟨m1, O1, h1, ρ, r1, Out.hand (pk := pk) o1⟩
theorem OutT.hand {Q : Bool → Hp → Prop} {r1 : Res (D × Bool × AH)} (o : OutT K E ρ σ m O H (r1.bind fun q => .ok (q.1, false, q.2.2)) Q) : OutT K E ρ σ m O H r1 Q := by
  cases r1 with
  | stuck => exact o
  | exc e h' => exact o
  | ok p =>
    obtain ⟨d, fr, h'⟩ := p
    cases d with
    | bl b => exact o
    | _ => exact o.elim
/-- a test, whatever is said of the whole -/
abbrev MW (K : PySem.W.Frag) (E : EX) (X : Cx) (cf : Calls) (e : Expr) (i : Mi.E) : Prop := PW X e (EVT K E fun ρ => ev cf ρ i)
theorem mw_one_and {a : Expr} {i : Mi.E} (ha : MT K E X cf a i) : MW K E X cf (.BoolOp .And [a] pos) i := pw_and1 ha
theorem mw_one_or {a : Expr} {i : Mi.E} (ha : MT K E X cf a i) : MW K E X cf (.BoolOp .Or [a] pos) i := pw_or1 ha
theorem mw_and {a b : Expr} {rest : List Expr} {i j : Mi.E} (ha : MT K E X cf a i) (hb : MW K E X cf (.BoolOp .And (b :: rest) pos) j) : MW K E X cf (.BoolOp .And (a :: b :: rest) pos) (.and i j) := by
  refine PW.mono (pw_and ha hb) fun σ H Q ⟨m, O, h, ρ, r, o⟩ => ⟨m, O, h, ρ, r, ?_⟩
  simp only [ev] at o
  refine (OutT.seqT o).imp ?_
  rintro c H1 ⟨m1, O1, h1, x1, r1, o1⟩
  cases c with
  | false => exact o1 m1 O1 H1 .refl r1
  | true => exact ⟨m1, O1, h1, ρ, r1, OutT.hand o1⟩
theorem mw_or {a b : Expr} {rest : List Expr} {i j : Mi.E} (ha : MT K E X cf a i) (hb : MW K E X cf (.BoolOp .Or (b :: rest) pos) j) : MW K E X cf (.BoolOp .Or (a :: b :: rest) pos) (.or i j) := by
  refine PW.mono (pw_or ha hb) fun σ H Q ⟨m, O, h, ρ, r, o⟩ => ⟨m, O, h, ρ, r, ?_⟩
  simp only [ev] at o
  refine (OutT.seqT o).imp ?_
  rintro c H1 ⟨m1, O1, h1, x1, r1, o1⟩
  cases c with
  | true => exact o1 m1 O1 H1 .refl r1
  | false => exact ⟨m1, O1, h1, ρ, r1, OutT.hand o1⟩
theorem me_ite {c a b : Expr} {ic ia ib : Mi.E} (hc : MT K E X cf c ic) (ha : ME K E X cf pk a ia) (hb : ME K E X cf pk b ib) : ME K E X cf pk (.IfExp c a b pos) (.ite ic ia ib) := by
  refine PE.mono (pe_ifExp hc ha hb) fun σ H Q ⟨m, O, h, ρ, r, o⟩ => ⟨m, O, h, ρ, r, ?_⟩
  simp only [ev] at o
  cases e : ev cf ρ ic h with
  | stuck => rw [e] at o; exact o.elim
  | exc x h' => rw [e] at o; show OutT K E ρ σ m O H (ev cf ρ ic h) _; rw [e]; exact o
  | ok p =>
    rw [e] at o
    show OutT K E ρ σ m O H (ev cf ρ ic h) _
    rw [e]
    obtain ⟨d, fr, h'⟩ := p
    cases d with
    | bl k =>
      intro m' O' H' x' r'
      have o2 := Out.later (tmX pk) o x' r'
      cases k with
      | true => exact ⟨m', O', h', ρ, r', o2⟩
      | false => exact ⟨m', O', h', ρ, r', o2⟩
    | _ => exact o.elim

/-! ### tuples, lists, dicts -/
theorem me_tup {es : List Expr} {j : Nat} {is : Mi.Es} (ha : MA K E X cf es is) : ME K E X cf pk (.Tuple es j pos) (.tup is) := by
  refine PE.mono (pe_tup ha) fun σ H Q ⟨m, O, h, ρ, r, o⟩ => ⟨m, O, h, ρ, r, ?_⟩
  simp only [ev] at o
  refine (Out.seqA (tmX pk) o).imp ?_
  rintro vs H1 ⟨p, _, ⟨m1, O1, x1, r1, t1, o1⟩⟩
  unfold guard' at o1
  split at o1
  · rename_i hf
    have hl : p.1.length < sizeLine := of_decide_eq_true hf
    refine ⟨by rw [← t1.length]; omega, fun a ha => ?_⟩
    have c : Then K m1 O1 H1 ρ p.2 σ (TX K pk) (.tup p.1) false Q := fun m' O' H' w xx rr tt => o1 m' O' H' w xx rr tt
    exact c.tup r1 (fun _ _ _ _ _ q => TX.of q) t1 ha
  · exact o1.elim
theorem me_lst {es : List Expr} {is : Mi.Es} (ha : MA K E X cf es is) : ME K E X cf pk (.List es pos) (.lst is) := by
  refine PE.mono (pe_lst ha) fun σ H Q ⟨m, O, h, ρ, r, o⟩ => ⟨m, O, h, ρ, r, ?_⟩
  simp only [ev] at o
  refine (Out.seqA (tmX pk) o).imp ?_
  rintro vs H1 ⟨p, _, ⟨m1, O1, x1, r1, t1, o1⟩⟩
  unfold guard' at o1
  split at o1
  · rename_i hf
    have hl : p.1.length < sizeLine := of_decide_eq_true hf
    refine ⟨by rw [← t1.length]; omega, fun a ha => ?_⟩
    have c : Then K m1 O1 H1 ρ p.2 σ (TX K false) (.lst p.1) true Q := fun m' O' H' w xx rr tt => o1 m' O' H' w xx rr tt
    exact c.lst r1 t1 ha
  · exact o1.elim
/-- pairs, one behind the other -/
def unp : List (V × V) → List V
  | [] => []
  | p :: r => p.1 :: p.2 :: unp r
theorem unp_inj : ∀ {a b : List (V × V)}, unp a = unp b → a = b
  | [], [], _ => rfl
  | [], _ :: _, h => by simp [unp] at h
  | _ :: _, [], h => by simp [unp] at h
  | p :: a, q :: b, h => by
    simp only [unp, List.cons.injEq] at h
    rw [unp_inj h.2.2, show p = q from Prod.ext h.1 h.2.1]
structure MD (K : PySem.W.Frag) (E : EX) (X : Cx) (cf : Calls) (pos : Pos) (keys : List (Option Expr)) (values : List Expr) (is : Mi.Es) : Prop where
  ex : ∃ trs, PPs X pos keys values trs ∧ ∀ σ H Q, EVA K E (fun ρ => evs cf ρ is) σ H (fun vs H' => ∀ ps, vs = unp ps → Q ps H') → tPairs trs σ H Q
theorem md_nil : MD K E X cf pos [] [] .nil := ⟨[], pps_nil, fun σ H Q ⟨m, O, h, ρ, r, o⟩ => o m O H [] .refl r (by simp) [] rfl⟩
theorem md_cons {k v : Expr} {ks : List (Option Expr)} {vs : List Expr} {ik iv : Mi.E} {is : Mi.Es} (hk : ME K E X cf false k ik) (hv : ME K E X cf false v iv) (hr : MD K E X cf pos ks vs is) : MD K E X cf pos (some k :: ks) (v :: vs) (.cons ik (.cons iv is)) := by
  obtain ⟨trs, h1, h2⟩ := hr
  refine ⟨_, pps_cons (EV.val hk) (EV.val hv) h1, fun σ H Q ⟨m, O, h, ρ, r, o⟩ => ⟨m, O, h, ρ, r, ?_⟩⟩
  simp only [evs] at o
  refine (OutA.seq (T1 := TV K) o).imp ?_
  rintro x H1 ⟨p, _, ⟨m1, O1, x1, r1, t1, o1⟩⟩
  have o1' : OutA K E ρ σ m1 O1 H1 ((ev cf ρ iv p.2.2).bind fun p' => (evs cf ρ is p'.2.2).bind fun q => .ok (p.1 :: p'.1 :: q.1, q.2)) (fun vs H' => ∀ ps, vs = unp ps → Q ps H') := by
    cases e1 : ev cf ρ iv p.2.2 with
    | stuck => rw [e1] at o1; exact o1
    | exc _ _ => rw [e1] at o1; exact o1
    | ok p' =>
      rw [e1] at o1
      simp only [Res.bind_ok] at o1 ⊢
      cases e2 : evs cf ρ is p'.2.2 with
      | stuck => rw [e2] at o1; exact o1
      | exc _ _ => rw [e2] at o1; exact o1
      | ok q => rw [e2] at o1; exact o1
  refine ⟨m1, O1, _, ρ, r1, (OutA.seq (T1 := TV K) o1').imp ?_⟩
  rintro y H2 ⟨q, _, ⟨m2, O2, x2, r2, t2, o2⟩⟩
  refine h2 _ _ _ ⟨m2, O2, _, ρ, r2, (OutA.seqA o2).imp ?_⟩
  rintro zs H3 ⟨u, _, ⟨m3, O3, x3, r3, t3, o3⟩⟩ ps rfl
  refine o3 m3 O3 H3 (x :: y :: unp ps) .refl r3 ?_ ((x, y) :: ps) rfl
  rw [VRs_cons]
  refine ⟨x, _, rfl, VR.keep (x2.trans x3).keep _ _ t1, ?_⟩
  rw [VRs_cons]
  exact ⟨y, _, rfl, VR.keep x3.keep _ _ t2, t3⟩
theorem rows_kvs : ∀ {ds : List D} {vs : List V} {kvs : List (Key × D)}, VRs K m O H ds vs → rows? ds = some kvs → ∃ xs : List (Key × V), vs = unp (xs.map fun kv => (kV kv.1, kv.2)) ∧ VRk K m O H kvs xs
  | [], _, _, h, e => by
    rw [VRs_nil] at h; subst h
    unfold rows? at e; cases e
    exact ⟨[], rfl, by simp⟩
  | [_], _, _, _, e => by unfold rows? at e; cases e
  | k :: v :: r, _, kvs, h, e => by
    rw [VRs_cons] at h
    obtain ⟨x, vs, rfl, h1, h2⟩ := h
    rw [VRs_cons] at h2
    obtain ⟨y, vs, rfl, h3, h4⟩ := h2
    unfold rows? at e
    split at e
    · rename_i kk rs ek er
      cases e
      obtain ⟨xs, rfl, h5⟩ := rows_kvs h4 er
      refine ⟨(kk, y) :: xs, ?_, by rw [VRk_cons]; exact ⟨_, _, rfl, h3, h5⟩⟩
      rw [RC.key (.inl h1) ek]
      rfl
    · cases e
theorem me_dct0 : ME K E X cf pk (.Dict [] [] pos) (.dct .nil) := by
  refine PE.mono pe_dnewK fun σ H Q ⟨m, O, h, ρ, r, o⟩ p hp => ?_
  have o' : Out K E (TX K pk) ρ σ m O H (.ok (.dct [], true, h)) Q := by simpa [ev, evs, rows?, merge, guard'] using o
  have c : Then K m O H ρ h σ (TX K false) (.dct []) true Q := fun m' O' H' w xx rr tt => o' m' O' H' w xx rr tt
  exact c.dct r (by simp) hp
theorem me_dct {keys : List (Option Expr)} {values : List Expr} {is : Mi.Es} (hd : MD K E X cf pos keys values is) (hall : keys.all (·.isSome) = true) (hl : keys.length = values.length) (h0 : keys ≠ []) (h15 : keys.length ≤ 15) :
    ME K E X cf pk (.Dict keys values pos) (.dct is) := by
  obtain ⟨trs, h1, h2⟩ := hd
  refine PE.mono (pe_disp h1 hall hl h0 h15) fun σ H Q ⟨m, O, h, ρ, r, o⟩ p hp => h2 _ _ _ ?_
  have un := r.st.un hp
  have x0 : Ext m O H m O (upd H p (.dK [])) := Ext.new hp un
  have r0 : R K m O (upd H p (.dK [])) ρ h σ := r.new hp
  refine ⟨m, O, h, ρ, r0, ?_⟩
  simp only [ev] at o
  dsimp only
  cases e : evs cf ρ is h with
  | stuck => rw [e] at o; exact o
  | exc x h' => rw [e] at o; exact fun m' O' H' x' r' => o m' O' H' (x0.trans x') r'
  | ok q =>
    rw [e] at o
    intro m' O' H' vs x' r' hv ps hps
    obtain ⟨un', hp'⟩ := x'.un p un (by rw [upd_same]; exact fun q => nomatch q)
    rw [upd_same] at hp'
    simp only [Res.bind_ok] at o
    split at o
    · rename_i kvs ek
      obtain ⟨xs, hxs, hk⟩ := rows_kvs hv ek
      have := unp_inj (hps.symm.trans hxs)
      subst this
      unfold guard' at o
      split at o
      · rename_i hlen
        have hlen := of_decide_eq_true hlen
        refine ⟨hp', xs, rfl, by rw [← hk.length]; exact hlen, ?_⟩
        have xx : Ext m O H m' O' (upd H' p (.dK (mergeK [] xs))) := (x0.trans x').updNew hp un
        refine o m' O' _ (.ref p) xx (r.later xx (r'.st.updUn un')) ?_
        unfold TX
        simp only [if_true]
        exact ⟨p, rfl, hp, un', _, upd_same, VRk.keep (Keep.updUn un') _ _ (VRk.merge hk (by simp))⟩
      · exact o.elim
    · exact o.elim

/-! ### subscripts -/
theorem me_idx (hX : X.K = K) (hu : X.A.units + 64 < cLine) {a b : Expr} {ia ib : Mi.E} (ha : ME K E X cf true a ia) (hb : ME K E X cf true b ib) (hs : PlainIx b) : ME K E X cf pk (.Subscript a b pos) (.idx ia ib) := by
  refine PE.mono (pe_ix anyI (EV.peek ha) (EV.peek hb) hs) fun σ H Q ⟨m, O, h, ρ, r, oo⟩ => ⟨m, O, h, ρ, r, ?_⟩
  simp only [ev] at oo
  refine (Out.seq (T1 := TP K) (tmX pk) oo).imp ?_
  rintro x H1 ⟨p, _, ⟨m1, O1, x1, r1, t1, o1⟩⟩
  refine ⟨m1, O1, _, ρ, r1, (Out.seq (T1 := TP K) (tmX pk) o1).imp ?_⟩
  rintro y H2 ⟨q, _, ⟨m2, O2, x2, r2, t2, o2⟩⟩
  cases e : idx (deref q.2.2 p.1) q.1 with
  | stuck => rw [e] at o2; exact o2.elim
  | exc _ _ => exact absurd e idx_ne
  | ok d =>
    rw [e] at o2
    exact idx_ok hX hu (r2.st.deref (RC.keep x2 t1)) t2 e fun w hw => Out.now o2 r2 (TX.of hw)
/-- a part of a slice -/
def isNon : Mi.E → Bool
  | .non => true
  | _ => false
def EVO (K : PySem.W.Frag) (E : EX) (cf : Calls) (i : Mi.E) : TO := fun σ H Q => ∃ m O h ρ, R K m O H ρ h σ ∧ match ev cf ρ i h with
  | .ok p => match partOf i p.1 with
    | .ok l => ∀ m' O' H', Ext m O H m' O' H' → R K m' O' H' ρ p.2.2 σ → Q l H'
    | _ => False
  | .exc x h' => ∀ m' O' H', Ext m O H m' O' H' → R K m' O' H' ρ h' σ → E x m' O' H' h' σ
  | .stuck => False
theorem PO.mono {e : Option Expr} {t t' : TO} (h : PO X e t) (w : ∀ σ H Q, t' σ H Q → t σ H Q) : PO X e t' := ⟨fun pins s σ H Q I q => h.run pins s σ H Q I (w σ H Q q)⟩
abbrev MO (K : PySem.W.Frag) (E : EX) (X : Cx) (cf : Calls) (e : Option Expr) (i : Mi.E) : Prop := PO X e (EVO K E cf i)
theorem mo_none : MO K E X cf none .non := PO.mono po_none fun σ H Q ⟨m, O, h, ρ, r, o⟩ => by
  simp only [ev, partOf] at o
  exact o m O H .refl r
theorem mo_some {e : Expr} {i : Mi.E} (he : ME K E X cf true e i) (hi : isNon i = false) : MO K E X cf (some e) i := PO.mono (po_some (EV.peek he)) fun σ H Q ⟨m, O, h, ρ, r, o⟩ => by
  refine ⟨m, O, h, ρ, r, ?_⟩
  dsimp only
  cases q : ev cf ρ i h with
  | stuck => rw [q] at o; exact o.elim
  | exc x h' => rw [q] at o; exact o
  | ok p =>
    rw [q] at o
    obtain ⟨d, fr, h'⟩ := p
    intro m' O' H' v x' r' t
    dsimp only at o
    have key : ∀ l, partOf i d = .ok l → ∃ n, d = .int n ∧ l = some n := by
      intro l e
      unfold partOf at e
      split at e
      · cases hi
      · cases e; exact ⟨_, rfl, rfl⟩
      · cases e
    cases e : partOf i d with
    | ok l =>
      rw [e] at o
      obtain ⟨n, rfl, rfl⟩ := key l e
      exact ⟨n, RC.int t, o m' O' H' x' r'⟩
    | exc _ _ => rw [e] at o; exact o.elim
    | stuck => rw [e] at o; exact o.elim
theorem me_cut (hX : X.K = K) {a : Expr} {lo hi : Option Expr} {p2 : Pos} {ia il iu : Mi.E} (ha : ME K E X cf true a ia) (hl : MO K E X cf lo il) (hh : MO K E X cf hi iu) :
    ME K E X cf pk (.Subscript a (.Slice lo hi none p2) pos) (.cut ia il iu) := by
  refine PE.mono (pe_slice anyS (EV.peek ha) hl hh) fun σ H Q ⟨m, O, h, ρ, r, oo⟩ => ⟨m, O, h, ρ, r, ?_⟩
  simp only [ev] at oo
  refine (Out.seq (T1 := TP K) (tmX pk) oo).imp ?_
  rintro x H1 ⟨p, _, ⟨m1, O1, x1, r1, t1, o1⟩⟩
  refine ⟨m1, O1, _, ρ, r1, ?_⟩
  cases e1 : ev cf ρ il p.2.2 with
  | stuck => rw [e1] at o1; exact o1.elim
  | exc _ _ => rw [e1] at o1; exact o1
  | ok q =>
    rw [e1] at o1
    simp only [Res.bind_ok] at o1
    dsimp only
    cases e2 : partOf il q.1 with
    | stuck => rw [e2] at o1; exact o1.elim
    | exc _ _ => exact absurd e2 partOf_ne
    | ok l =>
      rw [e2] at o1
      simp only [Res.bind_ok] at o1
      intro m2 O2 H2 x2 r2
      have o2 := Out.later (tmX pk) o1 x2 r2
      refine ⟨m2, O2, _, ρ, r2, ?_⟩
      cases e3 : ev cf ρ iu q.2.2 with
      | stuck => rw [e3] at o2; exact o2.elim
      | exc _ _ => rw [e3] at o2; exact o2
      | ok u =>
        rw [e3] at o2
        simp only [Res.bind_ok] at o2
        dsimp only
        cases e4 : partOf iu u.1 with
        | stuck => rw [e4] at o2; exact o2.elim
        | exc _ _ => exact absurd e4 partOf_ne
        | ok k =>
          rw [e4] at o2
          simp only [Res.bind_ok] at o2
          intro m3 O3 H3 x3 r3
          have o3 := Out.later (tmX pk) o2 x3 r3
          cases e5 : cut p.1 l k with
          | stuck => rw [e5] at o3; exact o3.elim
          | exc _ _ => exact absurd e5 cut_ne
          | ok d =>
            rw [e5] at o3
            exact cut_ok hX r3 (RC.keep (x2.trans x3) t1) e5 fun m' O' H' w xx rr tt => o3 m' O' H' w xx rr tt

/-! ### calls -/
def noStar (es : List Expr) : Bool := es.all fun e => match e with | .Starred _ _ => false | _ => true
theorem star_plain : ∀ {es : List Expr} (env : Env), noStar es = true → starEach es env = es.map fun e => (false, eval e env)
  | [], _, _ => rfl
  | e :: es, env, h => by
    unfold noStar at h
    rw [List.all_cons, Bool.and_eq_true] at h
    have ih := star_plain (es := es) env h.2
    cases e <;> first | (simp only at h; exact absurd h.1 (by decide)) | (simp only [starEach, List.map_cons, ih])
theorem star_any {es : List Expr} (env : Env) (p : Pos) (h : noStar es = true) : (backTo p (starEach es env)).any (·.1) = false := by
  rw [star_plain env h]
  unfold backTo
  rw [List.map_map, List.any_map]
  induction es with
  | nil => rfl
  | cons e es ih =>
    unfold noStar at h
    rw [List.all_cons, Bool.and_eq_true] at h
    rw [List.any_cons, ih h.2]
    rfl
theorem star_cons {e : Expr} {es : List Expr} (env : Env) (h : noStar (e :: es) = true) : starEach (e :: es) env = (false, eval e env) :: starEach es env := by
  have h2 : noStar es = true := by
    unfold noStar at h ⊢
    rw [List.all_cons, Bool.and_eq_true] at h
    exact h.2
  rw [star_plain env h, star_plain env h2]
  rfl
theorem star_back {es : List Expr} (env : Env) (p : Pos) (h : noStar es = true) : backTo p (starEach es env) = es.map fun e => (false, eval e env) := by
  rw [star_plain env h]
  unfold backTo
  rw [List.map_map]
  rfl
theorem noStar_tail {e : Expr} {es : List Expr} (h : noStar (e :: es) = true) : noStar es = true := by
  unfold noStar at h ⊢
  rw [List.all_cons, Bool.and_eq_true] at h
  exact h.2
theorem me_bi (hX : X.K = K) (hc : X.calm = true) {f : Bi} {x : Str} {p : Pos} {e : Expr} {es : List Expr} {is : Mi.Es} (hf : ∀ c, f ≠ .isinst c) (hs : f ≠ .sortset) (hs2 : f ≠ .lenset) (hg : Gl X x) (hm : X.mg x = none) (hv : bootBuiltins x = some (biV f))
    (ha : MP K E X cf (e :: es) is) (hst : noStar (e :: es) = true) (hn : x ≠ "__name__") (hdb : (x == ("__debug__" : Str)) = false) : ME K E X cf pk (.Call (.Name x p) (e :: es) [] pos) (.bi f is) := by
  have key : PE X (.Call (.Name x p) (e :: es) [] pos) (tCB (AnyC X (biV f)) (EVP K E fun ρ => evs cf ρ is)) := by
    have h1 := star_cons X.env hst
    have h2 := star_any X.env pos (noStar_tail hst)
    cases f <;> first
      | exact absurd rfl (hf _)
      | exact absurd rfl hs
      | exact absurd rfl hs2
      | exact pe_callB anyC hg hm hv ha hn hdb h1 h2
      | exact pe_callTy anyC hg hm hv ha hn hdb h1 h2
  refine PE.mono key fun σ H Q ⟨m, O, h, ρ, r, oo⟩ => ⟨m, O, h, ρ, r, ?_⟩
  simp only [ev] at oo
  refine (Out.seqP (tmX pk) oo).imp ?_
  rintro vs H1 ⟨q, _, ⟨m1, O1, x1, r1, t1, o1⟩⟩
  cases e1 : bi f q.1 with
  | stuck => rw [e1] at o1; exact o1.elim
  | exc _ _ => exact absurd e1 bi_ne
  | ok d =>
    rw [e1] at o1
    exact bi_ok hX hc r1 t1 e1 hf hs fun m' O' H' w xx rr tt => o1 m' O' H' w xx rr tt
theorem me_isi (hX : X.K = K) {c : String} {p pc : Pos} {cn : Str} {e : Expr} {i : Mi.E} (hg : Gl X "isinstance") (hm : X.mg "isinstance" = none) (hgc : Gl X cn) (hmc : X.mg cn = none) (hvc : bootBuiltins cn = some (.type c)) (hn : cn ≠ "__name__") (hdb : (cn == ("__debug__" : Str)) = false)
    (ha : ME K E X cf true e i) (hst : noStar [e] = true) : ME K E X cf pk (.Call (.Name "isinstance" p) [e, .Name cn pc] [] pos) (.bi (.isinst c) (.cons i .nil)) := by
  have h1 : starEach [e, .Name cn pc] X.env = (false, eval e X.env) :: starEach [.Name cn pc] X.env := by
    have := star_cons (es := [.Name cn pc]) (e := e) X.env (by unfold noStar at hst ⊢; simpa using hst)
    exact this
  refine PE.mono (pe_callB call_isi hg hm (by decide +kernel) (pa_cons (EV.peek ha) (pa_cons (pe_bltn hgc hmc hvc (v := .ty c) rfl hn hdb) pa_nil) h1) (he := h1)) fun σ H Q ⟨m, O, h, ρ, r, oo⟩ => ⟨m, O, h, ρ, r, ?_⟩
  simp only [ev, evs] at oo
  have oo' : Out K E (TX K pk) ρ σ m O H ((ev cf ρ i h).bind fun p => (bi (.isinst c) [p.1]).bind fun d => .ok (d, true, p.2.2)) Q := by
    cases e1 : ev cf ρ i h with
    | stuck => rw [e1] at oo; exact oo
    | exc _ _ => rw [e1] at oo; exact oo
    | ok q => rw [e1] at oo; exact oo
  refine (Out.seq (T1 := TP K) (tmX pk) oo').imp ?_
  rintro v H1 ⟨q, _, ⟨m1, O1, x1, r1, t1, o1⟩⟩
  subst hX
  cases e1 : bi (.isinst c) [q.1] with
  | stuck => rw [e1] at o1; exact o1.elim
  | exc _ _ => exact absurd e1 bi_ne
  | ok d =>
    rw [e1] at o1
    exact isi_ok t1 e1 fun b hb => by subst hb; exact Out.now o1 r1 TX.bl

/-! ### sorted(set(..)) -/
theorem dedup_mem {α : Type} [DecidableEq α] {x : α} : ∀ {l : List α}, x ∈ dedup l ↔ x ∈ l
  | [] => Iff.rfl
  | a :: r => by
    unfold dedup
    split
    · rename_i h
      rw [dedup_mem, List.mem_cons]
      exact ⟨.inr, fun q => q.elim (fun e => e ▸ h) id⟩
    · rw [List.mem_cons, List.mem_cons, dedup_mem]
theorem dedup_nodup {α : Type} [DecidableEq α] : ∀ l : List α, (dedup l).Nodup
  | [] => List.nodup_nil
  | a :: r => by
    unfold dedup
    split
    · exact dedup_nodup r
    · rename_i h
      exact List.nodup_cons.mpr ⟨fun q => h (dedup_mem.mp q), dedup_nodup r⟩
theorem zAll_mem {x : Str} : ∀ (l acc : List Str), x ∈ zAll l acc ↔ x ∈ l ∨ x ∈ acc
  | [], acc => by simp [zAll]
  | a :: r, acc => by
    unfold zAll
    rw [zAll_mem r, List.mem_cons]
    split
    · rename_i h
      exact ⟨fun q => q.elim (fun z => .inl (.inr z)) .inr, fun q => q.elim (fun z => z.elim (fun e => .inr (e ▸ h)) .inl) .inr⟩
    · rw [List.mem_cons]
      exact ⟨fun q => q.elim (fun z => .inl (.inr z)) fun z => z.elim (fun e => .inl (.inl e)) .inr, fun q => q.elim (fun z => z.elim (fun e => .inr (.inl e)) .inl) fun z => .inr (.inr z)⟩
theorem zAll_nodup : ∀ (l acc : List Str), acc.Nodup → (zAll l acc).Nodup
  | [], acc, h => h
  | a :: r, acc, h => by
    unfold zAll
    refine zAll_nodup r _ ?_
    split
    · exact h
    · rename_i q
      exact List.nodup_cons.mpr ⟨q, h⟩
theorem zAll_dedup (l : List Str) : (zAll l []).Perm (dedup l) := by
  rw [List.perm_ext_iff_of_nodup (zAll_nodup l [] List.nodup_nil) (dedup_nodup l)]
  intro x
  rw [zAll_mem, dedup_mem]
  simp
theorem me_sortset (hX : X.K = K) (hc : X.calm = true) {p p2 q : Pos} {e : Expr} {i : Mi.E} (hg : Gl X "sorted") (hm : X.mg "sorted" = none) (hg2 : Gl X "set") (hm2 : X.mg "set" = none) (ha : ME K E X cf true e i) (hst : noStar [e] = true) :
    ME K E X cf pk (.Call (.Name "sorted" p) [.Call (.Name "set" p2) [e] [] q] [] pos) (.bi .sortset (.cons i .nil)) := by
  refine PE.mono (pe_srtset hc hg hm hg2 hm2 (EV.peek ha) (star_cons _ hst)) fun σ H Q ⟨m, O, h, ρ, r, oo⟩ => ⟨m, O, h, ρ, r, ?_⟩
  have oo' : Out K E (TX K pk) ρ σ m O H ((ev cf ρ i h).bind fun p => (bi .sortset [p.1]).bind fun d => .ok (d, true, p.2.2)) Q := by
    simp only [ev, evs] at oo
    cases e1 : ev cf ρ i h with
    | stuck => rw [e1] at oo; exact oo
    | exc _ _ => rw [e1] at oo; exact oo
    | ok q => rw [e1] at oo; exact oo
  refine (Out.seq (T1 := TP K) (tmX pk) oo').imp ?_
  rintro v H1 ⟨u, _, ⟨m1, O1, x1, r1, t1, o1⟩⟩
  obtain ⟨d, fr, h1⟩ := u
  cases d with
  | lst l =>
    simp only [bi] at o1
    cases es : sortSet? l with
    | none => rw [es] at o1; exact o1.elim
    | some res =>
      rw [es] at o1
      unfold sortSet? at es
      split at es
      · rename_i xs ex
        split at es
        · rename_i h64
          cases es
          obtain ⟨a, vs, rfl, hal, va⟩ := RC.lst t1
          have := va.strs ex
          subst this
          subst hX
          refine ⟨a, xs, rfl, .inl hal, h64, fun ys pp pm so hn => ?_⟩
          have ey : ys = sortS (dedup xs) := sortS_one (pm.trans (zAll_dedup xs)) so
          subst ey
          have c : Then X.K m1 O1 H1 ρ h1 σ (TX X.K false) (.lst ((sortS (dedup xs)).map D.str)) true Q := fun m' O' H' w xx rr tt => o1 m' O' H' w xx rr tt
          exact c.lst r1 (VRs.of_strs _) hn
        · cases es
      · cases es
  | _ => exact o1.elim

/-! ### d.get -/
theorem me_get1 (hu : X.A.units + 64 < cLine) {o e : Expr} {apos : Pos} {io ie : Mi.E} (ho : ME K E X cf true o io) (he : ME K E X cf true e ie) (mm : M1 X o "get" apos e pos) : ME K E X cf pk (.Call (.Attribute o "get" apos) [e] [] pos) (.get io (.cons ie .nil)) := by
  refine PE.mono (pe_dget1 (by omega) (EV.peek ho) (EV.peek he) mm) fun σ H Q ⟨m, O, h, ρ, r, oo⟩ => ⟨m, O, h, ρ, r, ?_⟩
  simp only [ev, evs] at oo
  refine (Out.seq (T1 := TP K) (tmX pk) oo).imp ?_
  rintro v H1 ⟨⟨d, fr, h1⟩, _, ⟨m1, O1, x1, r1, t1, o1⟩⟩
  cases d with
  | dct l =>
    obtain ⟨a, kvs, rfl, ha, hk⟩ := RC.dct t1
    refine ⟨a, rfl, .inl ⟨kvs, ha⟩, ?_⟩
    have o1' : Out K E (TX K pk) ρ σ m1 O1 H1 ((ev cf ρ ie h1).bind fun q => (getD (.dct l) [q.1]).bind fun d => .ok (d, false, q.2.2)) Q := by
      dsimp only [D.isDct, guard'] at o1
      simp only [if_true] at o1
      cases e1 : ev cf ρ ie h1 with
      | stuck => rw [e1] at o1; exact o1
      | exc _ _ => rw [e1] at o1; exact o1
      | ok q => rw [e1] at o1; exact o1
    refine ⟨m1, O1, _, ρ, r1, (Out.seq (T1 := TP K) (tmX pk) o1').imp ?_⟩
    rintro y H2 ⟨q, _, ⟨m2, O2, x2, r2, t2, o2⟩⟩
    obtain ⟨a2, kvs2, e2, ha2, hk2⟩ := RC.dct (RC.keep x2 t1)
    cases e2
    simp only [getD] at o2
    cases ek : q.1.key? with
    | none => rw [ek] at o2; exact o2.elim
    | some k =>
      rw [ek] at o2
      rw [RC.key t2 ek]
      refine ⟨_, .inl ⟨kvs2, k, ha2, rfl, rfl⟩, Out.now o2 r2 (TX.of ?_)⟩
      exact VO.getD (VRk.look k hk2) VR.n
  | _ => exact o1.elim
theorem me_get2 (hu : X.A.units + 64 < cLine) {o e f : Expr} {apos : Pos} {io ie jf : Mi.E} (ho : ME K E X cf true o io) (he : ME K E X cf true e ie) (hf : ME K E X cf false f jf) (mm : M2 X o "get" apos e f pos) : ME K E X cf pk (.Call (.Attribute o "get" apos) [e, f] [] pos) (.get io (.cons ie (.cons jf .nil))) := by
  refine PE.mono (pe_dget2 (by omega) (EV.peek ho) (EV.peek he) (EV.val hf) mm) fun σ H Q ⟨m, O, h, ρ, r, oo⟩ => ⟨m, O, h, ρ, r, ?_⟩
  simp only [ev, evs] at oo
  refine (Out.seq (T1 := TP K) (tmX pk) oo).imp ?_
  rintro v H1 ⟨⟨d, fr, h1⟩, _, ⟨m1, O1, x1, r1, t1, o1⟩⟩
  cases d with
  | dct l =>
    obtain ⟨a, kvs, rfl, ha, hk⟩ := RC.dct t1
    refine ⟨a, rfl, .inl ⟨kvs, ha⟩, ?_⟩
    have o1' : Out K E (TX K pk) ρ σ m1 O1 H1 ((ev cf ρ ie h1).bind fun q => (ev cf ρ jf q.2.2).bind fun u => (getD (.dct l) [q.1, u.1]).bind fun d => .ok (d, false, u.2.2)) Q := by
      dsimp only [D.isDct, guard'] at o1
      simp only [if_true] at o1
      cases e1 : ev cf ρ ie h1 with
      | stuck => rw [e1] at o1; exact o1
      | exc _ _ => rw [e1] at o1; exact o1
      | ok q =>
        rw [e1] at o1
        simp only [Res.bind_ok] at o1 ⊢
        cases e2 : ev cf ρ jf q.2.2 with
        | stuck => rw [e2] at o1; exact o1
        | exc _ _ => rw [e2] at o1; exact o1
        | ok u => rw [e2] at o1; exact o1
    refine ⟨m1, O1, _, ρ, r1, (Out.seq (T1 := TP K) (tmX pk) o1').imp ?_⟩
    rintro y H2 ⟨q, _, ⟨m2, O2, x2, r2, t2, o2⟩⟩
    refine ⟨m2, O2, _, ρ, r2, (Out.seq (T1 := TV K) (tmX pk) o2).imp ?_⟩
    rintro z H3 ⟨u, _, ⟨m3, O3, x3, r3, t3, o3⟩⟩
    obtain ⟨a2, kvs2, e2, ha2, hk2⟩ := RC.dct (RC.keep (x2.trans x3) t1)
    cases e2
    simp only [getD] at o3
    cases ek : q.1.key? with
    | none => rw [ek] at o3; exact o3.elim
    | some k =>
      rw [ek] at o3
      rw [RC.key t2 ek]
      refine ⟨_, .inl ⟨kvs2, k, ha2, rfl, rfl⟩, Out.now o3 r3 (TX.of ?_)⟩
      exact VO.getD (VRk.look k hk2) t3
  | _ => exact o1.elim

/-! ### a def of the text -/
theorem me_call {XR : XRel} {W : WX} {CXT : CXT} {k n : Nat} {a : Addr} {fd : FuncData} {ps : List Str} {f : String} {x : Str} {p : Pos} {e : Expr} {es : List Expr} {is : Mi.Es} (hX : X.K = K)
    (F : FnOk X.prog X.w X.K X.mg X.base CXT k a fd ps (spOf X.K XR n (cf f))) (hr : Room k X.A) (hg : Gl X x) (hm : X.mg x = some (.ref a)) (hk : PySem.W.keepIn X.K (.ref a) = true) (hb : Binds X.K fd ps [])
    (hx : ∀ σ, PassesAt CXT X σ (fun cls d H => W cls d σ H)) (ha : MA K (EW XR W) X cf (e :: es) is) (hl : (e :: es).length = n) (hst : noStar (e :: es) = true) (hdb : (x == ("__debug__" : Str)) = false)
    (hlen : ∀ ρ h p, evs cf ρ is h = .ok p → p.1.length = n) : ME K (EW XR W) X cf pk (.Call (.Name x p) (e :: es) [] pos) (.call f is) := by
  subst hX
  refine PE.mono (pe_callS (E := fun σ cls d H => W cls d σ H) F hr hg hm hk hb hx ha hdb (star_cons X.env hst) (star_any X.env pos (noStar_tail hst))) fun σ H Q ⟨m, O, h, ρ, r, oo⟩ => ⟨m, O, h, ρ, r, ?_⟩
  simp only [ev] at oo
  refine (Out.seqA (tmX pk) oo).imp ?_
  rintro vs H1 ⟨q, eq, ⟨m1, O1, x1, r1, t1, o1⟩⟩
  refine call_ok r1 t1 (by rw [← t1.length]; exact hlen _ _ _ eq) ?_
  cases e1 : cf f q.1 q.2 with
  | stuck => rw [e1] at o1; exact o1
  | exc _ _ => rw [e1] at o1; exact o1
  | ok u =>
    rw [e1] at o1
    intro m' O' H' v x' r' t
    refine o1 m' O' H' v x' r' ?_
    unfold TX at t ⊢
    cases hf : u.2.1 with
    | true => simp only [hf, if_true] at t ⊢; exact t
    | false =>
      simp only [hf, Bool.false_eq_true, if_false] at t ⊢
      split
      · exact .inl t
      · exact t
theorem me_call0 {XR : XRel} {W : WX} {CXT : CXT} {k : Nat} {a : Addr} {fd : FuncData} {f : String} {x : Str} {p : Pos} (hX : X.K = K)
    (F : FnOk X.prog X.w X.K X.mg X.base CXT k a fd [] (spOf X.K XR 0 (cf f))) (hr : Room k X.A) (hg : Gl X x) (hm : X.mg x = some (.ref a)) (hk : PySem.W.keepIn X.K (.ref a) = true) (hb : Binds X.K fd [] [])
    (hx : ∀ σ, PassesAt CXT X σ (fun cls d H => W cls d σ H)) (hdb : (x == ("__debug__" : Str)) = false) : ME K (EW XR W) X cf pk (.Call (.Name x p) [] [] pos) (.call f .nil) := by
  subst hX
  refine ⟨fun pins s σ H Q I ⟨m, O, h, ρ, r, oo⟩ => ?_⟩
  refine wpAny_Call_Name_kw (ld_glob I hg hm ?_ hdb)
  refine PySem.W.callWith_K0 I.kIn hk ?_
  refine run_fnS (E := fun σ cls d H => W cls d σ H) F hr hb (hx σ) I .nil ?_
  simp only [ev, evs, Res.bind_ok] at oo
  refine call_ok (ds := []) r (by simp) rfl ?_
  cases e1 : cf f [] h with
  | stuck => rw [e1] at oo; exact oo
  | exc _ _ => rw [e1] at oo; exact oo
  | ok u =>
    rw [e1] at oo
    intro m' O' H' v x' r' t
    refine oo m' O' H' v x' r' ?_
    unfold TX at t ⊢
    cases hf : u.2.1 with
    | true => simp only [hf, if_true] at t ⊢; exact t
    | false =>
      simp only [hf, Bool.false_eq_true, if_false] at t ⊢
      split
      · exact .inl t
      · exact t
end
end Mi

set_option Elab.async false
set_option linter.all false
set_option maxRecDepth 100000
set_option maxHeartbeats 4000000
/-! Mi: expressions of the text, turned to the interpreter's. -/
namespace Mi
open PySem PySem.Spec PyProof.Rows L2

structure TC where
  N : List Str
  fns : List (Str × (String × Nat))
inductive Md where | val | peek | test
  deriving DecidableEq
def spec : Bi → Bool
  | .isinst _ | .sortset | .lenset => true
  | _ => false
theorem spec_ok {b : Bi} (h : spec b = false) : (∀ c, b ≠ .isinst c) ∧ b ≠ .sortset ∧ b ≠ .lenset := by
  refine ⟨fun c e => ?_, fun e => ?_, fun e => ?_⟩ <;> subst e <;> cases h
def slotGo : List Str → Str → Nat → Option Nat
  | [], _, _ => none
  | y :: r, x, i => if y = x then some i else slotGo r x (i + 1)
def slot (N : List Str) (x : Str) : Option Nat := slotGo N x 0
def vis (sc : Scope) (x : Str) : Bool := match sc.names.lookup x with
  | some .local | some .cell | some .free => true
  | _ => false
def own (sc : Scope) (x : Str) : Bool := match sc.names.lookup x with
  | some .local | some .cell => true
  | _ => false
def glob (sc : Scope) (x : Str) : Bool := match sc.names.lookup x with
  | some .globalImplicit => true
  | _ => false
def opF : Operator → Option Op2
  | .Add => some .add | .Sub => some .sub | .Mult => some .mul | .FloorDiv => some .fdiv | .Mod => some .mod | .Pow => some .pow
  | _ => none
def cmpF : CmpOp → OpC
  | .Eq => .eq | .NotEq => .ne | .Lt => .lt | .LtE => .le | .Gt => .gt | .GtE => .ge | .Is => .is | .IsNot => .isnot | .In => .isin | .NotIn => .notin
theorem opF_ok {o : Operator} {p : Op2} (h : opF o = some p) : opOf p = o := by cases o <;> cases h <;> rfl
theorem cmpF_ok (o : CmpOp) : cmpOf (cmpF o) = o := by cases o <;> rfl
def bis : List (Str × Bi) := [("len", .len), ("all", .all), ("any", .any), ("sum", .sum), ("min", .min), ("max", .max), ("abs", .abs), ("int", .int), ("list", .list), ("tuple", .tuple), ("dict", .dict), ("sorted", .sorted)]
def tys : List (Str × String) := [("int", "int"), ("bool", "bool"), ("str", "str"), ("tuple", "tuple"), ("list", "list"), ("dict", "dict")]
def bltNames : List Str := ["len", "all", "any", "sum", "min", "max", "abs", "int", "list", "tuple", "dict", "sorted", "bool", "str", "isinstance", "range", "set"]
def okN (N : List Str) : Bool := N.all fun x => !(x == ("__debug__" : Str)) && !(x == ("__classdict__" : Str))
def esOf (f : Expr → Option E) : List Expr → Option Es
  | [] => some .nil
  | e :: r => match f e, esOf f r with
    | some a, some b => some (.cons a b)
    | _, _ => none
def boolOf (op : BoolOp) (f g : Expr → Option E) : List Expr → Option E
  | [] => none
  | [a] => g a
  | a :: b :: r => match f a, boolOf op f g (b :: r) with
    | some i, some j => some (match op with | .And => .and i j | .Or => .or i j)
    | _, _ => none
def dctOf (f : Expr → Option E) : List (Option Expr) → List Expr → Option Es
  | [], [] => some .nil
  | some k :: ks, v :: vs => match f k, f v, dctOf f ks vs with
    | some a, some b, some r => some (.cons a (.cons b r))
    | _, _, _ => none
  | _, _ => none
def partTr (f : Expr → Option E) : Option Expr → Option E
  | none => some .non
  | some e => match f e with
    | some i => if isNon i then none else some i
    | none => none
def namesOf (N : List Str) (ok : Str → Bool) : List Expr → Option (List Nat)
  | [] => some []
  | .Name x _ :: r => match slot N x, ok x, namesOf N ok r with
    | some i, true, some is => some (i :: is)
    | _, _, _ => none
  | _ :: _ => none
def tgTr (N : List Str) (ok : Str → Bool) : Expr → Option Tg
  | .Name x _ => match slot N x, ok x with
    | some i, true => some (.name i)
    | _, _ => none
  | .Tuple es _ _ => match namesOf N ok es with
    | some is => some (.tup is)
    | none => none
  | _ => none
def ownOf (N : List Str) : List (Str × NameKind) → List (Str × Nat)
  | [] => []
  | (x, k) :: r => match k with
    | .local | .cell => match slot N x with
      | some i => (x, i) :: ownOf N r
      | none => ownOf N r
    | _ => ownOf N r
def itTr (sc : Scope) (f : Expr → Option E) : Expr → Option It
  | .Call (.Name x p) args [] pos => if x = "range" then (if glob sc x && noStar args && (args.length == 1 || args.length == 2) then (esOf f args).map .range else none)
      else (f (.Call (.Name x p) args [] pos)).map .over
  | .Set _ _ _ => none
  | e => (f e).map .over
def esLen : Es → Nat
  | .nil => 0
  | .cons _ r => esLen r + 1
/-- the e of set(e) -/
def setArg : List Expr → Option Expr
  | [.Call (.Name y _) [e] [] _] => if y = "set" then some e else none
  | _ => none
def callTr (T : TC) (sc : Scope) (fv fp : Expr → Option E) (x : Str) (args : List Expr) : Option E :=
  if noStar args && glob sc x then
    match T.fns.lookup x with
    | some (f, n) => if args.length = n then (esOf fv args).map (.call f) else none
    | none =>
      if x = "isinstance" then match args with
        | [e, .Name c _] => match tys.lookup c, fp e with
          | some t, some i => if glob sc c then some (.bi (.isinst t) (.cons i .nil)) else none
          | _, _ => none
        | _ => none
      else match (if x = "sorted" then setArg args else none) with
        | some e => match fp e with
          | some i => if glob sc "set" && noStar [e] then some (.bi .sortset (.cons i .nil)) else none
          | none => none
        | none => match bis.lookup x with
          | some b => if args.isEmpty then none else (esOf fp args).map (.bi b)
          | none => none
  else none
def notCall : Expr → Bool
  | .Call _ _ _ _ => false
  | _ => true
/-- a value, told as one that is looked at or not -/
def tr (T : TC) : Nat → Md → Scope → Expr → Option E
  | 0, _, _, _ => none
  | n + 1, md, sc, e => match e with
    | .Constant .none _ _ => some .non
    | .Constant (.bool b) _ _ => some (.bl b)
    | .Constant (.int i) _ _ => some (.int i)
    | .Constant (.str x) _ _ => some (.str x)
    | .Name x _ => match slot T.N x, vis sc x with
      | some i, true => some (match md with | .val => .var i | _ => .pk i)
      | _, _ => none
    | .Tuple es _ _ => if noStar es then (esOf (tr T n .val sc) es).map .tup else none
    | .List es _ => if noStar es then (esOf (tr T n .val sc) es).map .lst else none
    | .Dict ks vs _ => if ks.length ≤ 15 then (dctOf (tr T n .val sc) ks vs).map .dct else none
    | .UnaryOp .USub a _ => (tr T n .peek sc a).map .neg
    | .UnaryOp .Not a _ => (tr T n (match md with | .test => .test | _ => .peek) sc a).map .not
    | .BoolOp op vs _ => match md with
      | .test => boolOf op (tr T n .test sc) (tr T n .test sc) vs
      | _ => boolOf op (tr T n .peek sc) (tr T n .val sc) vs
    | .BinOp a o b _ => match opF o, tr T n .peek sc a, tr T n .peek sc b with
      | some o, some i, some j => some (.bin o i j)
      | _, _, _ => none
    | .Compare a [o] [b] _ => match tr T n .peek sc a, tr T n .peek sc b with
      | some i, some j => if behindInMarks o b then none else some (.cmp (cmpF o) i j)
      | _, _ => none
    | .Compare a [o, o'] [b, c] _ => match tr T n .peek sc a, tr T n .peek sc b, tr T n .peek sc c with
      | some i, some j, some k => if lastMarks [o, o'] [b, c] then none else some (.chain (cmpF o) (cmpF o') i j k)
      | _, _, _ => none
    | .IfExp c a b _ => match md with
      | .test => none
      | md => match tr T n .test sc c, tr T n md sc a, tr T n md sc b with
        | some i, some j, some k => some (.ite i j k)
        | _, _, _ => none
    | .Subscript a (.Slice lo hi none _) _ => match tr T n .peek sc a, partTr (tr T n .peek sc) lo, partTr (tr T n .peek sc) hi with
      | some i, some j, some k => some (.cut i j k)
      | _, _, _ => none
    | .Subscript a b _ => match tr T n .peek sc a, tr T n .peek sc b with
      | some i, some j => (match b with | .Slice _ _ _ _ => none | _ => some (.idx i j))
      | _, _ => none
    | .Call (.Name x _) args [] _ => callTr T sc (tr T n .val sc) (tr T n .peek sc) x args
    | .Call (.Attribute o m apos) args [] pos => if m = "get" ∧ (apos.endLine == pos.line) = true ∧ noStar args = true ∧ notCall o = true then
        match args with
        | [a] => match tr T n .peek sc o, tr T n .peek sc a with
          | some i, some j => some (.get i (.cons j .nil))
          | _, _ => none
        | [a, b] => match tr T n .peek sc o, tr T n .peek sc a, tr T n .val sc b with
          | some i, some j, some k => some (.get i (.cons j (.cons k .nil)))
          | _, _, _ => none
        | _ => none
      else none
    | .ListComp elt [⟨tg, iter, ifs, 0⟩] scope _ =>
      if blkC T.N sc scope (ownOf T.N scope.names) then
        match itTr sc (tr T n .val sc) iter, tgTr T.N (own scope) tg, (match ifs with | [] => some (E.bl true) | [c] => tr T n .test (relS scope sc) c | _ => none), tr T n .val (relS scope sc) elt with
        | some src, some t, some c, some e => if (tgIs t).all fun i => decide (i ∈ (ownOf T.N scope.names).map (·.2)) then some (.lc ((ownOf T.N scope.names).map (·.2)) t src c e) else none
        | _, _, _, _ => none
      else none
    | _ => none

/-! ### what is known where a text is read -/
structure CC (T : TC) (sc : Scope) (X : Cx) (cf : Calls) (XR : XRel) (W : WX) (k : Nat) : Prop where
  N : X.N = T.N
  nd : T.N.Nodup
  okn : okN T.N = true
  sc : X.env.scope = sc
  calm : X.calm = true
  room : Room k X.A
  mb : ∀ x ∈ bltNames, X.mg x = none
  fns : ∀ x f n, T.fns.lookup x = some (f, n) → ∃ a fd ps, FnOk X.prog X.w X.K X.mg X.base (L2.CX X.prog X.w) k a fd ps (spOf X.K XR n (cf f)) ∧ X.mg x = some (.ref a) ∧ PySem.W.keepIn X.K (.ref a) = true ∧ Binds X.K fd ps [] ∧ ps.length = n ∧ (x == ("__debug__" : Str)) = false
  tk : Takes X W
theorem slotGo_ok : ∀ {N : List Str} {x : Str} {i j : Nat}, slotGo N x j = some i → ∃ k, i = j + k ∧ N[k]? = some x
  | [], _, _, _, h => by unfold slotGo at h; cases h
  | y :: r, x, i, j, h => by
    unfold slotGo at h
    by_cases e : y = x
    · rw [if_pos e] at h
      cases h
      exact ⟨0, rfl, by rw [e]; rfl⟩
    · rw [if_neg e] at h
      obtain ⟨k, h1, h2⟩ := slotGo_ok h
      exact ⟨k + 1, by omega, by simpa using h2⟩
theorem slot_ok {N : List Str} {x : Str} {i : Nat} (h : slot N x = some i) : N[i]? = some x := by
  obtain ⟨k, h1, h2⟩ := slotGo_ok h
  rw [h1, Nat.zero_add]
  exact h2
theorem vis_ok {sc : Scope} {x : Str} (h : vis sc x = true) : Vis sc x := by
  unfold vis at h
  unfold Vis
  split at h
  · exact .inl (by assumption)
  · exact .inr (.inl (by assumption))
  · exact .inr (.inr (by assumption))
  · cases h
theorem own_ok {sc : Scope} {x : Str} (h : own sc x = true) : L2.Loc sc x := by
  unfold own at h
  unfold L2.Loc
  split at h
  · exact .inl (by assumption)
  · exact .inr (by assumption)
  · cases h
theorem glob_ok {sc : Scope} {x : Str} (h : glob sc x = true) : sc.names.lookup x = some .globalImplicit := by
  unfold glob at h
  split at h
  · assumption
  · cases h
theorem okN_ok {N : List Str} {x : Str} {i : Nat} (h : okN N = true) (e : N[i]? = some x) : (x == ("__debug__" : Str)) = false ∧ (x == ("__classdict__" : Str)) = false := by
  unfold okN at h
  rw [List.all_eq_true] at h
  have z := h x (List.mem_of_getElem? e)
  simpa using z
theorem lookup_mem {α β : Type} [BEq α] [LawfulBEq α] : ∀ {l : List (α × β)} {a : α} {b : β}, l.lookup a = some b → (a, b) ∈ l
  | [], _, _, h => by simp at h
  | (c, d) :: r, a, b, h => by
    rw [List.lookup_cons] at h
    split at h
    · rename_i e
      have := eq_of_beq e
      cases h
      subst this
      exact List.mem_cons_self
    · exact List.mem_cons_of_mem _ (lookup_mem h)
theorem bis_ok {x : Str} {b : Bi} (h : bis.lookup x = some b) : x ∈ bltNames ∧ bootBuiltins x = some (biV b) ∧ x ≠ "__name__" ∧ (x == ("__debug__" : Str)) = false ∧ (∀ c, b ≠ .isinst c) ∧ b ≠ .sortset ∧ b ≠ .lenset := by
  have z := lookup_mem h
  have all : ∀ p ∈ bis, p.1 ∈ bltNames ∧ bootBuiltins p.1 = some (biV p.2) ∧ p.1 ≠ "__name__" ∧ (p.1 == ("__debug__" : Str)) = false ∧ spec p.2 = false := by
    intro p hp
    unfold bis at hp
    simp only [List.mem_cons, List.not_mem_nil, or_false] at hp
    rcases hp with rfl | rfl | rfl | rfl | rfl | rfl | rfl | rfl | rfl | rfl | rfl | rfl <;>
      exact ⟨by decide +kernel, rfl, by decide +kernel, by decide +kernel, rfl⟩
  obtain ⟨h1, h2, h3, h4, h5⟩ := all _ z
  exact ⟨h1, h2, h3, h4, spec_ok h5⟩
theorem tys_ok {x : Str} {t : String} (h : tys.lookup x = some t) : x ∈ bltNames ∧ bootBuiltins x = some (.type t) ∧ x ≠ "__name__" ∧ (x == ("__debug__" : Str)) = false := by
  have z := lookup_mem h
  have all : ∀ p ∈ tys, p.1 ∈ bltNames ∧ bootBuiltins p.1 = some (.type p.2) ∧ p.1 ≠ "__name__" ∧ (p.1 == ("__debug__" : Str)) = false := by
    intro p hp
    unfold tys at hp
    simp only [List.mem_cons, List.not_mem_nil, or_false] at hp
    rcases hp with rfl | rfl | rfl | rfl | rfl | rfl <;> exact ⟨by decide +kernel, rfl, by decide +kernel, by decide +kernel⟩
  exact all _ z
end Mi

set_option Elab.async false
set_option linter.all false
set_option maxRecDepth 100000
set_option maxHeartbeats 8000000
/-! Mi: the turned expressions are read as the text's. -/
namespace Mi
open PySem PySem.Spec PyProof.Rows L2

section
variable {T : TC} {sc : Scope} {X : Cx} {cf : Calls} {XR : XRel} {W : WX} {k : Nat}
/-- how a turned expression is read -/
def MG (md : Md) (K : PySem.W.Frag) (E : EX) (X : Cx) (cf : Calls) (e : Expr) (i : Mi.E) : Prop := match md with
  | .val => ME K E X cf false e i
  | .peek => ME K E X cf true e i
  | .test => MT K E X cf e i
theorem MG.all {md : Md} {K : PySem.W.Frag} {E : EX} {e : Expr} {i : Mi.E} (V : ∀ pk, ME K E X cf pk e i) (he : ∀ whole, isTrue e X.env whole = (do let v ← whole; standAt e.pos; holding [v] (truthy v))) : MG md K E X cf e i := by
  cases md with
  | val => exact V false
  | peek => exact V true
  | test => exact mt_val (V true) he
theorem CC.nd' (c : CC T sc X cf XR W k) : X.N.Nodup := by rw [c.N]; exact c.nd
theorem CC.gl (c : CC T sc X cf XR W k) {x : Str} (h : glob sc x = true) : Gl X x := by
  unfold Gl Env.kindOf
  rw [c.sc]
  exact glob_ok h
theorem CC.look (c : CC T sc X cf XR W k) {x : Str} {i : Nat} (h : slot T.N x = some i) : X.N[i]? = some x := by rw [c.N]; exact slot_ok h
theorem CC.vs (c : CC T sc X cf XR W k) {x : Str} (h : vis sc x = true) : Vis X.env.scope x := by rw [c.sc]; exact vis_ok h
theorem CC.blk (c : CC T sc X cf XR W k) (s : Shared) (H : Hp) (scope : Scope) (cl : List (Str × Addr)) (C : Addr) (fp : List Addr) :
    CC T (relS scope sc) (X.blk s H scope (compEnvC scope cl C X.env) fp) cf XR (fun _ _ _ _ => False) k :=
  ⟨c.N, c.nd, c.okn, by rw [← c.sc]; rfl, c.calm, c.room, c.mb, c.fns, fun u s' ⟨a, B, sI, pins, σ, H, cls, d, e, I, nb, up, sky, na, os, ag, w⟩ => w.elim⟩
theorem esOf_val {f : Expr → Option Mi.E} {K : PySem.W.Frag} {E : EX} (hf : ∀ e i, f e = some i → ME K E X cf false e i) : ∀ {es : List Expr} {is : Es}, noStar es = true → esOf f es = some is → MA K E X cf es is
  | [], _, _, h => by unfold esOf at h; cases h; exact ma_nil
  | e :: es, is, hs, h => by
    unfold esOf at h
    split at h
    · rename_i a b ea eb
      cases h
      exact ma_cons (hf _ _ ea) (esOf_val hf (noStar_tail hs) eb) (star_cons _ hs)
    · cases h
theorem esOf_peek {f : Expr → Option Mi.E} {K : PySem.W.Frag} {E : EX} (hf : ∀ e i, f e = some i → ME K E X cf true e i) : ∀ {es : List Expr} {is : Es}, noStar es = true → esOf f es = some is → MP K E X cf es is
  | [], _, _, h => by unfold esOf at h; cases h; exact mp_nil
  | e :: es, is, hs, h => by
    unfold esOf at h
    split at h
    · rename_i a b ea eb
      cases h
      exact mp_cons (hf _ _ ea) (esOf_peek hf (noStar_tail hs) eb) (star_cons _ hs)
    · cases h
theorem esOf_len {f : Expr → Option Mi.E} : ∀ {es : List Expr} {is : Es}, esOf f es = some is → esLen is = es.length
  | [], _, h => by unfold esOf at h; cases h; rfl
  | e :: es, is, h => by
    unfold esOf at h
    split at h
    · rename_i a b ea eb
      cases h
      show esLen b + 1 = es.length + 1
      rw [esOf_len eb]
    · cases h
theorem evs_len {ρ : Rho} : ∀ {is : Es} {h : AH} {p : List D × AH}, evs cf ρ is h = .ok p → p.1.length = esLen is
  | .nil, h, p, e => by simp only [evs] at e; cases e; rfl
  | .cons i r, h, p, e => by
    simp only [evs] at e
    obtain ⟨a, _, e⟩ := bind_ok_inv e
    obtain ⟨q, e2, e⟩ := bind_ok_inv e
    cases e
    show q.1.length + 1 = esLen r + 1
    rw [evs_len e2]
theorem boolOf_val {op : BoolOp} {f g : Expr → Option Mi.E} {K : PySem.W.Frag} {E : EX} {pos : Pos} (hf : ∀ e i, f e = some i → ME K E X cf true e i) (hg : ∀ e i, g e = some i → ME K E X cf false e i) :
    ∀ {es : List Expr} {i : Mi.E}, boolOf op f g es = some i → ∀ pk, ME K E X cf pk (.BoolOp op es pos) i
  | [], _, h, _ => by unfold boolOf at h; cases h
  | [a], _, h, pk => by
    unfold boolOf at h
    exact me_pkk (me_one (hg _ _ h))
  | a :: b :: r, _, h, pk => by
    unfold boolOf at h
    split at h
    · rename_i i j ei ej
      cases h
      cases op with
      | And => exact me_and (hf _ _ ei) (boolOf_val hf hg ej false)
      | Or => exact me_or (hf _ _ ei) (boolOf_val hf hg ej false)
    · cases h
theorem boolOf_test {op : BoolOp} {f : Expr → Option Mi.E} {K : PySem.W.Frag} {E : EX} {pos : Pos} (hf : ∀ e i, f e = some i → MT K E X cf e i) :
    ∀ {es : List Expr} {i : Mi.E}, boolOf op f f es = some i → MW K E X cf (.BoolOp op es pos) i
  | [], _, h => by unfold boolOf at h; cases h
  | [a], _, h => by
    unfold boolOf at h
    cases op with
    | And => exact mw_one_and (hf _ _ h)
    | Or => exact mw_one_or (hf _ _ h)
  | a :: b :: r, _, h => by
    unfold boolOf at h
    split at h
    · rename_i i j ei ej
      cases h
      cases op with
      | And => exact mw_and (hf _ _ ei) (boolOf_test hf ej)
      | Or => exact mw_or (hf _ _ ei) (boolOf_test hf ej)
    · cases h
theorem dctOf_ok {f : Expr → Option Mi.E} {K : PySem.W.Frag} {E : EX} {pos : Pos} (hf : ∀ e i, f e = some i → ME K E X cf false e i) : ∀ {ks : List (Option Expr)} {vs : List Expr} {is : Es}, dctOf f ks vs = some is →
    MD K E X cf pos ks vs is ∧ ks.all (·.isSome) = true ∧ ks.length = vs.length
  | [], [], _, h => by unfold dctOf at h; cases h; exact ⟨md_nil, rfl, rfl⟩
  | [], _ :: _, _, h => by unfold dctOf at h; cases h
  | none :: _, _, _, h => by unfold dctOf at h; cases h
  | some _ :: _, [], _, h => by unfold dctOf at h; cases h
  | some x :: ks, v :: vs, _, h => by
    unfold dctOf at h
    split at h
    · rename_i a b r ea eb er
      cases h
      obtain ⟨h1, h2, h3⟩ := dctOf_ok hf er
      exact ⟨md_cons (hf _ _ ea) (hf _ _ eb) h1, by rw [List.all_cons, h2]; rfl, by rw [List.length_cons, List.length_cons, h3]⟩
    · cases h
theorem partTr_ok {f : Expr → Option Mi.E} {K : PySem.W.Frag} {E : EX} (hf : ∀ e i, f e = some i → ME K E X cf true e i) {o : Option Expr} {i : Mi.E} (h : partTr f o = some i) : MO K E X cf o i := by
  unfold partTr at h
  split at h
  · cases h; exact mo_none
  · split at h
    · rename_i j ej
      split at h
      · cases h
      · rename_i hn
        cases h
        exact mo_some (hf _ _ ej) (Bool.eq_false_iff.mpr hn)
    · cases h
theorem pgs_names {N : List Str} {ok : Str → Bool} (hN : X.N = N) (nd : X.N.Nodup) (hok : ∀ x, ok x = true → L2.Loc X.env.scope x ∧ (X.fn x = true ∨ X.env.scope.names.lookup x = some .local)) : ∀ {es : List Expr} {is : List Nat}, namesOf N ok es = some is →
    PGs X es (gNames is) ∧ es.length = is.length ∧ (assignEach es X.env).length = is.length ∧ (assignEach es X.env).findIdx? (·.1) = none
  | [], _, h => by unfold namesOf at h; cases h; exact ⟨pgs_nil, rfl, rfl, rfl⟩
  | .Name x p :: r, _, h => by
    unfold namesOf at h
    split at h
    · rename_i i is e1 e2 e3
      cases h
      obtain ⟨h1, h2, h3, h4⟩ := pgs_names hN nd hok e3
      obtain ⟨l1, l2⟩ := hok _ e2
      refine ⟨pgs_cons (pg_name nd (by rw [hN]; exact slot_ok e1) l1 l2) h1, by rw [List.length_cons, List.length_cons, h2], ?_, ?_⟩
      · show (assignEach r X.env).length + 1 = is.length + 1
        rw [h3]
      · show List.findIdx? (·.1) ((false, _) :: assignEach r X.env) = none
        rw [List.findIdx?_cons]
        simp [h4]
    · cases h
  | .BoolOp .. :: _, _, h => by unfold namesOf at h; cases h
  | .NamedExpr .. :: _, _, h => by unfold namesOf at h; cases h
  | .BinOp .. :: _, _, h => by unfold namesOf at h; cases h
  | .UnaryOp .. :: _, _, h => by unfold namesOf at h; cases h
  | .Lambda .. :: _, _, h => by unfold namesOf at h; cases h
  | .IfExp .. :: _, _, h => by unfold namesOf at h; cases h
  | .Dict .. :: _, _, h => by unfold namesOf at h; cases h
  | .Set .. :: _, _, h => by unfold namesOf at h; cases h
  | .ListComp .. :: _, _, h => by unfold namesOf at h; cases h
  | .SetComp .. :: _, _, h => by unfold namesOf at h; cases h
  | .DictComp .. :: _, _, h => by unfold namesOf at h; cases h
  | .GeneratorExp .. :: _, _, h => by unfold namesOf at h; cases h
  | .Await .. :: _, _, h => by unfold namesOf at h; cases h
  | .Yield .. :: _, _, h => by unfold namesOf at h; cases h
  | .YieldFrom .. :: _, _, h => by unfold namesOf at h; cases h
  | .Compare .. :: _, _, h => by unfold namesOf at h; cases h
  | .Call .. :: _, _, h => by unfold namesOf at h; cases h
  | .FormattedValue .. :: _, _, h => by unfold namesOf at h; cases h
  | .JoinedStr .. :: _, _, h => by unfold namesOf at h; cases h
  | .Constant .. :: _, _, h => by unfold namesOf at h; cases h
  | .Attribute .. :: _, _, h => by unfold namesOf at h; cases h
  | .Subscript .. :: _, _, h => by unfold namesOf at h; cases h
  | .Starred .. :: _, _, h => by unfold namesOf at h; cases h
  | .List .. :: _, _, h => by unfold namesOf at h; cases h
  | .Tuple .. :: _, _, h => by unfold namesOf at h; cases h
  | .Slice .. :: _, _, h => by unfold namesOf at h; cases h
theorem tgTr_ok {K : PySem.W.Frag} {N : List Str} {ok : Str → Bool} (hK : X.K = K) (hc : X.calm = true) (hN : X.N = N) (nd : X.N.Nodup) (hok : ∀ x, ok x = true → L2.Loc X.env.scope x ∧ (X.fn x = true ∨ X.env.scope.names.lookup x = some .local)) {e : Expr} {t : Tg} (h : tgTr N ok e = some t) :
    PG X e (gOf K t) := by
  subst hK
  unfold tgTr at h
  split at h
  · split at h
    · rename_i i e1 e2
      cases h
      obtain ⟨l1, l2⟩ := hok _ e2
      exact pg_name nd (by rw [hN]; exact slot_ok e1) l1 l2
    · cases h
  · split at h
    · rename_i is e1
      cases h
      obtain ⟨h1, h2, h3, h4⟩ := pgs_names hN nd hok e1
      exact pg_tup hc h1 h3 h4
    · cases h
  · cases h
theorem callTr_ok (c : CC T sc X cf XR W k) {fv fp : Expr → Option Mi.E} (hv : ∀ e i, fv e = some i → ME X.K (EW XR W) X cf false e i) (hp : ∀ e i, fp e = some i → ME X.K (EW XR W) X cf true e i) {x : Str} {args : List Expr} {p pos : Pos} {i : Mi.E}
    (h : callTr T sc fv fp x args = some i) (pk : Bool) : ME X.K (EW XR W) X cf pk (.Call (.Name x p) args [] pos) i := by
  unfold callTr at h
  split at h
  · rename_i hb
    rw [Bool.and_eq_true] at hb
    obtain ⟨hst, hgl⟩ := hb
    split at h
    · rename_i f n hfn
      split at h
      · rename_i hlen
        obtain ⟨is, h1, rfl⟩ := Option.map_eq_some_iff.mp h
        obtain ⟨a, fd, ps, F, hm, hk, hb, hps, hdb⟩ := c.fns _ _ _ hfn
        match args, hst, hlen, h1 with
        | [], _, hlen, h1 =>
          unfold esOf at h1
          cases h1
          subst hlen
          have e0 : ps = [] := List.eq_nil_of_length_eq_zero hps
          subst e0
          exact me_call0 rfl F c.room (c.gl hgl) hm hk hb (passAt c.tk) hdb
        | e :: es, hst, hlen, h1 =>
          exact me_call rfl F c.room (c.gl hgl) hm hk hb (passAt c.tk) (esOf_val hv hst h1) hlen hst hdb fun ρ h p e => by rw [evs_len e, esOf_len h1, hlen]
      · cases h
    · split at h
      · rename_i hx
        subst hx
        split at h
        · rename_i e cn pc
          split at h
          · rename_i t i ht hi
            split at h
            · rename_i hg2
              cases h
              obtain ⟨h1, h2, h3, h4⟩ := tys_ok ht
              exact me_isi rfl (c.gl hgl) (c.mb _ (by decide +kernel)) (c.gl hg2) (c.mb _ h1) h2 h3 h4 (hp _ _ hi) (by
                unfold noStar at hst ⊢
                rw [List.all_cons, Bool.and_eq_true] at hst
                rw [List.all_cons, hst.1]
                rfl)
            · cases h
          · cases h
        · cases h
      · split at h
        · rename_i e he
          split at he
          · rename_i hx
            subst hx
            unfold setArg at he
            split at he
            · rename_i y py e' pq
              split at he
              · rename_i hy
                subst hy
                cases he
                split at h
                · rename_i i hi
                  split at h
                  · rename_i hb2
                    rw [Bool.and_eq_true] at hb2
                    cases h
                    exact me_sortset rfl c.calm (c.gl hgl) (c.mb _ (by decide +kernel)) (c.gl hb2.1) (c.mb _ (by decide +kernel)) (hp _ _ hi) hb2.2
                  · cases h
                · cases h
              · cases he
            · cases he
          · cases he
        · split at h
          · rename_i b hb
            split at h
            · cases h
            · obtain ⟨is, h1, rfl⟩ := Option.map_eq_some_iff.mp h
              obtain ⟨g1, g2, g3, g4, g5, g6, g7⟩ := bis_ok hb
              match args, hst, h1 with
              | [], _, _ => rename_i q; exact absurd rfl q
              | e :: es, hst, h1 => exact me_bi rfl c.calm g5 g6 g7 (c.gl hgl) (c.mb _ g1) g2 (esOf_peek hp hst h1) hst g3 g4
          · cases h
  · cases h
theorem itTr_ok (c : CC T sc X cf XR W k) {tg : Expr} {f : Expr → Option Mi.E} (hf : ∀ e i, f e = some i → ME X.K (EW XR W) X cf false e i) {e : Expr} {t : Mi.It} (h : itTr sc f e = some t) :
    PI X tg e (EVI X.K (EW XR W) fun ρ => evi cf ρ t) ∧ ∀ x, foldedSetIterable e X.env x = pure x := by
  have over : ∀ i, f e = some i → PI X tg e (EVI X.K (EW XR W) fun ρ => evi cf ρ (.over i)) := fun i hi => by
    have z := pi_over (tg := tg) rfl (EV.val (hf _ _ hi))
    have e : (fun (ρ : Rho) => evi cf ρ (.over i)) = fun ρ h => (ev cf ρ i h).bind fun p => match items p.1 with | some l => .ok (l, p.2.2) | none => .stuck := by
      funext ρ h
      simp only [evi] <;> rfl
    rw [e]
    exact z
  unfold itTr at h
  split at h
  · rename_i x p args pos
    refine ⟨?_, fun _ => rfl⟩
    split at h
    · rename_i hx
      subst hx
      split at h
      · rename_i hb
        simp only [Bool.and_eq_true, Bool.or_eq_true, beq_iff_eq] at hb
        obtain ⟨⟨hg, hst⟩, hl⟩ := hb
        obtain ⟨is, h1, rfl⟩ := Option.map_eq_some_iff.mp h
        have ha := esOf_val hf hst h1
        have hr : (fun (ρ : Rho) => evi cf ρ (.range is)) = fun ρ h => (evs cf ρ is h).bind fun p => (rng p.1).bind fun l => .ok (l, p.2) := by
          funext ρ h
          simp only [evi]
        rw [hr]
        match args, hst, hl, ha, h1 with
        | [a], hst, _, ha, h1 => exact pi_rng1 rfl (c.gl hg) (c.mb _ (by decide +kernel)) ha (star_plain _ hst) fun ρ h p e => by rw [evs_len e, esOf_len h1]; rfl
        | [a, b], hst, _, ha, h1 => exact pi_rng2 rfl (c.gl hg) (c.mb _ (by decide +kernel)) ha (star_plain _ hst) (star_plain _ (noStar_tail hst)) fun ρ h p e => by rw [evs_len e, esOf_len h1]; rfl
        | [], _, hl, _, _ => simp at hl
        | _ :: _ :: _ :: _, _, hl, _, _ => simp at hl
      · cases h
    · obtain ⟨i, h1, rfl⟩ := Option.map_eq_some_iff.mp h
      exact over i h1
  · cases h
  · rename_i n1 n2
    obtain ⟨i, h1, rfl⟩ := Option.map_eq_some_iff.mp h
    refine ⟨over i h1, fun x => ?_⟩
    cases e <;> first | rfl | exact absurd rfl (n2 _ _ _)
end
end Mi

set_option Elab.async false
set_option linter.all false
set_option maxRecDepth 100000
set_option maxHeartbeats 8000000
/-! Mi: the turned expressions are read as the text's (all of it). -/
namespace Mi
open PySem PySem.Spec PyProof.Rows L2

section
variable {T : TC} {cf : Calls} {XR : XRel} {k : Nat}
theorem own_blk {X : Cx} {scope : Scope} {s : Shared} {H : Hp} {cl : List (Str × Addr)} {C : Addr} {fp : List Addr} {x : Str} (h : own scope x = true) :
    L2.Loc (X.blk s H scope (compEnvC scope cl C X.env) fp).env.scope x ∧ ((X.blk s H scope (compEnvC scope cl C X.env) fp).fn x = true ∨ (X.blk s H scope (compEnvC scope cl C X.env) fp).env.scope.names.lookup x = some .local) := by
  show L2.Loc (relS scope X.env.scope) x ∧ ((scope.names.lookup x == some .cell) = true ∨ (relS scope X.env.scope).names.lookup x = some .local)
  rcases own_ok h with e | e
  · have z : (relS scope X.env.scope).names.lookup x = some .local := lookup_relS_keep (by decide) e
    exact ⟨.inl z, .inr z⟩
  · have z : (relS scope X.env.scope).names.lookup x = some .cell := lookup_relS_keep (by decide) e
    exact ⟨.inr z, .inl (by rw [e]; rfl)⟩
theorem test_yes {K : PySem.W.Frag} {E : EX} (σ : L2.St) (H : Hp) (Q : Bool → Hp → Prop) (h : EVT K E (fun ρ => ev cf ρ (.bl true)) σ H Q) : tYes σ H Q := by
  obtain ⟨m, O, hh, ρ, r, o⟩ := h
  simp only [ev] at o
  exact o m O H .refl r
theorem cmpF_back (o : OpC) : cmpF (cmpOf o) = o := by cases o <;> rfl
theorem pix {b : Expr} (h : ∀ l u s p, b ≠ .Slice l u s p) : PlainIx b := by
  intro o i
  cases b <;> first | rfl | exact absurd rfl (h _ _ _ _)
theorem abase {X : Cx} {o : Expr} {m : Str} (h : notCall o = true) : attributeBase o m X.env (eval o X.env) = eval o X.env := by
  cases o <;> first | rfl | cases h
theorem tr_ok : ∀ (n : Nat) (md : Md) (sc : Scope) (e : Expr) (i : Mi.E), tr T n md sc e = some i → ∀ (X : Cx) (W : WX), CC T sc X cf XR W k → MG md X.K (EW XR W) X cf e i
  | 0, _, _, _, _, h, _, _, _ => by unfold tr at h; cases h
  | n + 1, md, sc, e, i, h, X, W, c => by
    have ih := tr_ok n
    have hv : ∀ e i, tr T n .val sc e = some i → ME X.K (EW XR W) X cf false e i := fun e i h => ih .val sc e i h X W c
    have hp : ∀ e i, tr T n .peek sc e = some i → ME X.K (EW XR W) X cf true e i := fun e i h => ih .peek sc e i h X W c
    have ht : ∀ e i, tr T n .test sc e = some i → MT X.K (EW XR W) X cf e i := fun e i h => ih .test sc e i h X W c
    have hu := c.room.units
    unfold tr at h
    split at h
    · cases h; exact MG.all (fun pk => me_non) (by intro _; rfl)
    · cases h; exact MG.all (fun pk => me_bl) (by intro _; rfl)
    · cases h; exact MG.all (fun pk => me_int) (by intro _; rfl)
    · cases h; exact MG.all (fun pk => me_str) (by intro _; rfl)
    · split at h
      · rename_i j e1 e2
        have l := c.look e1
        obtain ⟨d1, d2⟩ := okN_ok c.okn (by rw [← c.N]; exact l)
        cases h
        cases md with
        | val => exact me_var l (c.vs e2) d1 d2
        | peek => exact me_pk l (c.vs e2) d1 d2
        | test => exact mt_val (me_pk l (c.vs e2) d1 d2) (by intro _; rfl)
      · cases h
    · split at h
      · rename_i hs
        obtain ⟨is, h1, rfl⟩ := Option.map_eq_some_iff.mp h
        exact MG.all (fun pk => me_tup (esOf_val hv hs h1)) (by intro _; rfl)
      · cases h
    · split at h
      · rename_i hs
        obtain ⟨is, h1, rfl⟩ := Option.map_eq_some_iff.mp h
        exact MG.all (fun pk => me_lst (esOf_val hv hs h1)) (by intro _; rfl)
      · cases h
    · split at h
      · rename_i ks vs p h15
        obtain ⟨is, h1, rfl⟩ := Option.map_eq_some_iff.mp h
        obtain ⟨h2, h3, h4⟩ := dctOf_ok (pos := p) hv h1
        refine MG.all (fun pk => ?_) (by intro _; rfl)
        match ks, vs, h1, h2, h3, h4, h15 with
        | [], [], h1, _, _, _, _ => unfold dctOf at h1; cases h1; exact me_dct0
        | [], _ :: _, _, _, _, h4, _ => simp at h4
        | x :: ks, vs, _, h2, h3, h4, h15 => exact me_dct h2 h3 h4 (fun q => nomatch q) h15
      · cases h
    · obtain ⟨j, h1, rfl⟩ := Option.map_eq_some_iff.mp h
      exact MG.all (fun pk => me_neg (hp _ _ h1)) (by intro _; rfl)
    · obtain ⟨j, h1, rfl⟩ := Option.map_eq_some_iff.mp h
      cases md with
      | val => exact me_not (hp _ _ h1)
      | peek => exact me_not (hp _ _ h1)
      | test => exact mt_not (ht _ _ h1)
    · cases md with
      | val => exact boolOf_val hp hv h false
      | peek => exact boolOf_val hp hv h true
      | test => exact (boolOf_test ht h).pt
    · split at h
      · rename_i o i j e1 e2 e3
        cases h
        have e0 := opF_ok e1
        subst e0
        exact MG.all (fun pk => me_bin rfl (hp _ _ e2) (hp _ _ e3)) (by intro _; rfl)
      · cases h
    · rename_i a o b p
      split at h
      · rename_i i j e1 e2
        split at h
        · cases h
        · rename_i hm
          cases h
          have hm := Bool.eq_false_iff.mpr hm
          rw [← cmpF_ok o] at hm ⊢
          generalize cmpF o = o' at hm ⊢
          cases o' <;> exact (match md with
            | .val => me_cmp rfl hu (hp _ _ e1) (hp _ _ e2) hm
            | .peek => me_cmp rfl hu (hp _ _ e1) (hp _ _ e2) hm
            | .test => mt_cmp rfl hu (hp _ _ e1) (hp _ _ e2) hm)
      · cases h
    · rename_i a o o' b cc p
      split at h
      · rename_i i j l e1 e2 e3
        split at h
        · cases h
        · rename_i hm
          cases h
          have hm := Bool.eq_false_iff.mpr hm
          rw [← cmpF_ok o, ← cmpF_ok o'] at hm ⊢
          generalize cmpF o = o1 at hm ⊢
          generalize cmpF o' = o2 at hm ⊢
          rw [cmpF_back, cmpF_back]
          exact (match md with
            | .val => me_chain rfl hu (hp _ _ e1) (hp _ _ e2) (hp _ _ e3) hm
            | .peek => me_chain rfl hu (hp _ _ e1) (hp _ _ e2) (hp _ _ e3) hm
            | .test => mt_chain rfl hu (hp _ _ e1) (hp _ _ e2) (hp _ _ e3) hm)
      · cases h
    · cases md with
      | test => cases h
      | val =>
        simp only at h
        split at h
        · rename_i i j l e1 e2 e3
          cases h
          exact me_ite (ht _ _ e1) (hv _ _ e2) (hv _ _ e3)
        · cases h
      | peek =>
        simp only at h
        split at h
        · rename_i i j l e1 e2 e3
          cases h
          exact me_ite (ht _ _ e1) (hp _ _ e2) (hp _ _ e3)
        · cases h
    · split at h
      · rename_i i j l e1 e2 e3
        cases h
        exact MG.all (fun pk => me_cut rfl (hp _ _ e1) (partTr_ok hp e2) (partTr_ok hp e3)) (by intro _; rfl)
      · cases h
    · split at h
      · rename_i i j e1 e2
        split at h
        · cases h
        · rename_i hb
          cases h
          exact MG.all (fun pk => me_idx rfl hu (hp _ _ e1) (hp _ _ e2) (pix hb)) (by intro _; rfl)
      · cases h
    · exact MG.all (fun pk => callTr_ok c hv hp h pk) (by intro _; rfl)
    · split at h
      · rename_i o m apos args pos hh
        obtain ⟨rfl, hl, hst, hb⟩ := hh
        split at h
        · rename_i a
          split at h
          · rename_i i j e1 e2
            cases h
            refine MG.all (fun pk => me_get1 hu (hp _ _ e1) (hp _ _ e2) ⟨abase hb, ?_, hl, star_back _ _ hst⟩) (by intro _; rfl)
            rw [star_back _ _ hst]
            rfl
          · cases h
        · rename_i a b
          split at h
          · rename_i i j l e1 e2 e3
            cases h
            refine MG.all (fun pk => me_get2 hu (hp _ _ e1) (hp _ _ e2) (hv _ _ e3) ⟨abase hb, ?_, hl, star_back _ _ hst⟩) (by intro _; rfl)
            rw [star_back _ _ hst]
            rfl
          · cases h
        · cases h
      · cases h
    · rename_i elt tg iter ifs scope p
      split at h
      · rename_i hbk
        split at h
        · rename_i src t cc ee e1 e2 e3 e4
          split at h
          · rename_i hown
            cases h
            obtain ⟨hi, hs⟩ := itTr_ok (tg := tg) c hv e1
            have hk : blkC X.N X.env.scope scope (ownOf T.N scope.names) = true := by rw [c.N, c.sc]; exact hbk
            have hw : ∀ i ∈ tgIs t, i ∈ (ownOf T.N scope.names).map (·.2) := by
              rw [List.all_eq_true] at hown
              exact fun i hi => of_decide_eq_true (hown i hi)
            have hg : ∀ (s : Shared) (H : Hp) (C : Addr) (cl : List (Str × Addr)) (fp : List Addr), PG (X.blk s H scope (compEnvC scope cl C X.env) fp) tg (gOf X.K t) := fun s H C cl fp =>
              tgTr_ok (X := X.blk s H scope (compEnvC scope cl C X.env) fp) rfl c.calm c.N c.nd' (fun x hx => own_blk hx) e2
            have he : ∀ (s : Shared) (H : Hp) (C : Addr) (cl : List (Str × Addr)) (fp : List Addr), ME X.K (EW XR fun _ _ _ _ => False) (X.blk s H scope (compEnvC scope cl C X.env) fp) cf false elt ee := fun s H C cl fp =>
              ih .val (relS scope sc) elt ee e4 _ _ (c.blk s H scope cl C fp)
            refine MG.all (fun pk => ?_) (by intro _; rfl)
            split at e3
            · cases e3
              exact pe_lcM rfl c.calm c.nd' hi (blkOk_by hk) hg (fun _ _ _ _ _ => pts_nil) (fun s H C cl fp => EV.val (he s H C cl fp)) hs (fun σ H Q o => test_yes σ H Q o) hw
            · rename_i c0
              have hc0 : ∀ (s : Shared) (H : Hp) (C : Addr) (cl : List (Str × Addr)) (fp : List Addr), MT X.K (EW XR fun _ _ _ _ => False) (X.blk s H scope (compEnvC scope cl C X.env) fp) cf c0 cc := fun s H C cl fp => ih .test (relS scope sc) c0 cc e3 _ _ (c.blk s H scope cl C fp)
              exact pe_lcM rfl c.calm c.nd' hi (blkOk_by hk) hg (fun s H C cl fp => pts_one (hc0 s H C cl fp)) (fun s H C cl fp => EV.val (he s H C cl fp)) hs (fun σ H Q o => o) hw
            · cases e3
          · cases h
        · cases h
      · cases h
    · cases h
end
end Mi

set_option Elab.async false
set_option linter.all false
set_option maxRecDepth 100000
set_option maxHeartbeats 4000000
/-! Mi: statements, by the interpreter. -/
namespace Mi
open PySem PySem.Spec PyProof.Rows L2

section
variable {K : PySem.W.Frag} {E : EX} {m0 m m1 : List Addr} {O0 O O1 : Labs} {H0 H H1 : Hp} {ρ ρ1 : Rho} {h h1 : AH} {σ : L2.St} {X : Cx} {cf : Calls} {wf : Nat} {pos : Pos}
/-- how a body's piece ends; m0 O0 H0: the def's entry; m O H: the piece's own -/
def OutS (K : PySem.W.Frag) (E : EX) (m0 : List Addr) (O0 : Labs) (H0 : Hp) (Z : Ends) (m : List Addr) (O : Labs) (H : Hp) (res : Res (Fl × Mi.St)) : Prop := match res with
  | .ok (.next, s) => ∀ m' O' H' σ', Ext m0 O0 H0 m' O' H' → Keep m O H m' O' H' → R K m' O' H' s.ρ s.h σ' → Z.nx σ' H'
  | .ok (.ret d fr, s) => ∀ m' O' H' v, Ext m0 O0 H0 m' O' H' → NoSl O' → RH K m' O' H' s.h → TX K false m' O' H' H0 d fr v → Z.rt v H'
  | .exc x h' => ∀ m' O' H' σ', Ext m0 O0 H0 m' O' H' → NoSl O' → RH K m' O' H' h' → E x m' O' H' h' σ'
  | .stuck => False
def ES (K : PySem.W.Frag) (E : EX) (m0 : List Addr) (O0 : Labs) (H0 : Hp) (r : Mi.St → Res (Fl × Mi.St)) : TS := fun Z σ H => ∃ m O h ρ, R K m O H ρ h σ ∧ Ext m0 O0 H0 m O H ∧ OutS K E m0 O0 H0 Z m O H (r ⟨ρ, h⟩)
theorem OutS.later {Z : Ends} {res : Res (Fl × Mi.St)} (o : OutS K E m0 O0 H0 Z m O H res) (k : Keep m O H m1 O1 H1) : OutS K E m0 O0 H0 Z m1 O1 H1 res := by
  match res, o with
  | .ok (.next, s), o => exact fun m' O' H' σ' x k' r => o m' O' H' σ' x (k.trans k') r
  | .ok (.ret d fr, s), o => exact o
  | .exc x h', o => exact o
  | .stuck, o => exact o
theorem Ext.hid (x : Ext m0 O0 H0 m O H) (n0 : NoSl O0) : Ext m0 O0 H0 m (hideS O) H :=
  ⟨x.pre, fun a h => ⟨hideS_fz (x.fz a h).1, (x.fz a h).2⟩, fun a i h => absurd h (n0 a i), fun a h n => ⟨hideS_un (x.un a h n).1, (x.un a h n).2⟩, fun a n h => hideS_ob (x.ob a n h)⟩
/-- errors in a body: the error's own heap is all that is told -/
def ErrH (E : EX) : Prop := ∀ x m O H h σ m' O' h', E x m O H h σ → E x m' O' H h' σ
theorem errH_EW {XR : XRel} {W : WX} : ErrH (EW XR W) := fun _ _ _ _ _ _ _ _ _ h => h
/-- an expression, then the rest of a statement -/
theorem OutS.seq {Z : Ends} {T1 : TR} {r1 : Res (D × Bool × AH)} {k : D × Bool × AH → Res (Fl × Mi.St)} (eh : ErrH E) (n0 : NoSl O0) (x0 : Ext m0 O0 H0 m O H) (o : OutS K E m0 O0 H0 Z m O H (r1.bind k)) :
    Out K E T1 ρ σ m O H r1 fun v H1 => ∃ p, r1 = .ok p ∧ ∃ m1 O1, Ext m O H m1 O1 H1 ∧ R K m1 O1 H1 ρ p.2.2 σ ∧ T1 m1 O1 H1 H p.1 p.2.1 v ∧ Ext m0 O0 H0 m1 O1 H1 ∧ OutS K E m0 O0 H0 Z m1 O1 H1 (k p) := by
  cases r1 with
  | stuck => exact o
  | exc e h' => exact fun m' O' H' x' r' => eh _ _ _ _ _ _ _ _ _ (o m' (hideS O') H' σ ((x0.trans x').hid n0) (hideS_no _) r'.st.hide)
  | ok p => exact fun m' O' H' v x' r' t => ⟨p, rfl, m', O', x', r', t, x0.trans x', OutS.later o x'.keep⟩
theorem OutS.seqT {Z : Ends} {r1 : Res (D × Bool × AH)} {k : Bool → AH → Res (Fl × Mi.St)} (eh : ErrH E) (n0 : NoSl O0) (x0 : Ext m0 O0 H0 m O H) (o : OutS K E m0 O0 H0 Z m O H (r1.bind (boolK k))) :
    OutT K E ρ σ m O H r1 fun b H1 => ∃ m1 O1 h1, Ext m O H m1 O1 H1 ∧ R K m1 O1 H1 ρ h1 σ ∧ Ext m0 O0 H0 m1 O1 H1 ∧ OutS K E m0 O0 H0 Z m1 O1 H1 (k b h1) := by
  cases r1 with
  | stuck => exact o
  | exc e h' => exact fun m' O' H' x' r' => eh _ _ _ _ _ _ _ _ _ (o m' (hideS O') H' σ ((x0.trans x').hid n0) (hideS_no _) r'.st.hide)
  | ok p =>
    obtain ⟨d, fr, h'⟩ := p
    cases d with
    | bl b => exact fun m' O' H' x' r' => ⟨m', O', h', x', r', x0.trans x', OutS.later o x'.keep⟩
    | _ => exact o.elim
theorem OutS.seqA {Z : Ends} {r1 : Res (List D × AH)} {k : List D × AH → Res (Fl × Mi.St)} (eh : ErrH E) (n0 : NoSl O0) (x0 : Ext m0 O0 H0 m O H) (o : OutS K E m0 O0 H0 Z m O H (r1.bind k)) :
    OutA K E ρ σ m O H r1 fun vs H1 => ∃ p, r1 = .ok p ∧ ∃ m1 O1, Ext m O H m1 O1 H1 ∧ R K m1 O1 H1 ρ p.2 σ ∧ VRs K m1 O1 H1 p.1 vs ∧ Ext m0 O0 H0 m1 O1 H1 ∧ OutS K E m0 O0 H0 Z m1 O1 H1 (k p) := by
  cases r1 with
  | stuck => exact o
  | exc e h' => exact fun m' O' H' x' r' => eh _ _ _ _ _ _ _ _ _ (o m' (hideS O') H' σ ((x0.trans x').hid n0) (hideS_no _) r'.st.hide)
  | ok p => exact fun m' O' H' v x' r' t => ⟨p, rfl, m', O', x', r', t, x0.trans x', OutS.later o x'.keep⟩
theorem OutS.next {Z : Ends} {s : Mi.St} (o : OutS K E m0 O0 H0 Z m O H (.ok (.next, s))) (x0 : Ext m0 O0 H0 m1 O1 H1) (k : Keep m O H m1 O1 H1) (r : R K m1 O1 H1 s.ρ s.h σ) : Z.nx σ H1 := o m1 O1 H1 σ x0 k r
theorem was0 (n0 : NoSl O0) (x0 : Ext m0 O0 H0 m O H) {a : Addr} {i : Nat} (hl : O a = .sl i) : H0 a = none := by
  cases e : H0 a with
  | none => rfl
  | some u =>
    cases q : O0 a with
    | un => rw [(x0.un a q (by rw [e]; exact fun z => nomatch z)).1] at hl; cases hl
    | fz => rw [(x0.fz a q).1] at hl; cases hl
    | sl j => exact absurd q (n0 a j)
    | ob n => rw [x0.ob a n q] at hl; cases hl

/-! ### what is changed -/
theorem Keep.updX {a : Addr} {o : HO} (hf : O a ≠ .fz) : Keep m O H m O (upd H a o) := by
  refine ⟨fun _ _ z => z, fun b hb => ⟨hb, fun u q => ?_⟩⟩
  have ne : b ≠ a := fun e => hf (by rw [← e]; exact hb)
  rcases q with q | ⟨o', q⟩
  · exact .inl (by rw [upd_ne ne]; exact q)
  · exact .inr ⟨o', by rw [upd_ne ne]; exact q⟩
theorem Ext.updX (x0 : Ext m0 O0 H0 m O H) (n0 : NoSl O0) {a : Addr} {o : HO} (hf : O a ≠ .fz) (hu : O a ≠ .un) : Ext m0 O0 H0 m O (upd H a o) := by
  refine ⟨x0.pre, fun b hb => ⟨(x0.fz b hb).1, fun u q => ?_⟩, fun b i hb => absurd hb (n0 b i), fun b hb hn => ⟨(x0.un b hb hn).1, ?_⟩, x0.ob⟩
  · exact (Keep.updX (m := m) hf).fz b (x0.fz b hb).1 |>.2 u ((x0.fz b hb).2 u q)
  · rw [upd_ne fun e => hu (by rw [← e]; exact (x0.un b hb hn).1)]
    exact (x0.un b hb hn).2
theorem R.mutOwn (r : R K m O H ρ h σ) {a : Addr} {o : HO} {n : Nat} {d : D} (ha : O a = .sl n) (e : σ[n]? = some (some (.ref a))) (c : CV K m O (upd H a o) a d) : R K m O (upd H a o) (ρ.set n (some (d, true))) h σ := by
  have hf : O a ≠ .fz := by rw [ha]; exact fun q => nomatch q
  have kp : Keep m O H m O (upd H a o) := Keep.updX hf
  refine ⟨⟨fun b hb => upd_some (r.st.lab b hb), r.st.len, fun k d' e' => ?_⟩, by rw [List.length_set]; exact r.len, fun i s v e1 e2 => ?_⟩
  · obtain ⟨b, h1, h2, h3⟩ := r.st.obj k d' e'
    exact ⟨b, h1, h2, h3.keep kp (upd_ne fun q => by rw [q, ha] at h2; cases h2)⟩
  · by_cases hi : n = i
    · subst hi
      rw [List.getElem?_set] at e1
      simp only [if_true] at e1
      split at e1
      · cases e1
        rw [e] at e2
        cases e2
        exact ⟨a, rfl, ha, c⟩
      · cases e1
    · rw [List.getElem?_set_ne hi] at e1
      match s, r.sl i s v e1 e2 with
      | none, _ => exact True.intro
      | some (d', false), ⟨w, ew, q⟩ => exact ⟨w, ew, VR.keep kp _ _ q⟩
      | some (d', true), ⟨b, eb, ob, cb⟩ => exact ⟨b, eb, ob, cb.keep kp (upd_ne fun q => by rw [q, ha] at ob; cases ob; exact hi rfl)⟩
theorem R.mutBox (r : R K m O H ρ h σ) {a : Addr} {o : HO} {n : Nat} {d : D} (ha : O a = .ob n) (em : m[n]? = some a) (c : CV K m O (upd H a o) a d) : R K m O (upd H a o) ρ (h.set n (.box d)) σ := by
  have hf : O a ≠ .fz := by rw [ha]; exact fun q => nomatch q
  have kp : Keep m O H m O (upd H a o) := Keep.updX hf
  refine ⟨⟨fun b hb => upd_some (r.st.lab b hb), by rw [List.length_set]; exact r.st.len, fun k d' e' => ?_⟩, r.len, fun i s v e1 e2 => ?_⟩
  · by_cases hk : n = k
    · subst hk
      rw [List.getElem?_set] at e'
      simp only [if_true] at e'
      split at e'
      · cases e'
        exact ⟨a, em, ha, c⟩
      · cases e'
    · rw [List.getElem?_set_ne hk] at e'
      obtain ⟨b, h1, h2, h3⟩ := r.st.obj k d' e'
      exact ⟨b, h1, h2, h3.keep kp (upd_ne fun q => by rw [q, ha] at h2; cases h2; exact hk rfl)⟩
  · match s, r.sl i s v e1 e2 with
    | none, _ => exact True.intro
    | some (d', false), ⟨w, ew, q⟩ => exact ⟨w, ew, VR.keep kp _ _ q⟩
    | some (d', true), ⟨b, eb, ob, cb⟩ => exact ⟨b, eb, ob, cb.keep kp (upd_ne fun q => by rw [q, ha] at ob; cases ob)⟩
/-- where a slot's thing stands -/
theorem R.place (r : R K m O H ρ h σ) {n j : Nat} {w : Bool} {d : D} (e : Mi.place ρ h n = some (w, j, d)) : ∃ a, σ[n]? = some (some (.ref a)) ∧ CV K m O H a d ∧ ((w = true ∧ j = n ∧ O a = .sl n) ∨ (w = false ∧ O a = .ob j ∧ m[j]? = some a)) := by
  unfold Mi.place at e
  split at e
  · rename_i d' e1
    cases e
    have hi : n < σ.length := by rw [← r.len]; exact (List.getElem?_eq_some_iff.mp e1).1
    have es : σ[n]? = some σ[n] := List.getElem?_eq_getElem hi
    obtain ⟨a, e2, e3, e4⟩ := r.sl n _ _ e1 es
    exact ⟨a, by rw [es, e2], e4, .inl ⟨rfl, rfl, e3⟩⟩
  · rename_i d' e1
    obtain ⟨p, e2, e3⟩ := Option.map_eq_some_iff.mp e
    cases e3
    obtain ⟨v, h1, h2, h3⟩ := r.get e1
    have h3 := h3 rfl
    unfold boxAt at e2
    split at e2
    · rename_i k
      split at e2
      · rename_i dd ek
        cases e2
        unfold VR at h3
        obtain ⟨a, rfl, ea⟩ := h3
        obtain ⟨b, b1, b2, b3⟩ := r.st.obj _ _ ek
        rw [ea] at b1
        cases b1
        exact ⟨a, h1, b3, .inr ⟨rfl, b2, ea⟩⟩
      · cases e2
    · cases e2
  · cases e
theorem R.placed (r : R K m O H ρ h σ) {n j : Nat} {w : Bool} {d' : D} {a : Addr} {o : HO} (e : σ[n]? = some (some (.ref a))) (hw : (w = true ∧ j = n ∧ O a = .sl n) ∨ (w = false ∧ O a = .ob j ∧ m[j]? = some a)) (c : CV K m O (upd H a o) a d') :
    R K m O (upd H a o) (Mi.placed ρ h w j d').ρ (Mi.placed ρ h w j d').h σ := by
  rcases hw with ⟨rfl, rfl, hl⟩ | ⟨rfl, hl, hm⟩
  · exact r.mutOwn hl e c
  · exact r.mutBox hl hm c
def AnyT (X : Cx) : TSet := fun o i v H Q => ∃ t : TSet, PSet X t ∧ t o i v H Q
theorem anyT {X : Cx} : PSet X (AnyT X) := fun pins s σ H o i v ov iv u Q I ro ri rv ⟨t, h, q⟩ => h pins s σ H o i v ov iv u Q I ro ri rv q
theorem put_ok (hu : X.A.units + 64 < cLine) {d i v d' : D} {a : Addr} {y x : V} {Q : Hp → Prop} (e : putAt d i v = .ok d') (c : CV K m O H a d) (ci : RC K m O H i y) (cv : VR K m O H v x) (hf : O a ≠ .fz)
    (q : ∀ o', CV K m O (upd H a o') a d' → Q (upd H a o')) : AnyT X (.ref a) y x H Q := by
  unfold putAt at e
  split at e
  · rename_i l
    split at e
    · rename_i k ek
      obtain ⟨g, e1⟩ := guard_ok e
      cases e1
      obtain ⟨kvs, hk, vk⟩ := c
      have g' : l.length < sizeLine := of_decide_eq_true g
      refine ⟨_, set_dict (by omega), a, _, rfl, .inl ⟨kvs, k, hk, RC.key ci ek, by rw [← vk.length]; exact g', rfl⟩, q _ ⟨_, upd_same, VRk.keep (Keep.updX hf) _ _ (vk.put k cv)⟩⟩
    · cases e
  · split at e
    · rename_i l j
      split at e
      · rename_i n en
        cases e
        obtain ⟨xs, hk, vk⟩ := c
        refine ⟨_, set_list, a, xs, j, n, rfl, RC.int ci, hk, by rw [← vk.length]; exact en, q _ ⟨_, upd_same, VRs.keep (Keep.updX hf) _ _ (vk.set n cv)⟩⟩
      · cases e
    · cases e
  · cases e
theorem putAt_ne {d i v : D} {x : Exn} {h : AH} : putAt d i v ≠ .exc x h := by
  unfold putAt
  split
  · split
    · exact guard_ne fun q => nomatch q
    · exact fun q => nomatch q
  · split
    · split <;> exact fun q => nomatch q
    · exact fun q => nomatch q
  · exact fun q => nomatch q
theorem ipop_ne {o : Op2} {d e : D} {x : Exn} {h : AH} : ipop o d e ≠ .exc x h := by
  unfold ipop
  split <;> exact fun q => nomatch q
def AnyP (X : Cx) (op : Operator) : TIp := fun x y H Q => ∃ t : TIp, PIp X op t ∧ t x y H Q
theorem anyP {X : Cx} {op : Operator} : PIp X op (AnyP X op) := fun pins s σ H x y v u Q I r1 r2 ⟨t, h, q⟩ => h pins s σ H x y v u Q I r1 r2 q
theorem ipop_ok {o : Op2} {d e z : D} {x y : V} {Q : VK} (ev : ipop o d e = .ok z) (cx : RC K m O H d x) (cy : RC K m O H e y) (q : ∀ w, VR K m O H z w → Q w H) : AnyP X (opOf o) x y H Q := by
  unfold ipop at ev
  split at ev
  · cases ev; exact ⟨_, ip_add, _, _, cx.int, cy.int, q _ (VR.i _)⟩
  · cases ev; exact ⟨_, ip_sub, _, _, cx.int, cy.int, q _ (VR.i _)⟩
  · cases ev
def AnyG (X : Cx) : V → V → Hp → VK → Prop := fun o i H Q => ∃ t, PGet X t ∧ t o i H Q
theorem anyG {X : Cx} : PGet X (AnyG X) := fun pins s σ H o i ov iv Q I ro ri ⟨t, h, q⟩ => h pins s σ H o i ov iv Q I ro ri q
theorem pget_dict (hu : X.A.units + 1 < cLine) : PGet X fun o i H Q => ∃ a v, o = .ref a ∧ DGet H a i (some v) ∧ Q v H := by
  intro pins s σ H o i ov iv Q I ro ri h
  obtain ⟨a, v, rfl, g, q⟩ := h
  cases (show ov = Value.ref a from ro)
  exact d_getItem hu I g ri fun w' s' I' r' => ⟨v, H, I', r', q⟩
end
end Mi

set_option Elab.async false
set_option linter.all false
set_option maxRecDepth 100000
set_option maxHeartbeats 4000000
/-! Mi: each kind of statement, by the interpreter. -/
namespace Mi
open PySem PySem.Spec PyProof.Rows L2

section
variable {K : PySem.W.Frag} {E : EX} {m0 m m1 : List Addr} {O0 O O1 : Labs} {H0 H H1 : Hp} {ρ ρ1 : Rho} {h h1 : AH} {σ : L2.St} {X : Cx} {cf : Calls} {wf : Nat} {pos : Pos}
abbrev MS (K : PySem.W.Frag) (E : EX) (m0 : List Addr) (O0 : Labs) (H0 : Hp) (X : Cx) (cf : Calls) (wf : Nat) (st : Stmt) (a : Mi.S) : Prop := PS X st (ES K E m0 O0 H0 (ex cf wf a))
abbrev MSs (K : PySem.W.Frag) (E : EX) (m0 : List Addr) (O0 : Labs) (H0 : Hp) (X : Cx) (cf : Calls) (wf : Nat) (st : List Stmt) (a : Mi.Ss) : Prop := PSs X st (ES K E m0 O0 H0 (exs cf wf a))
theorem sm_nil : MSs K E m0 O0 H0 X cf wf [] .nil := PSs.mono pss_nil fun Z σ H ⟨m, O, h, ρ, r, x0, o⟩ => by
  simp only [exs] at o
  exact o.next x0 .refl r
theorem sm_cons {st : Stmt} {sts : List Stmt} {a : Mi.S} {r : Mi.Ss} (h1 : MS K E m0 O0 H0 X cf wf st a) (h2 : MSs K E m0 O0 H0 X cf wf sts r) : MSs K E m0 O0 H0 X cf wf (st :: sts) (.cons a r) := by
  refine PSs.mono (pss_cons h1 h2) fun Z σ H ⟨m, O, h, ρ, rr, x0, o⟩ => ⟨m, O, h, ρ, rr, x0, ?_⟩
  simp only [exs] at o
  try dsimp only at o ⊢
  cases e : ex cf wf a ⟨ρ, h⟩ with
  | stuck => rw [e] at o; exact o
  | exc x h' => rw [e] at o; exact o
  | ok p =>
    rw [e] at o
    obtain ⟨fl, s⟩ := p
    cases fl with
    | next => exact fun m' O' H' σ' x' k' r' => ⟨m', O', s.h, s.ρ, r', x', OutS.later o k'⟩
    | ret d fr => exact o
/-- a slot's own is frozen -/
theorem frz_one (n0 : NoSl O0) (x0 : Ext m0 O0 H0 m O H) (r : R K m O H ρ h σ) (i : Nat) : ∃ O', Ext m0 O0 H0 m O' H ∧ Keep m O H m O' H ∧ R K m O' H (match ρ[i]? with | some (some (d, true)) => ρ.set i (some (d, false)) | _ => ρ) h σ := by
  split
  · rename_i d e
    have hi : i < σ.length := by rw [← r.len]; exact (List.getElem?_eq_some_iff.mp e).1
    have es : σ[i]? = some σ[i] := List.getElem?_eq_getElem hi
    obtain ⟨a, e1, e2, e3⟩ := r.sl i _ _ e es
    have hn := was0 n0 x0 e2
    have kp : Keep m O H m (Mi.lab O a .fz) H := by
      refine ⟨fun _ _ z => z, fun b hb => ⟨?_, fun _ q => q⟩⟩
      by_cases q : b = a
      · rw [q]; exact lab_same
      · rw [lab_ne q]; exact hb
    have other : ∀ b, b ≠ a → Mi.lab O a .fz b = O b := fun b hb => lab_ne hb
    have ne0 : ∀ b, (O0 b ≠ .un ∨ H0 b ≠ none) → b ≠ a := fun b hb q => by
      subst q
      rcases hb with hb | hb
      · cases q : O0 b with
        | un => exact hb q
        | fz => rw [(x0.fz b q).1] at e2; cases e2
        | sl j => exact n0 b j q
        | ob n => rw [x0.ob b n q] at e2; cases e2
      · exact hb hn
    refine ⟨_, ⟨x0.pre, fun b hb => ⟨?_, (x0.fz b hb).2⟩, fun b j hb => absurd hb (n0 b j), fun b hb hh => ⟨?_, (x0.un b hb hh).2⟩, fun b n hb => ?_⟩, kp, ⟨⟨fun b hb => ?_, r.st.len, fun n d' e' => ?_⟩, by rw [List.length_set]; exact r.len, fun j s v j1 j2 => ?_⟩⟩
    · rw [other b (ne0 b (.inl (by rw [hb]; exact fun q => nomatch q)))]; exact (x0.fz b hb).1
    · rw [other b (ne0 b (.inr hh))]; exact (x0.un b hb hh).1
    · rw [other b (ne0 b (.inl (by rw [hb]; exact fun q => nomatch q)))]; exact x0.ob b n hb
    · by_cases q : b = a
      · subst q; exact r.st.lab b (by rw [e2]; exact fun q => nomatch q)
      · rw [other b q] at hb; exact r.st.lab b hb
    · obtain ⟨b, h1, h2, h3⟩ := r.st.obj n d' e'
      refine ⟨b, h1, ?_, h3.keep kp rfl⟩
      rw [other b fun q => by rw [q, e2] at h2; cases h2]
      exact h2
    · by_cases hij : i = j
      · subst hij
        rw [List.getElem?_set] at j1
        simp only [if_true] at j1
        split at j1
        · cases j1
          rw [es] at j2
          cases j2
          refine ⟨.ref a, e1, ?_⟩
          cases d with
          | lst ds =>
            obtain ⟨xs, hx, hr⟩ := e3
            unfold VR
            exact ⟨a, xs, rfl, lab_same, .inl hx, VRs.keep kp _ _ hr⟩
          | dct ds =>
            obtain ⟨xs, hx, hr⟩ := e3
            unfold VR
            exact ⟨a, xs, rfl, lab_same, .inl hx, VRk.keep kp _ _ hr⟩
          | dcT ds =>
            obtain ⟨xs, hx, hr⟩ := e3
            unfold VR
            exact ⟨a, xs, rfl, lab_same, .inl hx, VRt.keep kp _ _ hr⟩
          | non => exact e3.elim
          | bl b => exact e3.elim
          | int b => exact e3.elim
          | str b => exact e3.elim
          | tup b => exact e3.elim
          | ref b => exact e3.elim
          | scr b => exact e3.elim
        · cases j1
      · rw [List.getElem?_set_ne hij] at j1
        match s, r.sl j s v j1 j2 with
        | none, _ => exact True.intro
        | some (d', false), ⟨w, ew, q⟩ => exact ⟨w, ew, VR.keep kp _ _ q⟩
        | some (d', true), ⟨b, eb, ob, cb⟩ =>
          refine ⟨b, eb, ?_, cb.keep kp rfl⟩
          rw [other b fun q => by rw [q, e2] at ob; cases ob; exact hij rfl]
          exact ob
  · exact ⟨O, x0, .refl, r⟩
theorem frz_all (n0 : NoSl O0) : ∀ (is : List Nat) {ρ : Rho} {O : Labs}, Ext m0 O0 H0 m O H → R K m O H ρ h σ → ∃ O', Ext m0 O0 H0 m O' H ∧ Keep m O H m O' H ∧ R K m O' H (frzR ρ is) h σ
  | [], _, O, x0, r => ⟨O, x0, .refl, r⟩
  | i :: is, _, O, x0, r => by
    obtain ⟨O1, x1, k1, r1⟩ := frz_one n0 x0 r i
    obtain ⟨O2, x2, k2, r2⟩ := frz_all n0 is x1 r1
    exact ⟨O2, x2, k1.trans k2, r2⟩
theorem sm_frz (n0 : NoSl O0) {sts : List Stmt} {is : List Nat} {r : Mi.Ss} (h : MSs K E m0 O0 H0 X cf wf sts r) : MSs K E m0 O0 H0 X cf wf sts (.cons (.frz is) r) := PSs.mono h fun Z σ H ⟨m, O, h, ρ, rr, x0, o⟩ => by
  simp only [exs, ex, Res.bind_ok] at o
  obtain ⟨O', x', k', r'⟩ := frz_all n0 is x0 rr
  exact ⟨m, O', h, _, r', x', OutS.later o k'⟩
theorem sm_pass {sts : List Stmt} {r : Mi.Ss} {p : Pos} (h : MSs K E m0 O0 H0 X cf wf sts r) : MSs K E m0 O0 H0 X cf wf (.Pass p :: sts) r := PSs.mono (pss_cons ps_pass h) fun Z σ H q => q
theorem TX.frozen {d : D} {fr : Bool} {v : V} (t : TX K false m1 O1 H1 H d fr v) (x : Ext m O H m1 O1 H1) (r0 : RH K m O H h) (r : R K m1 O1 H1 ρ h1 σ) : ∃ O'', Ext m O H m1 O'' H1 ∧ R K m1 O'' H1 ρ h1 σ ∧ VR K m1 O'' H1 d v := by
  unfold TX at t
  cases fr with
  | true => simp only [if_true] at t; exact t.frozen x r0 r
  | false => exact ⟨O1, x, r, by simpa using t⟩
theorem un0 (n0 : NoSl O0) (x0 : Ext m0 O0 H0 m O H) (r : RH K m O H h) {a : Addr} (hn : H a = none) : O0 a = .un ∧ H0 a = none := by
  refine ⟨?_, x0.was r hn⟩
  have q := r.un hn
  cases e : O0 a with
  | un => rfl
  | fz => rw [(x0.fz a e).1] at q; cases q
  | sl j => exact absurd e (n0 a j)
  | ob n => rw [x0.ob a n e] at q; cases q
theorem R.setOwn {d : D} {a : Addr} (r : R K m O H ρ h σ) (i : Nat) (hl : O a = .sl i) (c : CV K m O H a d) : R K m O H (ρ.set i (some (d, true))) h (σ.set i (some (.ref a))) := by
  refine ⟨r.st, by rw [List.length_set, List.length_set]; exact r.len, fun j s w e1 e2 => ?_⟩
  by_cases e : i = j
  · subst e
    rw [List.getElem?_set] at e1 e2
    simp only [if_true] at e1 e2
    split at e1
    · cases e1
      split at e2
      · cases e2; exact ⟨a, rfl, hl, c⟩
      · cases e2
    · cases e1
  · rw [List.getElem?_set_ne e] at e1 e2
    exact r.sl j s w e1 e2
/-- a name or names are bound -/
theorem asg_core (eh : ErrH E) (n0 : NoSl O0) {t : Tg} {ie : Mi.E} {Z : Ends} (q : ES K E m0 O0 H0 (ex cf wf (.asg t ie)) Z σ H) : EV K E (TX K false) (fun ρ => ev cf ρ ie) σ H fun x H1 => gOf K t x σ H1 Z.nx := by
  obtain ⟨m, O, h, ρ, rr, x0, o⟩ := q
  refine ⟨m, O, h, ρ, rr, ?_⟩
  simp only [ex] at o
  try dsimp only at o ⊢
  cases e : ev cf ρ ie h with
  | stuck => rw [e] at o; exact o
  | exc x h' =>
    rw [e] at o
    exact fun m' O' H' x' r' => eh _ _ _ _ _ _ _ _ _ (o m' (hideS O') H' σ ((x0.trans x').hid n0) (hideS_no _) r'.st.hide)
  | ok p =>
    rw [e] at o
    obtain ⟨d, fr, h'⟩ := p
    intro m' O' H' v x' r' tt
    have gen : OutS K E m0 O0 H0 Z m O H ((setTg t d ρ).bind fun ρ' => .ok (.next, ⟨ρ', h'⟩)) → gOf K t v σ H' Z.nx := fun o => by
      obtain ⟨O2, x2, r2, vr⟩ := tt.frozen x' rr.st r'
      cases e2 : setTg t d ρ with
      | stuck => rw [e2] at o; exact o.elim
      | exc _ _ => cases t <;> simp only [setTg] at e2 <;> first | exact absurd e2 (guard_ne fun q => nomatch q) | (split at e2 <;> first | cases e2 | (split at e2 <;> cases e2))
      | ok ρ' =>
        rw [e2] at o
        exact tg_ok e2 r2 vr fun σ2 r3 _ => o.next (x0.trans x2) x2.keep r3
    have own : ∀ i, t = .name i → (∃ a, v = .ref a ∧ H a = none ∧ O' a = .un ∧ CV K m' O' H' a d) → OutS K E m0 O0 H0 Z m O H (guard' (decide (i < ρ.length)) (.ok (.next, ⟨ρ.set i (some (d, true)), h'⟩))) → gOf K t v σ H' Z.nx := by
      rintro i rfl ⟨a, rfl, ha, ua, ca⟩ o
      unfold guard' at o
      split at o
      · obtain ⟨u0, hn0⟩ := un0 n0 x0 rr.st ha
        have hne : H' a ≠ none := by
          cases d with
          | lst ds => obtain ⟨xs, hx, _⟩ := ca; rw [hx]; exact fun q => nomatch q
          | dct ds => obtain ⟨xs, hx, _⟩ := ca; rw [hx]; exact fun q => nomatch q
          | dcT ds => obtain ⟨xs, hx, _⟩ := ca; rw [hx]; exact fun q => nomatch q
          | _ => exact ca.elim
        have r2 : R K m' (Mi.lab O' a (.sl i)) H' ρ h' σ := r'.relab ua hne
        exact o.next ((x0.trans x').relab hn0 u0) (x'.keep.trans (Keep.relab ua)) (r2.setOwn i lab_same (ca.keep (Keep.relab ua) rfl))
      · exact o.elim
    cases t with
    | tup is => exact gen o
    | name i =>
      cases fr with
      | false => cases d <;> exact gen o
      | true =>
        cases d with
        | lst l => exact own i rfl (by unfold TX at tt; simpa [FR] using tt) o
        | dct l => exact own i rfl (by unfold TX at tt; simpa [FR] using tt) o
        | _ => exact gen o
theorem sm_asg (eh : ErrH E) (n0 : NoSl O0) {x : Str} {px : Pos} {e : Expr} {i : Nat} {ie : Mi.E} (hN : X.N.Nodup) (hi : X.N[i]? = some x) (hx : L2.Loc X.env.scope x) (hf : X.fn x = true ∨ X.env.scope.names.lookup x = some .local) (he : ME K E X cf false e ie)
    (hs : swapsWith e (some (.Name x px)) pos.line X.env = pure false) : MS K E m0 O0 H0 X cf wf (.Assign [.Name x px] e pos) (.asg (.name i) ie) :=
  PS.mono (ps_set hN hi hx he hs hf) fun Z σ H q => asg_core eh n0 q
theorem sm_asgT (eh : ErrH E) (n0 : NoSl O0) {tg e : Expr} {t : Tg} {ie : Mi.E} (hg : PG X tg (gOf K t)) (he : ME K E X cf false e ie) (hs : swapsWithSole [tg] e pos.line X.env = pure false) (hw : swappedStores [tg] e X.env = pure none) (h1 : (assignEach [tg] X.env).map (·.2) = [assign tg X.env]) :
    MS K E m0 O0 H0 X cf wf (.Assign [tg] e pos) (.asg t ie) := PS.mono (ps_asg he hg hs hw h1) fun Z σ H q => asg_core eh n0 q
theorem sm_setLc {E' : EX} (eh : ErrH E) (n0 : NoSl O0) {i : Nat} {y : Str} {py lpos : Pos} {elt tg iter : Expr} {ifs : List Expr} {scope : Scope} {own : List (Str × Nat)} {t : Tg} {src : Mi.It} {c e : Mi.E} {tt : TT} (hK : X.K = K) (hc : X.calm = true) (hN : X.N.Nodup) (hy : X.N[i]? = some y) (hyl : X.env.scope.names.lookup y = some .local)
    (hsw : swapsWith (.ListComp elt [⟨tg, iter, ifs, 0⟩] scope lpos) (some (.Name y py)) pos.line X.env = pure true)
    (hi : PI X tg iter (EVI K E fun ρ => evi cf ρ src)) (ok : BlkOk X.N X.env.scope scope own)
    (hg : ∀ (s : Shared) (H : Hp) (C : Addr) (cl : List (Str × Addr)) (fp : List Addr), PG (X.blk s H scope (compEnvC scope cl C X.env) fp) tg (gOf K t)) (ht : ∀ (s : Shared) (H : Hp) (C : Addr) (cl : List (Str × Addr)) (fp : List Addr), PTs (X.blk s H scope (compEnvC scope cl C X.env) fp) ifs tt)
    (he : ∀ (s : Shared) (H : Hp) (C : Addr) (cl : List (Str × Addr)) (fp : List Addr), PE (X.blk s H scope (compEnvC scope cl C X.env) fp) elt (EV K E' (TV K) fun ρ => ev cf ρ e)) (hs : ∀ x, foldedSetIterable iter X.env x = pure x)
    (htt : ∀ σ H Q, EVT K E' (fun ρ => ev cf ρ c) σ H Q → tt σ H Q) (hw : ∀ i ∈ tgIs t, i ∈ own.map (·.2)) :
    MS K E m0 O0 H0 X cf wf (.Assign [.Name y py] (.ListComp elt [⟨tg, iter, ifs, 0⟩] scope lpos) pos) (.asg (.name i) (.lc (own.map (·.2)) t src c e)) :=
  PS.mono (ps_setLc hc hN hy hyl hsw hi ok hg ht he hs) fun Z σ H q => lc_ok (pk := false) htt hw σ H _ (asg_core eh n0 q)
theorem sm_par (eh : ErrH E) (n0 : NoSl O0) {i j : Nat} {x y : Str} {a b : Expr} {ia ib : Mi.E} {px py pt : Pos} {kt k2 pt2} (hc : X.calm = true) (hN : X.N.Nodup) (hi : X.N[i]? = some x) (hj : X.N[j]? = some y) (hij : i ≠ j)
    (hx : X.env.scope.names.lookup x = some .local) (hy : X.env.scope.names.lookup y = some .local) (ha : MA K E X cf [a, b] (.cons ia (.cons ib .nil)))
    (hw : swappedStores [.Tuple [.Name x px, .Name y py] kt pt] (.Tuple [a, b] k2 pt2) X.env = pure (some [x, y])) :
    MS K E m0 O0 H0 X cf wf (.Assign [.Tuple [.Name x px, .Name y py] kt pt] (.Tuple [a, b] k2 pt2) pos) (.par i j ia ib) := by
  refine PS.mono (ps_par hc hN hi hj hij hx hy ha hw) fun Z σ H ⟨m, O, h, ρ, rr, x0, o⟩ => ⟨m, O, h, ρ, rr, ?_⟩
  simp only [ex] at o
  have o' : OutS K E m0 O0 H0 Z m O H ((evs cf ρ (.cons ia (.cons ib .nil)) h).bind fun p => match p.1 with | [u, v] => .ok (.next, ⟨(ρ.set i (some (u, false))).set j (some (v, false)), p.2⟩) | _ => .stuck) := by
    try dsimp only at o
    simp only [evs]
    cases e1 : ev cf ρ ia h with
    | stuck => rw [e1] at o; exact o
    | exc _ _ => rw [e1] at o; exact o
    | ok p =>
      rw [e1] at o
      simp only [Res.bind_ok] at o ⊢
      cases e2 : ev cf ρ ib p.2.2 with
      | stuck => rw [e2] at o; exact o
      | exc _ _ => rw [e2] at o; exact o
      | ok q => rw [e2] at o; exact o
  refine OutA.imp (OutS.seqA (ρ := ρ) (σ := σ) eh n0 x0 o') ?_
  rintro vs H1 ⟨p, _, m1, O1, x1, r1, hv, x01, o1⟩
  obtain ⟨ds, h1⟩ := p
  match ds, hv, o1 with
  | [u, v], hv, o1 =>
    simp only [VRs_cons, VRs_nil] at hv
    obtain ⟨a1, _, rfl, q1, a2, _, rfl, q2, rfl⟩ := hv
    exact ⟨a1, a2, rfl, o1.next x01 .refl ((r1.set i q1).set j q2)⟩
  | [], _, o1 => exact o1.elim
  | [_], _, o1 => exact o1.elim
  | _ :: _ :: _ :: _, _, o1 => exact o1.elim
theorem held_ok (r : R K m O H ρ h σ) {n : Nat} (e : held ρ n = true) : ∃ v, σ[n]? = some (some v) := by
  unfold held at e
  split at e
  · rename_i s es
    obtain ⟨d, fl⟩ := s
    obtain ⟨v, h1, _⟩ := r.get es
    exact ⟨v, h1⟩
  · cases e
/-- d[k] = e, xs[j] = e -/
theorem sm_sub (eh : ErrH E) (n0 : NoSl O0) (hu : X.A.units + 64 < cLine) {x : Str} {px tp : Pos} {iE e : Expr} {n : Nat} {ii ie : Mi.E} (hN : X.N[n]? = some x) (hv : Vis X.env.scope x) (hd : (x == ("__debug__" : Str)) = false) (hcd : (x == ("__classdict__" : Str)) = false)
    (hi : ME K E X cf true iE ii) (he : ME K E X cf false e ie) (hs : swapsWithSole [.Subscript (.Name x px) iE tp] e pos.line X.env = pure false)
    (ha : ∀ v, assign (.Subscript (.Name x px) iE tp) X.env v = (do
      let ov ← holding [v] (eval (.Name x px) X.env)
      let iv ← holding [v, ov] (eval iE X.env)
      standAt tp
      holding [v, ov, iv] (setItem ov iv v)
      release [v, ov, iv] [])) :
    MS K E m0 O0 H0 X cf wf (.Assign [.Subscript (.Name x px) iE tp] e pos) (.sub n ii ie) := by
  refine PS.mono (ps_asg (EV.val he) (pg_sub (pe_var hN hv hd hcd) (EV.peek hi) anyT ha) hs) fun Z σ H ⟨m, O, h, ρ, rr, x0, o⟩ => ⟨m, O, h, ρ, rr, ?_⟩
  simp only [ex] at o
  refine Out.imp (OutS.seq (T1 := TV K) (ρ := ρ) (σ := σ) eh n0 x0 o) ?_
  rintro v H1 ⟨p, _, m1, O1, x1, r1, t1, x01, o1⟩
  try dsimp only at o1
  unfold guard' at o1
  split at o1
  · rename_i hh
    obtain ⟨w, ew⟩ := held_ok r1 hh
    refine ⟨w, ew, m1, O1, _, ρ, r1, Out.imp (OutS.seq (T1 := TP K) (ρ := ρ) (σ := σ) eh n0 x01 o1) ?_⟩
    rintro y H2 ⟨q, _, m2, O2, x2, r2, t2, x02, o2⟩
    cases e1 : place ρ q.2.2 n with
    | none => simp only [e1] at o2; exact o2.elim
    | some pl =>
      obtain ⟨wb, j, d⟩ := pl
      simp only [e1] at o2
      obtain ⟨a, ea, ca, hw⟩ := r2.place e1
      rw [ew] at ea
      cases ea
      have hf : O2 a ≠ .fz := by rcases hw with ⟨_, _, hl⟩ | ⟨_, hl, _⟩ <;> rw [hl] <;> exact fun q => nomatch q
      have hun : O2 a ≠ .un := by rcases hw with ⟨_, _, hl⟩ | ⟨_, hl, _⟩ <;> rw [hl] <;> exact fun q => nomatch q
      cases e2 : putAt d q.1 p.1 with
      | stuck => rw [e2] at o2; exact o2.elim
      | exc _ _ => exact absurd e2 putAt_ne
      | ok d' =>
        rw [e2] at o2
        refine put_ok hu e2 ca t2 (VR.keep x2.keep _ _ t1) hf fun o' c' => ?_
        exact OutS.next o2 (x02.updX n0 hf hun) (Keep.updX hf) (r2.placed ew hw c')
  · exact o1.elim
/-- d[k] op= e -/
theorem sm_augs (eh : ErrH E) (n0 : NoSl O0) (hu : X.A.units + 64 < cLine) {x : Str} {px tp : Pos} {iE e : Expr} {n : Nat} {ii ie : Mi.E} {op : Op2} (hN : X.N[n]? = some x) (hv : Vis X.env.scope x) (hd : (x == ("__debug__" : Str)) = false) (hcd : (x == ("__classdict__" : Str)) = false)
    (hi : ME K E X cf true iE ii) (he : ME K E X cf true e ie) (ha : ∀ ov iv new, augStore iE ov iv new = (do holding [new, ov, iv] (setItem ov iv new); release [new, ov, iv] []; pure .next)) :
    MS K E m0 O0 H0 X cf wf (.AugAssign (.Subscript (.Name x px) iE tp) (opOf op) e pos) (.augs n ii op ie) := by
  refine PS.mono (ps_augS (pe_var hN hv hd hcd) (EV.peek hi) (anyG (X := X)) (EV.peek he) anyP anyT ha) fun Z σ H ⟨m, O, h, ρ, rr, x0, o⟩ => ?_
  simp only [ex] at o
  try dsimp only at o
  unfold guard' at o
  split at o
  · rename_i hh
    obtain ⟨w, ew⟩ := held_ok rr hh
    refine ⟨w, ew, m, O, h, ρ, rr, Out.imp (OutS.seq (T1 := TP K) (ρ := ρ) (σ := σ) eh n0 x0 o) ?_⟩
    rintro y H2 ⟨q, _, m2, O2, x2, r2, t2, x02, o2⟩
    cases e1 : place ρ q.2.2 n with
    | none => simp only [e1] at o2; exact o2.elim
    | some pl =>
      obtain ⟨wb, j, d⟩ := pl
      simp only [e1] at o2
      obtain ⟨a, ea, ca, hw⟩ := r2.place e1
      rw [ew] at ea
      cases ea
      cases e2 : getK d q.1 with
      | stuck => rw [e2] at o2; exact o2.elim
      | exc _ _ => rw [e2] at o2; unfold getK at e2; split at e2 <;> first | cases e2 | (split at e2 <;> first | exact absurd e2 of_ne | cases e2)
      | ok z =>
        rw [e2] at o2
        unfold getK at e2
        split at e2
        · rename_i l
          split at e2
          · rename_i k ek
            obtain ⟨kvs, hk, vk⟩ := ca
            obtain ⟨u, eu, vu⟩ := (VRk.look k vk).some_of (of_ok e2)
            refine ⟨_, pget_dict (by omega), a, u, rfl, .inl ⟨kvs, k, .inl hk, RC.key t2 ek, eu.symm⟩, ?_⟩
            refine ⟨m2, O2, _, ρ, r2, Out.imp (OutS.seq (T1 := TP K) (ρ := ρ) (σ := σ) eh n0 x02 (show OutS K E m0 O0 H0 Z m2 O2 H2 ((ev cf ρ ie q.2.2).bind _) from o2)) ?_⟩
            rintro y4 H4 ⟨r, _, m4, O4, x4, r4, t4, x04, o4⟩
            cases e3 : ipop op z r.1 with
            | stuck => rw [e3] at o4; exact o4.elim
            | exc _ _ => exact absurd e3 ipop_ne
            | ok z' =>
              rw [e3] at o4
              simp only [Res.bind_ok] at o4
              refine ipop_ok e3 (.inl (VR.keep x4.keep _ _ vu)) t4 fun nw vnw => ?_
              cases e5 : place ρ r.2.2 n with
              | none => simp only [e5] at o4; exact o4.elim
              | some pl =>
                obtain ⟨wb5, j5, d5⟩ := pl
                simp only [e5] at o4
                obtain ⟨a5, ea5, ca5, hw5⟩ := r4.place e5
                rw [ew] at ea5
                cases ea5
                have hf : O4 a ≠ .fz := by rcases hw5 with ⟨_, _, hl⟩ | ⟨_, hl, _⟩ <;> rw [hl] <;> exact fun q => nomatch q
                have hun : O4 a ≠ .un := by rcases hw5 with ⟨_, _, hl⟩ | ⟨_, hl, _⟩ <;> rw [hl] <;> exact fun q => nomatch q
                cases e6 : putAt d5 q.1 z' with
                | stuck => rw [e6] at o4; exact o4.elim
                | exc _ _ => exact absurd e6 putAt_ne
                | ok d' =>
                  rw [e6] at o4
                  refine put_ok hu e6 ca5 (RC.keep x4 t2) vnw hf fun o' c' => ?_
                  exact OutS.next o4 (x04.updX n0 hf hun) (Keep.updX hf) (r4.placed ew hw5 c')
          · cases e2
        · cases e2
  · exact o.elim
/-- x op= e -/
theorem sm_augv (eh : ErrH E) (n0 : NoSl O0) {x : Str} {px : Pos} {e : Expr} {n : Nat} {ie : Mi.E} {op : Op2} (hN : X.N.Nodup) (hi : X.N[n]? = some x) (hx : L2.Loc X.env.scope x) (hf : X.fn x = true ∨ X.env.scope.names.lookup x = some .local) (he : ME K E X cf true e ie) :
    MS K E m0 O0 H0 X cf wf (.AugAssign (.Name x px) (opOf op) e pos) (.augv n op ie) := by
  refine PS.mono (ps_aug hN hi hx (EV.peek he) anyP hf) fun Z σ H ⟨m, O, h, ρ, rr, x0, o⟩ => ?_
  simp only [ex] at o
  try dsimp only at o
  split at o
  · rename_i d es
    obtain ⟨v, e1, _, e2⟩ := rr.get es
    have e2 := e2 rfl
    refine ⟨v, e1, m, O, h, ρ, rr, Out.imp (OutS.seq (T1 := TP K) (ρ := ρ) (σ := σ) eh n0 x0 o) ?_⟩
    rintro y H1 ⟨p, _, m1, O1, x1, r1, t1, x01, o1⟩
    cases e3 : ipop op d p.1 with
    | stuck => rw [e3] at o1; exact o1.elim
    | exc _ _ => exact absurd e3 ipop_ne
    | ok z =>
      rw [e3] at o1
      exact ipop_ok e3 (.inl (VR.keep x1.keep _ _ e2)) t1 fun w vw => OutS.next o1 x01 .refl (r1.set n vw)
  · exact o.elim
/-- xs.append(e) -/
theorem sm_app (eh : ErrH E) (n0 : NoSl O0) {x : Str} {px apos cpos : Pos} {e : Expr} {n : Nat} {ie : Mi.E} (hX : X.K = K) (hN : X.N[n]? = some x) (hv : Vis X.env.scope x) (hd : (x == ("__debug__" : Str)) = false) (hcd : (x == ("__classdict__" : Str)) = false)
    (he : ME K E X cf false e ie) (hst : noStar [e] = true) (hl : (apos.endLine == cpos.line) = true) : MS K E m0 O0 H0 X cf wf (.Expr (.Call (.Attribute (.Name x px) "append" apos) [e] [] cpos) pos) (.app n ie) := by
  subst hX
  refine PS.mono (ps_expr (pe_bm PySem.F.plainAttrs_list PySem.F.slot_list_append PySem.F.type_list_append mt_append (pe_var hN hv hd hcd) (pa_cons (EV.val he) pa_nil (star_cons _ hst)) rfl (by rw [star_back _ _ hst]; rfl) hl (star_cons _ hst))) fun Z σ H ⟨m, O, h, ρ, rr, x0, o⟩ => ?_
  simp only [ex] at o
  try dsimp only at o
  split at o
  · rename_i l es
    have hi : n < σ.length := by rw [← rr.len]; exact (List.getElem?_eq_some_iff.mp es).1
    have e0 : σ[n]? = some σ[n] := List.getElem?_eq_getElem hi
    obtain ⟨a, e1, hl0, xs0, hx0, vx0⟩ := rr.sl n _ _ es e0
    refine ⟨.ref a, by rw [e0, e1], .inl ⟨rfl, xs0, .inl (.inl hx0)⟩, m, O, h, ρ, rr, Out.imp (OutS.seq (T1 := TV X.K) (ρ := ρ) (σ := σ) eh n0 x0 o) ?_⟩
    rintro y H1 ⟨p, _, m1, O1, x1, r1, t1, x01, o1⟩
    unfold guard' at o1
    split at o1
    · rename_i hfit
      obtain ⟨hl1, hh1⟩ := x1.sl a n hl0
      have hf : O1 a ≠ .fz := by rw [hl1]; exact fun q => nomatch q
      have hun : O1 a ≠ .un := by rw [hl1]; exact fun q => nomatch q
      have hfit : l.length < sizeLine := of_decide_eq_true hfit
      have vx1 := VRs.keep x1.keep _ _ vx0
      refine ⟨a, xs0, y, rfl, rfl, by rw [hh1]; exact hx0, by rw [← vx0.length]; exact hfit, ?_⟩
      have c : CV X.K m1 O1 (upd H1 a (.lst (xs0 ++ [y]))) a (.lst (l ++ [p.1])) := ⟨_, upd_same, VRs.keep (Keep.updX hf) _ _ (vx1.append (VRs.one t1))⟩
      exact OutS.next o1 (x01.updX n0 hf hun) (Keep.updX hf) (r1.mutOwn hl1 (by rw [e0, e1]) c)
    · exact o1.elim
  · exact o.elim
theorem sm_expr (eh : ErrH E) (n0 : NoSl O0) {e : Expr} {ie : Mi.E} (he : ME K E X cf false e ie) (hs : swapsWith e none pos.line X.env = pure false) : MS K E m0 O0 H0 X cf wf (.Expr e pos) (.expr ie) := by
  refine PS.mono (ps_expr (EV.val he) hs) fun Z σ H ⟨m, O, h, ρ, rr, x0, o⟩ => ⟨m, O, h, ρ, rr, ?_⟩
  simp only [ex] at o
  refine Out.imp (OutS.seq (T1 := TV K) (ρ := ρ) (σ := σ) eh n0 x0 o) ?_
  rintro y H1 ⟨p, _, m1, O1, x1, r1, t1, x01, o1⟩
  exact OutS.next o1 x01 .refl r1
end
end Mi

set_option Elab.async false
set_option linter.all false
set_option maxRecDepth 100000
set_option maxHeartbeats 4000000
/-! Mi: return, if, loops, things of the store. -/
namespace Mi
open PySem PySem.Spec PyProof.Rows L2

section
variable {K : PySem.W.Frag} {E : EX} {m0 m m1 : List Addr} {O0 O O1 : Labs} {H0 H H1 : Hp} {ρ ρ1 : Rho} {h h1 : AH} {σ : L2.St} {X : Cx} {cf : Calls} {wf : Nat} {pos : Pos}
theorem FR.hidden {d : D} {v : V} (n0 : NoSl O0) (x0 : Ext m0 O0 H0 m O H) (r : RH K m O H h) (x : Ext m O H m1 O1 H1) (t : FR K m1 O1 H1 H d v) : FR K m1 (hideS O1) H1 H0 d v := by
  have c : ∀ a, H a = none → H0 a = none := fun a ha => x0.was r ha
  cases d with
  | lst l => obtain ⟨a, e, hn, hu, cv⟩ := t; exact ⟨a, e, c a hn, hideS_un hu, cv.keep keep_hide rfl⟩
  | dct l => obtain ⟨a, e, hn, hu, cv⟩ := t; exact ⟨a, e, c a hn, hideS_un hu, cv.keep keep_hide rfl⟩
  | dcT l => obtain ⟨a, e, hn, hu, cv⟩ := t; exact ⟨a, e, c a hn, hideS_un hu, cv.keep keep_hide rfl⟩
  | non => exact VR.keep keep_hide _ _ t
  | bl b => exact VR.keep keep_hide _ _ t
  | int b => exact VR.keep keep_hide _ _ t
  | str b => exact VR.keep keep_hide _ _ t
  | tup b => exact VR.keep keep_hide _ _ t
  | ref b => exact VR.keep keep_hide _ _ t
  | scr b => exact VR.keep keep_hide _ _ t
theorem TX.hidden {d : D} {v : V} {fr : Bool} (n0 : NoSl O0) (x0 : Ext m0 O0 H0 m O H) (r : RH K m O H h) (x : Ext m O H m1 O1 H1) (t : TX K false m1 O1 H1 H d fr v) : TX K false m1 (hideS O1) H1 H0 d fr v := by
  unfold TX at t ⊢
  cases fr with
  | true => simp only [if_true] at t ⊢; exact FR.hidden n0 x0 r x t
  | false => simp only [Bool.false_eq_true, if_false] at t ⊢; exact VR.keep keep_hide _ _ t
theorem sm_ret (eh : ErrH E) (n0 : NoSl O0) {e : Expr} {ie : Mi.E} (he : ME K E X cf false e ie) (hne : ∀ i, ie ≠ .pk i) : MS K E m0 O0 H0 X cf wf (.Return (some e) pos) (.ret ie) := by
  refine PS.mono (ps_ret he) fun Z σ H ⟨m, O, h, ρ, rr, x0, o⟩ => ⟨m, O, h, ρ, rr, ?_⟩
  have o' : OutS K E m0 O0 H0 Z m O H ((ev cf ρ ie h).bind fun p => .ok (.ret p.1 p.2.1, ⟨ρ, p.2.2⟩)) := by
    simp only [ex] at o
    have : evR cf ρ ie h = ev cf ρ ie h := by
      unfold evR
      cases ie <;> first | rfl | exact absurd rfl (hne _)
    rw [this] at o
    exact o
  refine Out.imp (OutS.seq (T1 := TX K false) (ρ := ρ) (σ := σ) eh n0 x0 o') ?_
  rintro y H1 ⟨p, _, m1, O1, x1, r1, t1, x01, o1⟩
  exact o1 m1 (hideS O1) H1 y (x01.hid n0) (hideS_no _) r1.st.hide (t1.hidden n0 x0 rr.st x1)
/-- return x: an own list goes with it -/
theorem sm_retN (eh : ErrH E) (n0 : NoSl O0) {x : Str} {px : Pos} {n : Nat} (hN : X.N[n]? = some x) (hv : Vis X.env.scope x) (hd : (x == ("__debug__" : Str)) = false) (hcd : (x == ("__classdict__" : Str)) = false) :
    MS K E m0 O0 H0 X cf wf (.Return (some (.Name x px)) pos) (.ret (.pk n)) := by
  refine PS.mono (ps_ret (pe_var hN hv hd hcd)) fun Z σ H ⟨m, O, h, ρ, rr, x0, o⟩ => ?_
  simp only [ex, evR] at o
  cases e : ρ[n]? with
  | none => rw [e] at o; exact o.elim
  | some s =>
    match s, e with
    | none, e => rw [e] at o; exact o.elim
    | some (d, fl), e =>
      rw [e] at o
      obtain ⟨v, e1, e2, e3⟩ := rr.get e
      refine ⟨v, e1, o m (hideS O) H v (x0.hid n0) (hideS_no _) rr.st.hide ?_⟩
      unfold TX
      cases fl with
      | false => simp only [Bool.false_eq_true, if_false]; exact VR.keep keep_hide _ _ (e3 rfl)
      | true =>
        simp only [if_true]
        have hi : n < σ.length := by rw [← rr.len]; exact (List.getElem?_eq_some_iff.mp e).1
        have es : σ[n]? = some σ[n] := List.getElem?_eq_getElem hi
        obtain ⟨a, f1, f2, f3⟩ := rr.sl n _ _ e es
        rw [es, f1] at e1
        cases e1
        have hn := was0 n0 x0 f2
        have cv := f3.keep (keep_hide (m := m) (O := O) (H := H)) rfl
        cases d with
        | lst l => exact ⟨a, rfl, hn, hideS_sl f2, cv⟩
        | dct l => exact ⟨a, rfl, hn, hideS_sl f2, cv⟩
        | dcT l => exact ⟨a, rfl, hn, hideS_sl f2, cv⟩
        | _ => exact cv.elim
theorem sm_ret0 (n0 : NoSl O0) : MS K E m0 O0 H0 X cf wf (.Return none pos) (.ret .non) := by
  refine PS.mono ps_retN fun Z σ H ⟨m, O, h, ρ, rr, x0, o⟩ => ?_
  simp only [ex, evR, ev, Res.bind_ok] at o
  exact o m (hideS O) H .non (x0.hid n0) (hideS_no _) rr.st.hide (TX.of VR.n)
theorem sm_if (eh : ErrH E) (n0 : NoSl O0) {c : Expr} {a b : List Stmt} {ic : Mi.E} {ia ib : Mi.Ss} (hc : MT K E X cf c ic) (ha : MSs K E m0 O0 H0 X cf wf a ia) (hb : MSs K E m0 O0 H0 X cf wf b ib) : MS K E m0 O0 H0 X cf wf (.If c a b pos) (.iff ic ia ib) := by
  refine PS.mono (ps_if hc ha hb) fun Z σ H ⟨m, O, h, ρ, rr, x0, o⟩ => ⟨m, O, h, ρ, rr, ?_⟩
  simp only [ex] at o
  refine OutT.imp (OutS.seqT (ρ := ρ) (σ := σ) eh n0 x0 o) ?_
  rintro k H1 ⟨m1, O1, h1, x1, r1, x01, o1⟩
  cases k with
  | true => exact ⟨m1, O1, h1, ρ, r1, x01, o1⟩
  | false => exact ⟨m1, O1, h1, ρ, r1, x01, o1⟩
theorem sm_while (eh : ErrH E) (n0 : NoSl O0) {c : Expr} {b : List Stmt} {ic : Mi.E} {ib : Mi.Ss} (hp : PassesOwn (model X.prog X.w) X.A X.env X.xe) (hc : MT K E X cf c ic) (hb : MSs K E m0 O0 H0 X cf wf b ib) : MS K E m0 O0 H0 X cf wf (.While c b [] pos) (.wh ic ib) := by
  refine PS.mono (ps_while hp hc hb) fun Z σ H ⟨m, O, h, ρ, rr, x0, o⟩ => ?_
  simp only [ex] at o
  refine ⟨fun n σ' H' => ∃ m' O' h' ρ', R K m' O' H' ρ' h' σ' ∧ Ext m0 O0 H0 m' O' H' ∧ OutS K E m0 O0 H0 Z m' O' H' (whGo (fun s => (ev cf s.ρ ic s.h).bind (boolK fun k h => .ok (k, ⟨s.ρ, h⟩))) (exs cf wf ib) n ⟨ρ', h'⟩), ⟨wf, m, O, h, ρ, rr, x0, o⟩, ?_⟩
  rintro n σ1 H1 ⟨m1, O1, h1, ρ1, r1, x1, o1⟩
  cases n with
  | zero => exact o1.elim
  | succ n =>
    refine ⟨m1, O1, h1, ρ1, r1, ?_⟩
    unfold whGo at o1
    have o2 : OutS K E m0 O0 H0 Z m1 O1 H1 ((ev cf ρ1 ic h1).bind (boolK fun k h => if k then (exs cf wf ib ⟨ρ1, h⟩).bind fun p => (match p.1 with
        | .next => whGo (fun s => (ev cf s.ρ ic s.h).bind (boolK fun k h => .ok (k, ⟨s.ρ, h⟩))) (exs cf wf ib) n p.2
        | .ret d o => .ok (.ret d o, p.2)) else .ok (.next, ⟨ρ1, h⟩))) := by
      cases e : ev cf ρ1 ic h1 with
      | stuck => simp only [e] at o1; exact o1
      | exc _ _ => simp only [e] at o1; exact o1
      | ok p =>
        simp only [e] at o1
        obtain ⟨d, fr, h'⟩ := p
        cases d with
        | bl k => exact o1
        | _ => exact o1.elim
    refine OutT.imp (OutS.seqT (ρ := ρ1) (σ := σ1) eh n0 x1 o2) ?_
    rintro k H2 ⟨m2, O2, h2, x2, r2, x02, o3⟩
    cases k with
    | false => exact OutS.next o3 x02 .refl r2
    | true =>
      refine ⟨fun σ' H' => ∃ m' O' h' ρ', R K m' O' H' ρ' h' σ' ∧ Ext m0 O0 H0 m' O' H' ∧ OutS K E m0 O0 H0 Z m' O' H' (whGo (fun s => (ev cf s.ρ ic s.h).bind (boolK fun k h => .ok (k, ⟨s.ρ, h⟩))) (exs cf wf ib) n ⟨ρ', h'⟩), fun σ' H' q => ⟨n, Nat.lt_succ_self n, q⟩, m2, O2, h2, ρ1, r2, x02, ?_⟩
      simp only [if_true] at o3
      cases e : exs cf wf ib ⟨ρ1, h2⟩ with
      | stuck => rw [e] at o3; exact o3
      | exc _ _ => rw [e] at o3; exact o3
      | ok p =>
        rw [e] at o3
        obtain ⟨fl, s⟩ := p
        cases fl with
        | next => exact fun m' O' H' σ' x' k' r' => ⟨m', O', s.h, s.ρ, r', x', OutS.later o3 k'⟩
        | ret d fr => exact o3
theorem setTg_ne {t : Tg} {d : D} {x : Exn} {h : AH} : setTg t d ρ ≠ .exc x h := by
  cases t <;> simp only [setTg]
  · exact guard_ne fun q => nomatch q
  · split
    · split <;> exact fun q => nomatch q
    · exact fun q => nomatch q
theorem sm_for (eh : ErrH E) (n0 : NoSl O0) {tg iter : Expr} {b : List Stmt} {t : Tg} {src : Mi.It} {ib : Mi.Ss} (hp : PassesOwn (model X.prog X.w) X.A X.env X.xe) (hcalm : X.calm = true) (hi : PI X tg iter (EVI K E fun ρ => evi cf ρ src)) (hg : PG X tg (gOf K t))
    (hb : MSs K E m0 O0 H0 X cf wf b ib) (hs : ∀ x, foldedSetIterable iter X.env x = pure x) : MS K E m0 O0 H0 X cf wf (.For tg iter b [] pos) (.fr t src ib) := by
  refine PS.mono (ps_for hp hcalm hi hg hb hs) fun Z σ H ⟨m, O, h, ρ, rr, x0, o⟩ => ⟨m, O, h, ρ, rr, ?_⟩
  simp only [ex] at o
  dsimp only at o ⊢
  cases e1 : evi cf ρ src h with
  | stuck => rw [e1] at o; exact o
  | exc x h' =>
    rw [e1] at o
    exact fun m' O' H' x' r' => eh _ _ _ _ _ _ _ _ _ (o m' (hideS O') H' σ ((x0.trans x').hid n0) (hideS_no _) r'.st.hide)
  | ok p =>
    rw [e1] at o
    obtain ⟨l, h1⟩ := p
    intro m1 O1 H1 J x1 r1 ⟨G, Y, w, hG, hY⟩
    simp only [Res.bind_ok] at o
    have o1 := OutS.later o x1.keep
    generalize hf : (fun x (s : Mi.St) => (setTg t x s.ρ).bind fun ρ => exs cf wf ib ⟨ρ, s.h⟩) = f at o1
    refine for_it w (fun i σ' H' => ∃ m' O' h' ρ', R K m' O' H' ρ' h' σ' ∧ Ext m0 O0 H0 m' O' H' ∧ Keep m1 O1 H1 m' O' H' ∧ OutS K E m0 O0 H0 Z m' O' H' (forGo f (l.drop i) ⟨ρ', h'⟩)) ?_ ?_ ?_ ?_
    · exact ⟨m1, O1, h1, ρ, r1, x0.trans x1, .refl, by simpa using o1⟩
    · rintro i σ' H' _ ⟨m', O', h', ρ', r', x', k', o'⟩
      exact hG _ _ _ k'
    · rintro i x σ' H2 H2' hi ⟨m2, O2, h2, ρ2, r2, x2, k2, o2⟩ y
      obtain ⟨rfl, dd, hd, hv⟩ := hY _ _ _ _ _ _ k2 y
      have hdr : l.drop i = dd :: l.drop (i + 1) := by
        obtain ⟨hlt, hg2⟩ := List.getElem?_eq_some_iff.mp hd
        rw [List.drop_eq_getElem_cons hlt, hg2]
      rw [hdr] at o2
      unfold forGo at o2
      rw [← hf] at o2
      dsimp only at o2
      cases e2 : setTg t dd ρ2 with
      | stuck => rw [e2] at o2; exact o2.elim
      | exc _ _ => exact absurd e2 setTg_ne
      | ok ρ3 =>
        rw [e2] at o2
        refine tg_ok e2 r2 hv fun σ3 r3 _ => ⟨m2, O2, h2, ρ3, r3, x2, ?_⟩
        simp only [Res.bind_ok] at o2
        cases e3 : exs cf wf ib ⟨ρ3, h2⟩ with
        | stuck => rw [e3] at o2; exact o2
        | exc _ _ => rw [e3] at o2; exact o2
        | ok p =>
          rw [e3] at o2
          obtain ⟨fl, s⟩ := p
          cases fl with
          | next =>
            refine fun m' O' H' σ' x' k' r' => ⟨m', O', s.h, s.ρ, r', x', k2.trans k', OutS.later ?_ k'⟩
            rw [hf] at o2
            exact o2
          | ret d fr => exact o2
    · rintro σ' H' ⟨m', O', h', ρ', r', x', k', o'⟩
      rw [List.drop_length] at o'
      unfold forGo at o'
      exact OutS.next o' x' .refl r'
/-- a new thing of the store -/
theorem sm_box (eh : ErrH E) (n0 : NoSl O0) {x : Str} {px : Pos} {e : Expr} {i : Nat} {ie : Mi.E} (hN : X.N.Nodup) (hi : X.N[i]? = some x) (hx : L2.Loc X.env.scope x) (hf : X.fn x = true ∨ X.env.scope.names.lookup x = some .local) (he : ME K E X cf false e ie)
    (hs : swapsWith e (some (.Name x px)) pos.line X.env = pure false) : MS K E m0 O0 H0 X cf wf (.Assign [.Name x px] e pos) (.box i ie) := by
  refine PS.mono (ps_set hN hi hx he hs hf) fun Z σ H ⟨m, O, h, ρ, rr, x0, o⟩ => ⟨m, O, h, ρ, rr, ?_⟩
  simp only [ex] at o
  refine Out.imp (OutS.seq (T1 := TX K false) (ρ := ρ) (σ := σ) eh n0 x0 o) ?_
  rintro v H1 ⟨p, _, m1, O1, x1, r1, t1, x01, o1⟩
  obtain ⟨d, fr, h1⟩ := p
  match d, fr, t1, o1 with
  | .dct l, true, t1, o1 =>
    have o1 : OutS K E m0 O0 H0 Z m1 O1 H1 (guard' (decide (i < ρ.length)) (.ok (.next, ⟨ρ.set i (some (.ref h1.length, false)), h1 ++ [.box (.dct l)]⟩))) := o1
    unfold guard' at o1
    split at o1
    · have t1 : FR K m1 O1 H1 H (.dct l) v := by unfold TX at t1; simpa using t1
      have main : ∀ a, v = .ref a → H a = none → O1 a = .un → CV K m1 O1 H1 a (.dct l) → H1 a ≠ none → Z.nx (σ.set i (some v)) H1 := by
        rintro a rfl hn hu c hne
        obtain ⟨u0, hn0⟩ := un0 n0 x0 rr.st hn
        have oth : ∀ b, O1 b ≠ .un → b ≠ a := fun b hb q => hb (by rw [q]; exact hu)
        have kp : Keep m1 O1 H1 (m1 ++ [a]) (Mi.lab O1 a (.ob m1.length)) H1 := by
          refine ⟨fun n b e => ?_, fun b hb => ⟨?_, fun _ q => q⟩⟩
          · rw [List.getElem?_append_left (List.getElem?_eq_some_iff.mp e).1]; exact e
          · rw [lab_ne (oth b (by rw [hb]; exact fun q => nomatch q))]; exact hb
        have hlen := r1.st.len
        have xe : Ext m0 O0 H0 (m1 ++ [a]) (Mi.lab O1 a (.ob m1.length)) H1 := by
          have z := x01.relab (l := .ob m1.length) hn0 u0
          obtain ⟨t, et⟩ := z.pre
          exact ⟨⟨t ++ [a], by rw [et, List.append_assoc]⟩, z.fz, z.sl, z.un, z.ob⟩
        have r2 : R K (m1 ++ [a]) (Mi.lab O1 a (.ob m1.length)) H1 ρ (h1 ++ [.box (.dct l)]) σ := by
          refine ⟨⟨fun b hb => ?_, by rw [List.length_append, List.length_append, hlen]; rfl, fun n d' e' => ?_⟩, r1.len, fun j s w j1 j2 => ?_⟩
          · by_cases q : b = a
            · rw [q]; exact hne
            · rw [lab_ne q] at hb; exact r1.st.lab b hb
          · by_cases hlt : n < h1.length
            · rw [List.getElem?_append_left hlt] at e'
              obtain ⟨b, b1, b2, b3⟩ := r1.st.obj n d' e'
              exact ⟨b, kp.mg n b b1, by rw [lab_ne (oth b (by rw [b2]; exact fun q => nomatch q))]; exact b2, b3.keep kp rfl⟩
            · have hge : n = h1.length := by
                have := (List.getElem?_eq_some_iff.mp e').1
                rw [List.length_append] at this
                simp at this
                omega
              subst hge
              rw [List.getElem?_append_right (Nat.le_refl _), Nat.sub_self] at e'
              cases e'
              exact ⟨a, by rw [← hlen, List.getElem?_append_right (Nat.le_refl _), Nat.sub_self]; rfl, by rw [lab_same, hlen], c.keep kp rfl⟩
          · match s, r1.sl j s w j1 j2 with
            | none, _ => exact True.intro
            | some (d', false), ⟨w', ew, q⟩ => exact ⟨w', ew, VR.keep kp _ _ q⟩
            | some (d', true), ⟨b, eb, ob, cb⟩ => exact ⟨b, eb, by rw [lab_ne (oth b (by rw [ob]; exact fun q => nomatch q))]; exact ob, cb.keep kp rfl⟩
        refine OutS.next o1 xe kp (r2.set i ?_)
        unfold VR
        exact ⟨a, rfl, by rw [← hlen, List.getElem?_append_right (Nat.le_refl _), Nat.sub_self]; rfl⟩
      obtain ⟨a, e, hn, hu, c⟩ := t1
      exact main a e hn hu c (by obtain ⟨xs, hx, _⟩ := c; rw [hx]; exact fun q => nomatch q)
    · exact o1.elim
  | .dct l, false, _, o1 => exact o1.elim
  | .non, _, _, o1 => exact o1.elim
  | .bl _, _, _, o1 => exact o1.elim
  | .int _, _, _, o1 => exact o1.elim
  | .str _, _, _, o1 => exact o1.elim
  | .tup _, _, _, o1 => exact o1.elim
  | .lst _, _, _, o1 => exact o1.elim
  | .dcT _, _, _, o1 => exact o1.elim
  | .ref _, _, _, o1 => exact o1.elim
  | .scr _, _, _, o1 => exact o1.elim
end
end Mi

set_option Elab.async false
set_option linter.all false
set_option maxRecDepth 100000
set_option maxHeartbeats 8000000
/-! Mi: statements of the text, turned to the interpreter's. -/
namespace Mi
open PySem PySem.Spec PyProof.Rows L2

mutual
/-- the slots whose value goes somewhere -/
def varsE : Mi.E → List Nat
  | .var i => [i]
  | .tup es | .lst es | .dct es | .call _ es | .bi _ es => varsEs es
  | .neg a | .not a => varsE a
  | .and a b | .or a b | .bin _ a b | .cmp _ a b | .idx a b => varsE a ++ varsE b
  | .chain _ _ a b c | .ite a b c | .cut a b c => varsE a ++ (varsE b ++ varsE c)
  | .get o es => varsE o ++ varsEs es
  | .lc _ _ src c e => varsIt src ++ (varsE c ++ varsE e)
  | _ => []
def varsEs : Es → List Nat
  | .nil => []
  | .cons e r => varsE e ++ varsEs r
def varsIt : Mi.It → List Nat
  | .over e => varsE e
  | .range es => varsEs es
end
def varsS : Mi.S → List Nat
  | .asg _ e | .augv _ _ e | .app _ e | .expr e | .ret e | .box _ e => varsE e
  | .par _ _ a b => varsE a ++ varsE b
  | .sub _ i e => varsE i ++ varsE e
  | .augs _ i _ e => varsE i ++ varsE e
  | .iff c _ _ => varsE c
  | .wh c _ => varsE c
  | .fr _ src _ => varsIt src
  | .frz _ => []
def leaves (Fz : List Nat) (a : Mi.S) : List Nat := dedup ((varsS a).filter fun i => Fz.contains i)
def noComp : Expr → Bool
  | .ListComp _ _ _ _ | .SetComp _ _ _ _ | .DictComp _ _ _ _ _ => false
  | _ => true
def noSlice : Expr → Bool
  | .Slice _ _ _ _ => false
  | _ => true
def noTuple : Expr → Bool
  | .Tuple _ _ _ => false
  | _ => true
def noPk : Mi.E → Bool
  | .pk _ => false
  | _ => true
def loc1 (sc : Scope) (x : Str) : Bool := match sc.names.lookup x with
  | some .local => true
  | _ => false
def trSs (Fz : List Nat) (f : Stmt → Option Mi.S) : List Stmt → Option Ss
  | [] => some .nil
  | .Pass _ :: r => trSs Fz f r
  | st :: r => match f st, trSs Fz f r with
    | some a, some b => some (match leaves Fz a with
      | [] => .cons a b
      | is => .cons (.frz is) (.cons a b))
    | _, _ => none
/-- a target that is no local name of the def's own -/
def nonLoc (sc : Scope) (ts : List Expr) : Bool := ts.any fun t => match t with
  | .Name x _ => !(loc1 sc x)
  | _ => true
/-- a, b = x, y -/
def parTr (T : TC) (sc : Scope) (f : Expr → Option Mi.E) : List Expr → Expr → Option Mi.S
  | [.Name x px, .Name y py], .Tuple [a, b] _ _ => match slot T.N x, slot T.N y, f a, f b with
      | some i, some j, some ia, some ib => if loc1 sc x && loc1 sc y && (px.line == py.line) && noStar [a, b] && decide (i ≠ j) && !(([a, b] : List Expr).all (foldedForSure 8)) && !(([a, b] : List Expr).all (constantsAlone 8)) then some (.par i j ia ib) else none
      | _, _, _, _ => none
  | _, _ => none
/-- a statement -/
def trS (T : TC) (B Fz : List Nat) (fe : Nat) (sc : Scope) : Nat → Stmt → Option Mi.S
  | 0, _ => none
  | n + 1, st => match st with
    | .Assign [.Name x px] e _ => match slot T.N x, own sc x, tr T fe .val sc e with
      | some i, true, some ie => if noComp e then (if B.contains i then some (.box i ie) else some (.asg (.name i) ie))
        else match e with
          | .ListComp _ _ scope p => if !(loc1 sc x) then some (.asg (.name i) ie) else if loc1 sc x && (px.line == p.line) && !(scope.names.any fun (n, k) => n == x && (k == .local || k == .cell)) then some (.asg (.name i) ie) else none
          | _ => none
      | _, _, _ => none
    | .Assign [.Tuple ts kt pt] e _ => match (if nonLoc sc ts then none else parTr T sc (tr T fe .val sc) ts e) with
      | some a => some a
      | none => if (noTuple e || nonLoc sc ts) && noComp e then (match tgTr T.N (own sc) (.Tuple ts kt pt), tr T fe .val sc e with
        | some t, some ie => some (.asg t ie)
        | _, _ => none) else none
    | .Assign [.Subscript (.Name x _) iE _] e _ => match slot T.N x, vis sc x, tr T fe .peek sc iE, tr T fe .val sc e with
      | some n, true, some ii, some ie => if noSlice iE && noComp e then some (.sub n ii ie) else none
      | _, _, _, _ => none
    | .AugAssign (.Name x _) op e _ => match slot T.N x, own sc x, opF op, tr T fe .peek sc e with
      | some n, true, some o, some ie => some (.augv n o ie)
      | _, _, _, _ => none
    | .AugAssign (.Subscript (.Name x _) iE _) op e _ => match slot T.N x, vis sc x, opF op, tr T fe .peek sc iE, tr T fe .peek sc e with
      | some n, true, some o, some ii, some ie => if noSlice iE then some (.augs n ii o ie) else none
      | _, _, _, _, _ => none
    | .Expr (.Call (.Attribute (.Name x _) m apos) [e] [] cpos) _ => if m = "append" then (match slot T.N x, vis sc x, tr T fe .val sc e with
        | some n, true, some ie => if noStar [e] && (apos.endLine == cpos.line) then some (.app n ie) else none
        | _, _, _ => none) else none
    | .Expr e _ => match tr T fe .val sc e with
      | some ie => if noComp e then some (.expr ie) else none
      | none => none
    | .Return none _ => some (.ret .non)
    | .Return (some (.Name x _)) _ => match slot T.N x, vis sc x with
      | some n, true => some (.ret (.pk n))
      | _, _ => none
    | .Return (some e) _ => match tr T fe .val sc e with
      | some ie => if noPk ie then some (.ret ie) else none
      | none => none
    | .If c a b _ => match tr T fe .test sc c, trSs Fz (trS T B Fz fe sc n) a, trSs Fz (trS T B Fz fe sc n) b with
      | some ic, some ia, some ib => some (.iff ic ia ib)
      | _, _, _ => none
    | .While c b [] _ => match tr T fe .test sc c, trSs Fz (trS T B Fz fe sc n) b with
      | some ic, some ib => some (.wh ic ib)
      | _, _ => none
    | .For tg iter b [] _ => match tgTr T.N (own sc) tg, itTr sc (tr T fe .val sc) iter, trSs Fz (trS T B Fz fe sc n) b with
      | some t, some src, some ib => some (.fr t src ib)
      | _, _, _ => none
    | _ => none

section
variable {T : TC} {sc : Scope} {X : Cx} {cf : Calls} {XR : XRel} {W : WX} {k wf : Nat} {m0 : List Addr} {O0 : Labs} {H0 : Hp}
structure SC (T : TC) (sc : Scope) (X : Cx) (cf : Calls) (XR : XRel) (W : WX) (k : Nat) : Prop where
  c : CC T sc X cf XR W k
  fn : ∀ x, X.fn x = true
  kind : sc.kind = .function
  po : PassesOwn (model X.prog X.w) X.A X.env X.xe
theorem swaps_no {e : Expr} {tg : Option Expr} {l : Nat} {env : Env} (h : noComp e = true) : swapsWith e tg l env = pure false := by
  cases e <;> first | rfl | cases h
theorem swaps_cell {elt : Expr} {gs : List Comprehension} {scope : Scope} {p px : Pos} {x : Str} {l : Nat} {env : Env} (h : loc1 env.scope x = false) : swapsWith (.ListComp elt gs scope p) (some (.Name x px)) l env = pure false := by
  have hk : (env.kindOf x == some NameKind.local) = false := by
    unfold loc1 at h
    unfold Env.kindOf
    cases q : List.lookup x env.scope.names with
    | none => rfl
    | some nk => rw [q] at h; cases nk <;> first | (cases h; done) | rfl
  unfold swapsWith
  simp only [hk, Bool.and_false, Bool.false_and]
theorem sole_no {e t : Expr} {l : Nat} {env : Env} (h : noComp e = true) : swapsWithSole [t] e l env = pure false := swaps_no h
theorem stores_no {e t : Expr} {env : Env} (h : noTuple e = true) : swappedStores [t] e env = pure none := by
  cases e <;> first | (cases t <;> rfl) | cases h
theorem filterMap_lt {α β : Type} {f : α → Option β} : ∀ {l : List α}, (∃ a ∈ l, f a = none) → (l.filterMap f).length < l.length
  | [], ⟨_, h, _⟩ => by cases h
  | a :: l, ⟨b, hb, e⟩ => by
    rw [List.filterMap_cons]
    cases q : f a with
    | none => exact Nat.lt_succ_of_le (List.length_filterMap_le _ _)
    | some c =>
      rcases List.mem_cons.mp hb with z | z
      · subst z; rw [q] at e; cases e
      · have := filterMap_lt ⟨b, z, e⟩
        simp only [List.length_cons]
        omega
theorem stores_nonloc {ts : List Expr} {k : Nat} {p : Pos} {e : Expr} {env : Env} (h : nonLoc env.scope ts = true) : swappedStores [.Tuple ts k p] e env = pure none := by
  cases e with
  | Tuple vs k2 p2 =>
    unfold swappedStores
    try simp only
    split
    · rfl
    · split
      · rfl
      · have hn : ((ts.filterMap fun
          | .Name id pos => if env.kindOf id == some .local && pos.line == (ts.head?.map (·.pos.line)).getD 0 then some id else none
          | _ => none).length != ts.length) = true := by
          rw [bne_iff_ne]
          refine Nat.ne_of_lt (filterMap_lt ?_)
          unfold nonLoc at h
          rw [List.any_eq_true] at h
          obtain ⟨t, ht, hx⟩ := h
          refine ⟨t, ht, ?_⟩
          cases t with
          | Name x px =>
            simp only [Bool.not_eq_true'] at hx
            have hk : (env.kindOf x == some NameKind.local) = false := by
              unfold loc1 at hx
              unfold Env.kindOf
              cases q : List.lookup x env.scope.names with
              | none => rfl
              | some nk => rw [q] at hx; cases nk <;> first | (cases hx; done) | rfl
            simp [hk]
          | _ => rfl
        refine if_pos ?_
        rw [Bool.or_eq_true]
        exact .inl hn
  | _ => rfl
theorem loc1_ok {x : Str} (h : loc1 sc x = true) : sc.names.lookup x = some .local := by
  unfold loc1 at h
  split at h
  · assumption
  · cases h
theorem stores_par {x y : Str} {px py pt : Pos} {k k2 : Nat} {a b : Expr} {p2 : Pos} {env : Env} (hk : env.scope.kind = .function) (hx : env.scope.names.lookup x = some .local) (hy : env.scope.names.lookup y = some .local) (hl : (px.line == py.line) = true) (hxy : x ≠ y)
    (hst : noStar [a, b] = true) (hf : ([a, b] : List Expr).all (foldedForSure 8) = false) (hc : ([a, b] : List Expr).all (constantsAlone 8) = false) :
    swappedStores [.Tuple [.Name x px, .Name y py] k pt] (.Tuple [a, b] k2 p2) env = pure (some [x, y]) := by
  have hb : env.blockKind = .function := by unfold Env.blockKind; rw [hk]; rfl
  have kx : env.kindOf x = some .local := hx
  have ky : env.kindOf y = some .local := hy
  have hl' : py.line = px.line := (eq_of_beq hl).symm
  have hs : ([a, b] : List Expr).any (fun | .Starred .. => true | _ => false) = false := by
    unfold noStar at hst
    simp only [List.all_cons, List.all_nil, Bool.and_true, Bool.and_eq_true] at hst
    simp only [List.any_cons, List.any_nil, Bool.or_false, Bool.or_eq_false_iff]
    constructor
    · cases a <;> first | rfl | (have := hst.1; simp at this)
    · cases b <;> first | rfl | (have := hst.2; simp at this)
  have hn : ([x, y] : List Str).eraseDups.length = 2 := by
    have : (y == x) = false := by
      rw [beq_eq_false_iff_ne]
      exact fun q => hxy q.symm
    simp [List.eraseDups_cons, this]
  unfold swappedStores
  simp only [hb, hs, hf, hc, kx, ky, hl', List.filterMap_cons, List.filterMap_nil, List.head?_cons, Option.map_some, Option.getD_some, Expr.pos, beq_self_eq_true, Bool.and_self, if_true, hn, List.length_cons, List.length_nil]
  simp
  intro hh
  exfalso
  rcases hh with hh | hh
  · cases a <;> first | (simp [noStar] at hst; done) | cases hh
  · cases b <;> first | (simp [noStar] at hst; done) | cases hh
theorem SC.cc (s : SC T sc X cf XR W k) : CC T sc X cf XR W k := s.c
theorem SC.ex {ok : Str → Bool} (s : SC T sc X cf XR W k) {e : Expr} {i : Mi.E} {n : Nat} {md : Md} (h : tr T n md sc e = some i) : MG md X.K (EW XR W) X cf e i := tr_ok n md sc e i h X W s.c
theorem loc_own (s : SC T sc X cf XR W k) {x : Str} (h : own sc x = true) : L2.Loc X.env.scope x := by rw [s.c.sc]; exact own_ok h
/-- name = [..] -/
theorem asgLc (s : SC T sc X cf XR W k) (n0 : NoSl O0) {n i : Nat} {y : Str} {py lpos pos : Pos} {elt : Expr} {gs : List Comprehension} {scope : Scope} {ie : Mi.E} (h : tr T n .val sc (.ListComp elt gs scope lpos) = some ie) (hy : slot T.N y = some i) (hl : loc1 sc y = true) (hp : (py.line == lpos.line) = true)
    (ha : (scope.names.any fun (n, k) => n == y && (k == .local || k == .cell)) = false) : MS X.K (EW XR W) m0 O0 H0 X cf wf (.Assign [.Name y py] (.ListComp elt gs scope lpos) pos) (.asg (.name i) ie) := by
  have c := s.c
  cases n with
  | zero => unfold tr at h; cases h
  | succ n =>
    have ih := tr_ok (T := T) (cf := cf) (XR := XR) (k := k) n
    have hv : ∀ e i, tr T n .val sc e = some i → ME X.K (EW XR W) X cf false e i := fun e i h => ih .val sc e i h X W c
    unfold tr at h
    split at h
    all_goals first
      | (rename_i q; cases q; done)
      | skip
    · rename_i elt tg iter ifs scope p q
      cases q
      split at h
      · rename_i hbk
        split at h
        · rename_i src t cc ee e1 e2 e3 e4
          split at h
          · rename_i hown
            cases h
            obtain ⟨hi, hs⟩ := itTr_ok (tg := tg) c hv e1
            have hk : blkC X.N X.env.scope scope (ownOf T.N scope.names) = true := by rw [c.N, c.sc]; exact hbk
            have hw : ∀ i ∈ tgIs t, i ∈ (ownOf T.N scope.names).map (·.2) := by
              rw [List.all_eq_true] at hown
              exact fun i hi => of_decide_eq_true (hown i hi)
            have hg : ∀ (s : Shared) (H : Hp) (C : Addr) (cl : List (Str × Addr)) (fp : List Addr), PG (X.blk s H scope (compEnvC scope cl C X.env) fp) tg (gOf X.K t) := fun s H C cl fp =>
              tgTr_ok (X := X.blk s H scope (compEnvC scope cl C X.env) fp) rfl c.calm c.N c.nd' (fun x hx => own_blk hx) e2
            have he : ∀ (s : Shared) (H : Hp) (C : Addr) (cl : List (Str × Addr)) (fp : List Addr), ME X.K (EW XR fun _ _ _ _ => False) (X.blk s H scope (compEnvC scope cl C X.env) fp) cf false elt ee := fun s H C cl fp =>
              ih .val (relS scope sc) elt ee e4 _ _ (c.blk s H scope cl C fp)
            have hyl : X.env.scope.names.lookup y = some .local := by rw [c.sc]; exact loc1_ok hl
            have hsw : swapsWith (.ListComp elt [⟨tg, iter, ifs, 0⟩] scope lpos) (some (.Name y py)) pos.line X.env = pure true := sw_true (by rw [c.sc]; exact s.kind) hyl hp ha
            split at e3
            · cases e3
              exact sm_setLc errH_EW n0 rfl c.calm c.nd' (c.look hy) hyl hsw hi (blkOk_by hk) hg (fun _ _ _ _ _ => pts_nil) (fun s H C cl fp => EV.val (he s H C cl fp)) hs (fun σ H Q o => test_yes σ H Q o) hw
            · rename_i c0
              have hc0 : ∀ (s : Shared) (H : Hp) (C : Addr) (cl : List (Str × Addr)) (fp : List Addr), MT X.K (EW XR fun _ _ _ _ => False) (X.blk s H scope (compEnvC scope cl C X.env) fp) cf c0 cc := fun s H C cl fp => ih .test (relS scope sc) c0 cc e3 _ _ (c.blk s H scope cl C fp)
              exact sm_setLc errH_EW n0 rfl c.calm c.nd' (c.look hy) hyl hsw hi (blkOk_by hk) hg (fun s H C cl fp => pts_one (hc0 s H C cl fp)) (fun s H C cl fp => EV.val (he s H C cl fp)) hs (fun σ H Q o => o) hw
            · cases e3
          · cases h
        · cases h
      · cases h
    · cases h
end
end Mi

set_option Elab.async false
set_option linter.all false
set_option maxRecDepth 100000
set_option maxHeartbeats 8000000
/-! Mi: the turned statements are run as the text's. -/
namespace Mi
open PySem PySem.Spec PyProof.Rows L2

section
variable {T : TC} {sc : Scope} {X : Cx} {cf : Calls} {XR : XRel} {W : WX} {k wf : Nat} {m0 : List Addr} {O0 : Labs} {H0 : Hp}
theorem trSs_ok {E : EX} {K : PySem.W.Frag} {Fz : List Nat} {f : Stmt → Option Mi.S} (n0 : NoSl O0) (hf : ∀ st a, f st = some a → MS K E m0 O0 H0 X cf wf st a) : ∀ {sts : List Stmt} {r : Ss}, trSs Fz f sts = some r → MSs K E m0 O0 H0 X cf wf sts r
  | [], _, h => by unfold trSs at h; cases h; exact sm_nil
  | st :: sts, r, h => by
    have main : (∀ p, st ≠ .Pass p) → MSs K E m0 O0 H0 X cf wf (st :: sts) r := fun hp => by
      have h' : (match f st, trSs Fz f sts with
        | some a, some b => some (match leaves Fz a with
          | [] => Ss.cons a b
          | is => .cons (.frz is) (.cons a b))
        | _, _ => none) = some r := by
        rw [← h]
        cases st <;> first | rfl | exact absurd rfl (hp _)
      split at h'
      · rename_i a b ea eb
        cases h'
        have z := sm_cons (hf _ _ ea) (trSs_ok n0 hf eb)
        split
        · exact z
        · exact sm_frz n0 z
      · cases h'
    cases st with
    | Pass p =>
      unfold trSs at h
      exact sm_pass (trSs_ok n0 hf h)
    | _ => exact main fun _ q => nomatch q
theorem sub_ha {x : Str} {px tp : Pos} {iE : Expr} {env : Env} (h : noSlice iE = true) (v : Value) : assign (.Subscript (.Name x px) iE tp) env v = (do
      let ov ← holding [v] (eval (.Name x px) env)
      let iv ← holding [v, ov] (eval iE env)
      standAt tp
      holding [v, ov, iv] (setItem ov iv v)
      release [v, ov, iv] []) := by
  cases iE <;> first | rfl | cases h
theorem aug_ha {iE : Expr} (h : noSlice iE = true) (ov iv new : Value) : augStore iE ov iv new = (do holding [new, ov, iv] (setItem ov iv new); release [new, ov, iv] []; pure .next) := by
  cases iE <;> first | rfl | cases h
theorem trS_ok {B Fz : List Nat} {fe : Nat} (n0 : NoSl O0) (s : SC T sc X cf XR W k) : ∀ (n : Nat) (st : Stmt) (a : Mi.S), trS T B Fz fe sc n st = some a → MS X.K (EW XR W) m0 O0 H0 X cf wf st a
  | 0, _, _, h => by unfold trS at h; cases h
  | n + 1, st, a, h => by
    have ih := trS_ok (B := B) (Fz := Fz) (fe := fe) n0 s n
    have c := s.c
    have eh : ErrH (EW XR W) := errH_EW
    have hv : ∀ e i, tr T fe .val sc e = some i → ME X.K (EW XR W) X cf false e i := fun e i h => tr_ok fe .val sc e i h X W c
    have hp : ∀ e i, tr T fe .peek sc e = some i → ME X.K (EW XR W) X cf true e i := fun e i h => tr_ok fe .peek sc e i h X W c
    have ht : ∀ e i, tr T fe .test sc e = some i → MT X.K (EW XR W) X cf e i := fun e i h => tr_ok fe .test sc e i h X W c
    have hb : ∀ sts r, trSs Fz (trS T B Fz fe sc n) sts = some r → MSs X.K (EW XR W) m0 O0 H0 X cf wf sts r := fun sts r h => trSs_ok n0 ih h
    have hu := c.room.units
    have dd : ∀ {x : Str} {i : Nat}, X.N[i]? = some x → (x == ("__debug__" : Str)) = false ∧ (x == ("__classdict__" : Str)) = false := fun l => okN_ok c.okn (by rw [← c.N]; exact l)
    unfold trS at h
    split at h
    · rename_i x px e pos
      split at h
      · rename_i i ie e1 e2 e3
        have l := c.look e1
        split at h
        · rename_i hn
          split at h
          · cases h
            exact sm_box eh n0 c.nd' l (loc_own s e2) (.inl (s.fn x)) (hv _ _ e3) (swaps_no hn)
          · cases h
            exact sm_asg eh n0 c.nd' l (loc_own s e2) (.inl (s.fn x)) (hv _ _ e3) (swaps_no hn)
        · split at h
          · rename_i elt gs scope p
            split at h
            · rename_i hl
              cases h
              have hl' : loc1 X.env.scope x = false := by rw [c.sc]; simpa using hl
              exact sm_asg eh n0 c.nd' l (loc_own s e2) (.inl (s.fn x)) (hv _ _ e3) (swaps_cell hl')
            split at h
            · rename_i hh
              cases h
              simp only [Bool.and_eq_true, Bool.not_eq_true'] at hh
              obtain ⟨⟨h1, h2⟩, h3⟩ := hh
              exact asgLc s n0 e3 e1 h1 h2 h3
            · cases h
          · cases h
      · cases h
    · rename_i ts kt pt e pos
      split at h
      · rename_i a' hpar
        cases h
        split at hpar
        · cases hpar
        · unfold parTr at hpar
          split at hpar
          · rename_i x px y py a b k2 p2 _
            split at hpar
            · rename_i i j ia ib e1 e2 e3 e4
              split at hpar
              · rename_i hh
                cases hpar
                simp only [Bool.and_eq_true, Bool.not_eq_true', decide_eq_true_eq] at hh
                obtain ⟨⟨⟨⟨⟨⟨g1, g2⟩, g3⟩, g4⟩, g5⟩, g6⟩, g7⟩ := hh
                have lx : X.env.scope.names.lookup x = some .local := by rw [c.sc]; exact loc1_ok g1
                have ly : X.env.scope.names.lookup y = some .local := by rw [c.sc]; exact loc1_ok g2
                have hxy : x ≠ y := fun q => by
                  subst q
                  rw [e1] at e2
                  cases e2
                  exact g5 rfl
                exact sm_par eh n0 c.calm c.nd' (c.look e1) (c.look e2) g5 lx ly (ma_cons (hv _ _ e3) (ma_cons (hv _ _ e4) ma_nil (star_cons _ (noStar_tail g4))) (star_cons _ g4))
                  (stores_par (by rw [c.sc]; exact s.kind) lx ly g3 hxy g4 g6 g7)
              · cases hpar
            · cases hpar
          · cases hpar
      · split at h
        · rename_i hh
          rw [Bool.and_eq_true, Bool.or_eq_true] at hh
          split at h
          · rename_i t ie e1 e2
            cases h
            have hg : PG X (.Tuple ts kt pt) (gOf X.K t) := tgTr_ok rfl c.calm c.N c.nd' (fun x hx => ⟨loc_own s hx, .inl (s.fn x)⟩) e1
            exact sm_asgT eh n0 hg (hv _ _ e2) (sole_no hh.2) (hh.1.elim stores_no fun q => stores_nonloc (by rw [c.sc]; exact q)) rfl
          · cases h
        · cases h
    · split at h
      · rename_i n ii ie e1 e2 e3 e4
        split at h
        · rename_i hh
          rw [Bool.and_eq_true] at hh
          cases h
          have l := c.look e1
          obtain ⟨d1, d2⟩ := dd l
          exact sm_sub eh n0 hu l (c.vs e2) d1 d2 (hp _ _ e3) (hv _ _ e4) (sole_no hh.2) (sub_ha hh.1)
        · cases h
      · cases h
    · split at h
      · rename_i n o ie e1 e2 e3 e4
        cases h
        have e0 := opF_ok e3
        subst e0
        exact sm_augv eh n0 c.nd' (c.look e1) (loc_own s e2) (.inl (s.fn _)) (hp _ _ e4)
      · cases h
    · split at h
      · rename_i n o ii ie e1 e2 e3 e4 e5
        split at h
        · rename_i hh
          cases h
          have l := c.look e1
          obtain ⟨d1, d2⟩ := dd l
          have e0 := opF_ok e3
          subst e0
          exact sm_augs eh n0 hu l (c.vs e2) d1 d2 (hp _ _ e4) (hp _ _ e5) (aug_ha hh)
        · cases h
      · cases h
    · split at h
      · rename_i hm
        subst hm
        split at h
        · rename_i n ie e1 e2 e3
          split at h
          · rename_i hh
            rw [Bool.and_eq_true] at hh
            cases h
            have l := c.look e1
            obtain ⟨d1, d2⟩ := dd l
            exact sm_app eh n0 rfl l (c.vs e2) d1 d2 (hv _ _ e3) hh.1 hh.2
          · cases h
        · cases h
      · cases h
    · split at h
      · rename_i ie e1
        split at h
        · rename_i hn
          cases h
          exact sm_expr eh n0 (hv _ _ e1) (swaps_no hn)
        · cases h
      · cases h
    · cases h; exact sm_ret0 n0
    · split at h
      · rename_i n e1 e2
        cases h
        have l := c.look e1
        obtain ⟨d1, d2⟩ := dd l
        exact sm_retN eh n0 l (c.vs e2) d1 d2
      · cases h
    · split at h
      · rename_i ie e1
        split at h
        · rename_i hn
          cases h
          exact sm_ret eh n0 (hv _ _ e1) fun i q => by subst q; cases hn
        · cases h
      · cases h
    · split at h
      · rename_i ic ia ib e1 e2 e3
        cases h
        exact sm_if eh n0 (ht _ _ e1) (hb _ _ e2) (hb _ _ e3)
      · cases h
    · split at h
      · rename_i ic ib e1 e2
        cases h
        exact sm_while eh n0 s.po (ht _ _ e1) (hb _ _ e2)
      · cases h
    · split at h
      · rename_i t src ib e1 e2 e3
        cases h
        have hg : PG X _ (gOf X.K t) := tgTr_ok rfl c.calm c.N c.nd' (fun x hx => ⟨loc_own s hx, .inl (s.fn x)⟩) e1
        obtain ⟨hi, hs⟩ := itTr_ok c hv e2
        exact sm_for eh n0 s.po c.calm hi hg (hb _ _ e3) hs
      · cases h
    · cases h
end
end Mi

set_option Elab.async false
set_option linter.all false
set_option maxRecDepth 100000
set_option maxHeartbeats 8000000
/-! Mi: a def of the text, run by the interpreter. -/
namespace Mi
open PySem PySem.Spec PyProof.Rows L2

section
variable {P : Program} {w : World} {K : PySem.W.Frag} {mg : Str → Option Value} {base : Heap}
/-- what is known of the text's other defs -/
def FnsOk (P : Program) (w : World) (K : PySem.W.Frag) (mg : Str → Option Value) (base : Heap) (XR : XRel) (k : Nat) (cf : Calls) (fns : List (Str × (String × Nat))) : Prop :=
  ∀ x f n, fns.lookup x = some (f, n) → ∃ a fd ps, FnOk P w K mg base (L2.CX P w) k a fd ps (spOf K XR n (cf f)) ∧ mg x = some (.ref a) ∧ PySem.W.keepIn K (.ref a) = true ∧ Binds K fd ps [] ∧ ps.length = n ∧ (x == ("__debug__" : Str)) = false
theorem start_R {m : List Addr} {O : Labs} {H : Hp} {h : AH} {ds : List D} {vs : List V} {N : List Str} {F : Fn} (r : RH K m O H h) (hv : VRs K m O H ds vs) (h1 : F.n = N.length) (h2 : F.ps = vs.length) (h3 : vs.length ≤ N.length) : R K m O H (Mi.start F ds) h (L2.start N vs) := by
  have hl := hv.length
  refine ⟨r, ?_, fun i s v e1 e2 => ?_⟩
  · unfold Mi.start L2.start
    simp [hl, h1, h2]
  · unfold Mi.start at e1
    unfold L2.start at e2
    by_cases hi : i < ds.length
    · rw [List.getElem?_append_left (by simpa using hi), List.getElem?_map] at e1
      rw [List.getElem?_append_left (by simpa [← hl] using hi), List.getElem?_map] at e2
      obtain ⟨d, d1, d2⟩ := Option.map_eq_some_iff.mp e1
      obtain ⟨u, u1, u2⟩ := Option.map_eq_some_iff.mp e2
      subst d2; subst u2
      obtain ⟨u', q1, q2⟩ := hv.get' d1
      rw [u1] at q1
      cases q1
      exact ⟨u, rfl, q2⟩
    · rw [List.getElem?_append_right (by simpa using hi)] at e1
      have := List.getElem?_replicate (a := (none : Sl)) (n := F.n - F.ps) (i := i - (ds.map fun d => (some (d, false) : Sl)).length)
      rw [this] at e1
      split at e1
      · cases e1; exact True.intro
      · cases e1
/-- a def's call by the interpreter -/
def runF (cf : Calls) (wf : Nat) (F : Fn) (ds : List D) (h : AH) : Res (D × Bool × AH) := if ds.length = F.ps then (exs cf wf F.body ⟨start F ds, h⟩).bind fun p => match p.1 with
        | .next => .ok (.non, false, p.2.h)
        | .ret d o => .ok (d, o, p.2.h)
      else .stuck
theorem fn_ok {XR : XRel} {k : Nat} {cf : Calls} {fns : List (Str × (String × Nat))} {x qual : Str} {st : Stmt} {f : Addr} {fd : FuncData} {N ps : List Str} {B Fz : List Nat} {fe fs wf : Nat} {F : Fn} (hF : Fun K x qual st f fd) (S : FnScope N ps (defScope st)) (okn : okN N = true)
    (ht : trSs Fz (trS ⟨N, fns⟩ B Fz fe (defScope st) fs) (defBody st) = some F.body) (h1 : F.n = N.length) (h2 : F.ps = ps.length) (h3 : ps.length ≤ N.length) (mb : ∀ x ∈ bltNames, mg x = none) (hfn : FnsOk P w K mg base XR k cf fns) :
    FnOk P w K mg base (L2.CX P w) (k + 1) f fd ps (spOf K XR ps.length (runF cf wf F)) := by
  refine hF.okX S (fun vs H Q E h => h.1) fun cdv A outer s H vs Q E hr h => ?_
  obtain ⟨hl, m, O, hh, ds, n0, rh, hv, q⟩ := h
  have sc : SC ⟨N, fns⟩ (defScope st) (cxOf (L2.CX P w) P w K mg base N qual (defScope st) f cdv A outer s H E) cf XR (fun cls d _ H => E cls d H) k :=
    ⟨⟨rfl, S.nd, okn, rfl, rfl, hr, mb, hfn, takes_of rfl rfl rfl rfl⟩, fun _ => rfl, S.kind, passes_of (K := fun e s'' => L2.CX P w outer H s E e s'') (E₁ := fun e' s'' => L2.CX P w outer H s E e' s'') rfl⟩
  refine ⟨_, trSs_ok (m0 := m) (O0 := O) (H0 := H) (wf := wf) n0 (fun st a e => trS_ok n0 sc fs st a e) ht, m, O, hh, Mi.start F ds, ?_, .refl, ?_⟩
  · exact start_R rh hv h1 (by rw [h2, hl]) (by rw [hl]; exact h3)
  · unfold runF at q
    rw [if_pos (by rw [hv.length, hl, h2])] at q
    cases e : exs cf wf F.body ⟨Mi.start F ds, hh⟩ with
    | stuck => rw [e] at q; exact q
    | exc x h' =>
      rw [e] at q
      exact fun m' O' H' σ' x' n' r' cls dd xr => q m' O' H' cls dd x' n' r' xr
    | ok p =>
      rw [e] at q
      obtain ⟨fl, s'⟩ := p
      cases fl with
      | next => exact fun m' O' H' σ' x' _ r' => q m' (hideS O') H' .non (x'.hid n0) (hideS_no _) r'.st.hide (TX.of VR.n)
      | ret d fr => exact fun m' O' H' v x' n' r' t => q m' O' H' v x' n' r' t
/-- a def of the text, ready -/
structure Dd (K : PySem.W.Frag) (mg : Str → Option Value) (P : Prg) (fns : List (Str × (String × Nat))) (x : Str) (nm : String) (n : Nat) : Prop where
  ex : ∃ (f : Addr) (fd : FuncData) (qual : Str) (st : Stmt) (N ps : List Str) (B Fz : List Nat) (fe fs : Nat) (F : Fn), Fun K x qual st f fd ∧ FnScope N ps (defScope st) ∧ okN N = true ∧
    trSs Fz (trS ⟨N, fns⟩ B Fz fe (defScope st) fs) (defBody st) = some F.body ∧ F.n = N.length ∧ F.ps = ps.length ∧ ps.length ≤ N.length ∧ mg x = some (.ref f) ∧ Binds K fd ps [] ∧ ps.length = n ∧ P.lookup nm = some F ∧ (x == ("__debug__" : Str)) = false
theorem prog_ok {XR : XRel} {Pr : Prg} {wf : Nat} {fns : List (Str × (String × Nat))} (mb : ∀ x ∈ bltNames, mg x = none) (hd : ∀ x f n, fns.lookup x = some (f, n) → Dd K mg Pr fns x f n) : ∀ k : Nat, FnsOk P w K mg base XR k (callN Pr wf k) fns
  | 0 => fun x nm n e => by
    obtain ⟨f, fd, qual, st, N, ps, B, Fz, fe, fs, F, hF, S, okn, ht, h1, h2, h3, hm, hb, hps, hl, hdb⟩ := hd x nm n e
    refine ⟨f, fd, ps, ⟨fun vs H Q E h => by rw [hps]; exact h.1, fun A outer s H args us vs Q E _ _ _ _ h => ?_⟩, hm, hF.kp, hb, hps, hdb⟩
    obtain ⟨_, m, O, hh, ds, _, _, _, q⟩ := h
    exact q.elim
  | k + 1 => fun x nm n e => by
    have ih := prog_ok (XR := XR) (Pr := Pr) (wf := wf) mb hd k
    obtain ⟨f, fd, qual, st, N, ps, B, Fz, fe, fs, F, hF, S, okn, ht, h1, h2, h3, hm, hb, hps, hl, hdb⟩ := hd x nm n e
    refine ⟨f, fd, ps, ?_, hm, hF.kp, hb, hps, hdb⟩
    have z := fn_ok (P := P) (w := w) (base := base) (wf := wf) hF S okn ht h1 h2 h3 mb ih
    rw [hps] at z
    have e2 : callN Pr wf (k + 1) nm = runF (callN Pr wf k) wf F := by
      funext ds h
      show (match Pr.lookup nm with | some F => _ | none => _) = _
      rw [hl]
      rfl
    rw [e2]
    exact z
end
end Mi

set_option Elab.async false
set_option linter.all false
set_option maxRecDepth 100000
set_option maxHeartbeats 8000000
/-! Mi: two texts of the interpreter are the same. -/
namespace Mi
open PySem

mutual
def bqE : Mi.E → Mi.E → Bool
  | .var i, .var j => i == j
  | .pk i, .pk j => i == j
  | .non, .non => true
  | .bl a, .bl b => a == b
  | .int a, .int b => a == b
  | .str a, .str b => decide (a = b)
  | .tup a, .tup b => bqEs a b
  | .lst a, .lst b => bqEs a b
  | .dct a, .dct b => bqEs a b
  | .neg a, .neg b => bqE a b
  | .not a, .not b => bqE a b
  | .and a b, .and c d => bqE a c && bqE b d
  | .or a b, .or c d => bqE a c && bqE b d
  | .bin o a b, .bin p c d => decide (o = p) && (bqE a c && bqE b d)
  | .cmp o a b, .cmp p c d => decide (o = p) && (bqE a c && bqE b d)
  | .chain o o' a b c, .chain p p' d e f => decide (o = p) && (decide (o' = p') && (bqE a d && (bqE b e && bqE c f)))
  | .ite a b c, .ite d e f => bqE a d && (bqE b e && bqE c f)
  | .idx a b, .idx c d => bqE a c && bqE b d
  | .cut a b c, .cut d e f => bqE a d && (bqE b e && bqE c f)
  | .call f a, .call g b => decide (f = g) && bqEs a b
  | .bi f a, .bi g b => decide (f = g) && bqEs a b
  | .get a b, .get c d => bqE a c && bqEs b d
  | .lc o t s a b, .lc o' t' s' a' b' => decide (o = o') && (decide (t = t') && (bqIt s s' && (bqE a a' && bqE b b')))
  | _, _ => false
def bqEs : Es → Es → Bool
  | .nil, .nil => true
  | .cons a b, .cons c d => bqE a c && bqEs b d
  | _, _ => false
def bqIt : Mi.It → Mi.It → Bool
  | .over a, .over b => bqE a b
  | .range a, .range b => bqEs a b
  | _, _ => false
end
mutual
theorem bqE_ok : ∀ (a b : Mi.E), bqE a b = true → a = b
  | .var i, b, h => by cases b <;> simp only [bqE] at h <;> first | cases h | (rw [eq_of_beq h])
  | .pk i, b, h => by cases b <;> simp only [bqE] at h <;> first | cases h | (rw [eq_of_beq h])
  | .non, b, h => by cases b <;> simp only [bqE] at h <;> first | rfl | cases h
  | .bl i, b, h => by cases b <;> simp only [bqE] at h <;> first | cases h | (rw [eq_of_beq h])
  | .int i, b, h => by cases b <;> simp only [bqE] at h <;> first | cases h | (rw [eq_of_beq h])
  | .str i, b, h => by cases b <;> simp only [bqE] at h <;> first | cases h | (rw [of_decide_eq_true h])
  | .tup a, b, h => by cases b <;> simp only [bqE] at h <;> first | cases h | (rw [bqEs_ok _ _ h])
  | .lst a, b, h => by cases b <;> simp only [bqE] at h <;> first | cases h | (rw [bqEs_ok _ _ h])
  | .dct a, b, h => by cases b <;> simp only [bqE] at h <;> first | cases h | (rw [bqEs_ok _ _ h])
  | .neg a, b, h => by cases b <;> simp only [bqE] at h <;> first | cases h | (rw [bqE_ok _ _ h])
  | .not a, b, h => by cases b <;> simp only [bqE] at h <;> first | cases h | (rw [bqE_ok _ _ h])
  | .and a b, c, h => by cases c <;> simp only [bqE, Bool.and_eq_true] at h <;> first | cases h; done | (rw [bqE_ok _ _ h.1, bqE_ok _ _ h.2])
  | .or a b, c, h => by cases c <;> simp only [bqE, Bool.and_eq_true] at h <;> first | cases h; done | (rw [bqE_ok _ _ h.1, bqE_ok _ _ h.2])
  | .bin o a b, c, h => by cases c <;> simp only [bqE, Bool.and_eq_true] at h <;> first | cases h; done | (rw [of_decide_eq_true h.1, bqE_ok _ _ h.2.1, bqE_ok _ _ h.2.2])
  | .cmp o a b, c, h => by cases c <;> simp only [bqE, Bool.and_eq_true] at h <;> first | cases h; done | (rw [of_decide_eq_true h.1, bqE_ok _ _ h.2.1, bqE_ok _ _ h.2.2])
  | .chain o o' a b c, d, h => by cases d <;> simp only [bqE, Bool.and_eq_true] at h <;> first | cases h; done | (rw [of_decide_eq_true h.1, of_decide_eq_true h.2.1, bqE_ok _ _ h.2.2.1, bqE_ok _ _ h.2.2.2.1, bqE_ok _ _ h.2.2.2.2])
  | .ite a b c, d, h => by cases d <;> simp only [bqE, Bool.and_eq_true] at h <;> first | cases h; done | (rw [bqE_ok _ _ h.1, bqE_ok _ _ h.2.1, bqE_ok _ _ h.2.2])
  | .idx a b, c, h => by cases c <;> simp only [bqE, Bool.and_eq_true] at h <;> first | cases h; done | (rw [bqE_ok _ _ h.1, bqE_ok _ _ h.2])
  | .cut a b c, d, h => by cases d <;> simp only [bqE, Bool.and_eq_true] at h <;> first | cases h; done | (rw [bqE_ok _ _ h.1, bqE_ok _ _ h.2.1, bqE_ok _ _ h.2.2])
  | .call f a, c, h => by cases c <;> simp only [bqE, Bool.and_eq_true] at h <;> first | cases h; done | (rw [of_decide_eq_true h.1, bqEs_ok _ _ h.2])
  | .bi f a, c, h => by cases c <;> simp only [bqE, Bool.and_eq_true] at h <;> first | cases h; done | (rw [of_decide_eq_true h.1, bqEs_ok _ _ h.2])
  | .get a b, c, h => by cases c <;> simp only [bqE, Bool.and_eq_true] at h <;> first | cases h; done | (rw [bqE_ok _ _ h.1, bqEs_ok _ _ h.2])
  | .lc o t s a b, c, h => by cases c <;> simp only [bqE, Bool.and_eq_true] at h <;> first | cases h; done | (rw [of_decide_eq_true h.1, of_decide_eq_true h.2.1, bqIt_ok _ _ h.2.2.1, bqE_ok _ _ h.2.2.2.1, bqE_ok _ _ h.2.2.2.2])
theorem bqEs_ok : ∀ (a b : Es), bqEs a b = true → a = b
  | .nil, b, h => by cases b <;> simp only [bqEs] at h <;> first | rfl | cases h
  | .cons a b, c, h => by cases c <;> simp only [bqEs, Bool.and_eq_true] at h <;> first | cases h; done | (rw [bqE_ok _ _ h.1, bqEs_ok _ _ h.2])
theorem bqIt_ok : ∀ (a b : Mi.It), bqIt a b = true → a = b
  | .over a, c, h => by cases c <;> simp only [bqIt] at h <;> first | cases h; done | (rw [bqE_ok _ _ h])
  | .range a, c, h => by cases c <;> simp only [bqIt] at h <;> first | cases h; done | (rw [bqEs_ok _ _ h])
end
mutual
def bqS : Mi.S → Mi.S → Bool
  | .asg t e, .asg u f => decide (t = u) && bqE e f
  | .par i j a b, .par k l c d => i == k && (j == l && (bqE a c && bqE b d))
  | .sub n i e, .sub m j f => n == m && (bqE i j && bqE e f)
  | .augv n o e, .augv m p f => n == m && (decide (o = p) && bqE e f)
  | .augs n i o e, .augs m j p f => n == m && (bqE i j && (decide (o = p) && bqE e f))
  | .app n e, .app m f => n == m && bqE e f
  | .expr e, .expr f => bqE e f
  | .ret e, .ret f => bqE e f
  | .iff c a b, .iff d e f => bqE c d && (bqSs a e && bqSs b f)
  | .wh c a, .wh d b => bqE c d && bqSs a b
  | .fr t s b, .fr u r c => decide (t = u) && (bqIt s r && bqSs b c)
  | .frz a, .frz b => decide (a = b)
  | .box n e, .box m f => n == m && bqE e f
  | _, _ => false
def bqSs : Ss → Ss → Bool
  | .nil, .nil => true
  | .cons a b, .cons c d => bqS a c && bqSs b d
  | _, _ => false
end
mutual
theorem bqS_ok : ∀ (a b : Mi.S), bqS a b = true → a = b
  | .asg t e, c, h => by cases c <;> simp only [bqS, Bool.and_eq_true] at h <;> first | cases h; done | (rw [of_decide_eq_true h.1, bqE_ok _ _ h.2])
  | .par i j a b, c, h => by cases c <;> simp only [bqS, Bool.and_eq_true] at h <;> first | cases h; done | (rw [eq_of_beq h.1, eq_of_beq h.2.1, bqE_ok _ _ h.2.2.1, bqE_ok _ _ h.2.2.2])
  | .sub n i e, c, h => by cases c <;> simp only [bqS, Bool.and_eq_true] at h <;> first | cases h; done | (rw [eq_of_beq h.1, bqE_ok _ _ h.2.1, bqE_ok _ _ h.2.2])
  | .augv n o e, c, h => by cases c <;> simp only [bqS, Bool.and_eq_true] at h <;> first | cases h; done | (rw [eq_of_beq h.1, of_decide_eq_true h.2.1, bqE_ok _ _ h.2.2])
  | .augs n i o e, c, h => by cases c <;> simp only [bqS, Bool.and_eq_true] at h <;> first | cases h; done | (rw [eq_of_beq h.1, bqE_ok _ _ h.2.1, of_decide_eq_true h.2.2.1, bqE_ok _ _ h.2.2.2])
  | .app n e, c, h => by cases c <;> simp only [bqS, Bool.and_eq_true] at h <;> first | cases h; done | (rw [eq_of_beq h.1, bqE_ok _ _ h.2])
  | .expr e, c, h => by cases c <;> simp only [bqS] at h <;> first | cases h; done | (rw [bqE_ok _ _ h])
  | .ret e, c, h => by cases c <;> simp only [bqS] at h <;> first | cases h; done | (rw [bqE_ok _ _ h])
  | .iff x a b, c, h => by cases c <;> simp only [bqS, Bool.and_eq_true] at h <;> first | cases h; done | (rw [bqE_ok _ _ h.1, bqSs_ok _ _ h.2.1, bqSs_ok _ _ h.2.2])
  | .wh x a, c, h => by cases c <;> simp only [bqS, Bool.and_eq_true] at h <;> first | cases h; done | (rw [bqE_ok _ _ h.1, bqSs_ok _ _ h.2])
  | .fr t s b, c, h => by cases c <;> simp only [bqS, Bool.and_eq_true] at h <;> first | cases h; done | (rw [of_decide_eq_true h.1, bqIt_ok _ _ h.2.1, bqSs_ok _ _ h.2.2])
  | .frz a, c, h => by cases c <;> simp only [bqS] at h <;> first | cases h; done | (rw [of_decide_eq_true h])
  | .box n e, c, h => by cases c <;> simp only [bqS, Bool.and_eq_true] at h <;> first | cases h; done | (rw [eq_of_beq h.1, bqE_ok _ _ h.2])
theorem bqSs_ok : ∀ (a b : Ss), bqSs a b = true → a = b
  | .nil, b, h => by cases b <;> simp only [bqSs] at h <;> first | rfl | cases h
  | .cons a b, c, h => by cases c <;> simp only [bqSs, Bool.and_eq_true] at h <;> first | cases h; done | (rw [bqS_ok _ _ h.1, bqSs_ok _ _ h.2])
end
def bqO : Option Ss → Ss → Bool
  | some a, b => bqSs a b
  | none, _ => false
theorem bqO_ok {o : Option Ss} {b : Ss} (h : bqO o b = true) : o = some b := by
  cases o with
  | none => cases h
  | some a => rw [bqSs_ok _ _ h]
end Mi

set_option Elab.async false
set_option linter.all false
set_option maxRecDepth 100000
set_option maxHeartbeats 8000000
/-! Mi: a law's end. -/
namespace Mi
open PySem PySem.Spec PyProof.Rows L2

/-- a def as it stands behind the top -/
structure FnAt (K : PySem.W.Frag) (x : Str) (st : Stmt) : Prop where
  ex : ∃ (f : Addr) (fd : FuncData), Fun K x x st f fd ∧ PySem.W.nsIn K mainGlobals x = some (some (.ref f))
theorem fnAt {K : PySem.W.Frag} {x : Str} {st : Stmt} {f : Addr} {oc : Value} {od an : Option Addr} {osl : Array (Option Value)} {kV doc pm cdv ct : Value} (a : PySem.W.nsIn K mainGlobals x = some (some (.ref f)))
    (l : K.lookup f = some ⟨oc, od, .func (PySem.W.fnOf x x (defArgs st) (defBody st) (defScope st) .none kV doc pm an cdv ct), osl⟩) (c : PySem.W.codeIn K cdv x = true) (k : PySem.W.keepIn K (.ref f) = true) : FnAt K x st := ⟨⟨f, _, fun_mk l c k, a⟩⟩
section
variable {P : Program} {w : World} {K : PySem.W.Frag} {mg : Str → Option Value} {base : Heap}
/-- how arguments bind: no defaults -/
def BindsOf (x : Str) (st : Stmt) (ps : List Str) : Prop := ∀ (kV doc pm : Value) (an : Option Addr) (cdv ct : Value) (us : List Value), us.length = ps.length → bindArgs (PySem.W.fnOf x x (defArgs st) (defBody st) (defScope st) .none kV doc pm an cdv ct) ⟨us, []⟩ = pure (ps.zip us)
theorem ddOf {Pr : Prg} {fns : List (Str × (String × Nat))} {x : Str} {nm : String} {n : Nat} {st : Stmt} {N ps : List Str} {B Fz : List Nat} {fe fs : Nat} {F : Fn} {h : Heap} (A : FnAt K x st) (X : K.In h) (G : h.Ns mainGlobals mg) (S : FnScope N ps (defScope st)) (okn : okN N = true)
    (ht : trSs Fz (trS ⟨N, fns⟩ B Fz fe (defScope st) fs) (defBody st) = some F.body) (h1 : F.n = N.length) (h2 : F.ps = ps.length) (h3 : ps.length ≤ N.length) (hb : BindsOf x st ps) (hps : ps.length = n) (hl : Pr.lookup nm = some F) (hdb : (x == ("__debug__" : Str)) = false) : Dd K mg Pr fns x nm n := by
  obtain ⟨f, fd, hF, a⟩ := A
  exact ⟨f, fd, x, st, N, ps, B, Fz, fe, fs, F, hF, S, okn, ht, h1, h2, h3, PySem.W.mg_of X G a, hF.binds hb, hps, hl, hdb⟩
theorem law_sp {XR : XRel} {r : List D → AH → Res (D × Bool × AH)} {ns : List Int} {fr : Bool} {h' : AH} (hr : r [.scr ns] [] = .ok (.bl true, fr, h')) {a : Addr} {H : Hp} (hS : SqL K H a (ns.map V.int)) : spOf K XR 1 r [.ref a] H (fun v _ => v = .bl true) (fun _ _ _ => False) := by
  have fin : ∀ O : Labs, NoSl O → (∀ b, O b ≠ .un → H b ≠ none) → SL K O H a (ns.map V.int) → spOf K XR 1 r [.ref a] H (fun v _ => v = .bl true) (fun _ _ _ => False) := fun O nO lO hSL => by
    refine ⟨rfl, [], O, [], [.scr ns], nO, ⟨lO, rfl, fun n d e => by simp at e⟩, ?_, ?_⟩
    · simp only [VRs_cons, VRs_nil]
      refine ⟨_, _, rfl, ?_, rfl⟩
      unfold VR
      exact ⟨a, rfl, hSL⟩
    · rw [hr]
      exact fun m' O' H' v _ _ _ t => t.isbl rfl
  rcases hS with h | h
  · refine fin (fun b => if b = a then .fz else .un) (fun b i e => ?_) (fun b hb => ?_) (.inl ⟨if_pos rfl, h⟩)
    · dsimp only at e
      split at e <;> cases e
    · by_cases q : b = a
      · subst q; exact rd_some h
      · exact absurd (if_neg q) hb
  · exact fin (fun _ => .un) (fun _ _ e => nomatch e) (fun _ hb => absurd rfl hb) (.inr h)
/-- the law's def, ready for the walk -/
theorem law_end {l : PySem.W.OpenLaw} {Pr : Prg} {wf k : Nat} {fns : List (Str × (String × Nat))} {h : Heap} {fa : Addr} {x : Str} {sl : Stmt} {N : List Str} {B Fz : List Nat} {fe fs : Nat} {F : Fn} (X : K.In h) (G : h.Ns mainGlobals mg) (hfa : mg ("law" : Str) = some (.ref fa)) (mb : ∀ x ∈ bltNames, mg x = none)
    (hd : ∀ p ∈ fns, Dd K mg Pr fns p.1 p.2.1 p.2.2) (A : FnAt K "law" sl) (S : FnScope N [x] (defScope sl)) (okn : okN N = true) (ht : trSs Fz (trS ⟨N, fns⟩ B Fz fe (defScope sl) fs) (defBody sl) = some F.body) (h1 : F.n = N.length) (h2 : F.ps = 1) (h3 : 1 ≤ N.length)
    (ha : ∀ (kV doc pm : Value) (an : Option Addr) (cdv ct : Value) (s : Shared) (u : Value), BindsTo s (PySem.W.fnOf "law" "law" (defArgs sl) (defBody sl) (defScope sl) .none kV doc pm an cdv ct) ⟨[u], []⟩ [(x, u)]) {XR : XRel} :
    ∃ fd : FuncData, (∀ (s : Shared) (u : Value), BindsTo s fd ⟨[u], []⟩ [(x, u)]) ∧ ∀ base : Heap, K.In base → base.Ns mainGlobals mg → FnOk l.prog w K mg base (L2.CX l.prog w) (k + 1) fa fd [x] (spOf K XR 1 (runF (callN Pr wf k) wf F)) := by
  obtain ⟨f, fd, hF, a⟩ := A
  have e := hfa.symm.trans (PySem.W.mg_of X G a)
  cases e
  refine ⟨fd, fun s u => ?_, fun base _ _ => ?_⟩
  · obtain ⟨oc, od, kV, doc, pm, an, cdv, ct, osl, e, _⟩ := hF.ex
    rw [e]
    exact ha kV doc pm an cdv ct s u
  · exact fn_ok hF S okn ht h1 h2 h3 mb (prog_ok mb (fun x f n e => hd _ (lookup_mem e)) k)
theorem cx_no {P : Program} {w : World} {H : Hp} {s : Shared} {e : Value} {s' : Shared} (h : L2.CX P w [] H s (fun _ _ _ => False) e s') : False := by
  obtain ⟨_, _, _, _, _, _, _, _, _, _, _, _, z⟩ := h
  exact z.elim
end
theorem law_walk {l : PySem.W.OpenLaw} {q : Program} {loose : List Str} {XP : (Str → Option Value) → Heap → Prop} {YP : World → Heap → Prop} {d : DefRec} {K : Params → PySem.W.Frag} {k : Nat} {XR : XRel} {r : List D → AH → Res (D × Bool × AH)} (hn : l.most = some 63) (hdf : d.params.defaults = []) (hr : Room k callerA)
    (hlaw : ∀ ns : List Int, ns.length ≤ 63 → ∃ fr h', r [.scr ns] [] = .ok (.bl true, fr, h')) (hY : ∀ (w : World) (h : Heap), YP w h → (K w.params).In h)
    (F : ∀ (w : World) (mg : Str → Option Value) (fa : Addr) (h : Heap), (K w.params).In h → h.Ns mainGlobals mg → mg d.name = some (.ref fa) →
      ∃ fd : FuncData, (∀ (s : Shared) (u : Value), BindsTo s fd ⟨[u], []⟩ [("script", u)]) ∧ ∀ base : Heap, (K w.params).In base → base.Ns mainGlobals mg → FnOk l.prog w (K w.params) mg base (L2.CX l.prog w) k fa fd ["script"] (spOf (K w.params) XR 1 r)) :
    PySem.W.WalkO q loose XP YP l.row.toRowW d [] (fun f vs => PySem.call f vs) :=
  L2.walk_of (n := 63) (k := k) (x := "script") (CX := fun w => L2.CX l.prog w) (sp := fun w => spOf (K w.params) XR 1 r) hn (by decide) hdf hr hY F (fun w H a ns hl _ hS => by
    obtain ⟨fr, h2, e⟩ := hlaw ns hl
    exact law_sp e hS) fun _ _ _ _ _ h => cx_no h
end Mi

set_option Elab.async false
set_option linter.all false
set_option maxRecDepth 100000
set_option maxHeartbeats 8000000
/-! k04: the text, by the interpreter. -/
namespace K4
open PySem L2 Mi
def topS (i : Nat) : Stmt := PySem.Challenge.pw_allplaced_k04_amounts_labels_and_numbers.main.body.getD i (.Pass ⟨0, 0, 0, 0⟩)
def fns : List (Str × (String × Nat)) := [(Str.ofString "is_number", ("is_number", 1)), (Str.ofString "is_from", ("is_from", 2)), (Str.ofString "is_ascending", ("is_ascending", 1)), (Str.ofString "is_within", ("is_within", 2)), (Str.ofString "is_name", ("is_name", 1)), (Str.ofString "is_labels", ("is_labels", 1)), (Str.ofString "is_word_set", ("is_word_set", 1)), (Str.ofString "is_picks", ("is_picks", 1)), (Str.ofString "picked", ("picked", 2)), (Str.ofString "narrower", ("narrower", 2)), (Str.ofString "both_picks", ("both_picks", 2)), (Str.ofString "is_amounts", ("is_amounts", 1)), (Str.ofString "in_order", ("in_order", 1)), (Str.ofString "plus_amounts", ("plus_amounts", 2)), (Str.ofString "fits_in", ("fits_in", 2)), (Str.ofString "minus_amounts", ("minus_amounts", 2)), (Str.ofString "lack", ("lack", 2)), (Str.ofString "times_in", ("times_in", 2)), (Str.ofString "sum_amounts", ("sum_amounts", 1)), (Str.ofString "divisor", ("divisor", 2)), (Str.ofString "fraction", ("fraction", 2)), (Str.ofString "middle", ("middle", 1)), (Str.ofString "at_part", ("at_part", 2)), (Str.ofString "mean", ("mean", 1)), (Str.ofString "spread_of", ("spread_of", 1)), (Str.ofString "evenness", ("evenness", 1)), (Str.ofString "_law_draws", ("_law_draws", 2)), (Str.ofString "_law_next", ("_law_next", 2)), (Str.ofString "_law_says", ("_law_says", 2)), (Str.ofString "_law_alike", ("_law_alike", 2)), (Str.ofString "_law_amounts", ("_law_amounts", 1)), (Str.ofString "_law_picks", ("_law_picks", 1)), (Str.ofString "_law_all_labels", ("_law_all_labels", 0)), (Str.ofString "_law_is_picked", ("_law_is_picked", 2)), (Str.ofString "_law_is_one", ("_law_is_one", 3)), (Str.ofString "law", ("law", 1))]
def n_is_number : List Str := [Str.ofString "thing"]
def b_is_number : Ss := (.cons (.ret (.and (.bi (.isinst "int") (.cons (.pk 0) .nil)) (.not (.bi (.isinst "bool") (.cons (.pk 0) .nil))))) .nil)
theorem t_is_number : trSs [] (trS ⟨n_is_number, fns⟩ [] [] 40 (defScope (topS 1)) 40) (defBody (topS 1)) = some b_is_number := bqO_ok (by decide +kernel)
def n_is_from : List Str := [Str.ofString "thing", Str.ofString "least"]
def b_is_from : Ss := (.cons (.ret (.and (.call "is_number" (.cons (.var 0) .nil)) (.cmp .ge (.pk 0) (.pk 1)))) .nil)
theorem t_is_from : trSs [] (trS ⟨n_is_from, fns⟩ [] [] 40 (defScope (topS 2)) 40) (defBody (topS 2)) = some b_is_from := bqO_ok (by decide +kernel)
def n_is_ascending : List Str := [Str.ofString "things", Str.ofString "k"]
def b_is_ascending : Ss := (.cons (.ret (.bi .all (.cons (.lc [1] (.name 1) (.range (.cons (.bin .sub (.bi .len (.cons (.pk 0) .nil)) (.int 1)) .nil)) (.bl true) (.cmp .lt (.idx (.pk 0) (.pk 1)) (.idx (.pk 0) (.bin .add (.pk 1) (.int 1))))) .nil))) .nil)
theorem t_is_ascending : trSs [] (trS ⟨n_is_ascending, fns⟩ [] [] 40 (defScope (topS 3)) 40) (defBody (topS 3)) = some b_is_ascending := bqO_ok (by decide +kernel)
def n_is_within : List Str := [Str.ofString "one", Str.ofString "other", Str.ofString "member"]
def b_is_within : Ss := (.cons (.ret (.bi .all (.cons (.lc [2] (.name 2) (.over (.var 0)) (.bl true) (.cmp .isin (.pk 2) (.pk 1))) .nil))) .nil)
theorem t_is_within : trSs [] (trS ⟨n_is_within, fns⟩ [] [] 40 (defScope (topS 4)) 40) (defBody (topS 4)) = some b_is_within := bqO_ok (by decide +kernel)
def n_is_name : List Str := [Str.ofString "thing", Str.ofString "sign"]
def b_is_name : Ss := (.cons (.ret (.and (.bi (.isinst "str") (.cons (.pk 0) .nil)) (.and (.cmp .ne (.pk 0) (.str "")) (.bi .all (.cons (.lc [1] (.name 1) (.over (.var 0)) (.bl true) (.chain .le .le (.str "a") (.pk 1) (.str "z"))) .nil))))) .nil)
theorem t_is_name : trSs [] (trS ⟨n_is_name, fns⟩ [] [] 40 (defScope (topS 5)) 40) (defBody (topS 5)) = some b_is_name := bqO_ok (by decide +kernel)
def n_is_labels : List Str := [Str.ofString "thing", Str.ofString "word"]
def b_is_labels : Ss := (.cons (.ret (.and (.bi (.isinst "dict") (.cons (.pk 0) .nil)) (.bi .all (.cons (.lc [1] (.name 1) (.over (.var 0)) (.bl true) (.and (.call "is_name" (.cons (.var 1) .nil)) (.call "is_name" (.cons (.idx (.pk 0) (.pk 1)) .nil)))) .nil)))) .nil)
theorem t_is_labels : trSs [] (trS ⟨n_is_labels, fns⟩ [] [] 40 (defScope (topS 7)) 40) (defBody (topS 7)) = some b_is_labels := bqO_ok (by decide +kernel)
def n_is_word_set : List Str := [Str.ofString "thing", Str.ofString "word"]
def b_is_word_set : Ss := (.cons (.ret (.and (.bi (.isinst "tuple") (.cons (.pk 0) .nil)) (.and (.cmp .ne (.pk 0) (.tup .nil)) (.and (.bi .all (.cons (.lc [1] (.name 1) (.over (.var 0)) (.bl true) (.call "is_name" (.cons (.var 1) .nil))) .nil)) (.call "is_ascending" (.cons (.var 0) .nil)))))) .nil)
theorem t_is_word_set : trSs [] (trS ⟨n_is_word_set, fns⟩ [] [] 40 (defScope (topS 8)) 40) (defBody (topS 8)) = some b_is_word_set := bqO_ok (by decide +kernel)
def n_is_picks : List Str := [Str.ofString "thing", Str.ofString "word"]
def b_is_picks : Ss := (.cons (.ret (.and (.bi (.isinst "dict") (.cons (.pk 0) .nil)) (.bi .all (.cons (.lc [1] (.name 1) (.over (.var 0)) (.bl true) (.and (.call "is_name" (.cons (.var 1) .nil)) (.call "is_word_set" (.cons (.idx (.pk 0) (.pk 1)) .nil)))) .nil)))) .nil)
theorem t_is_picks : trSs [] (trS ⟨n_is_picks, fns⟩ [] [] 40 (defScope (topS 9)) 40) (defBody (topS 9)) = some b_is_picks := bqO_ok (by decide +kernel)
def n_picked : List Str := [Str.ofString "picks", Str.ofString "labels", Str.ofString "word"]
def b_picked : Ss := (.cons (.ret (.bi .all (.cons (.lc [2] (.name 2) (.over (.var 0)) (.bl true) (.and (.cmp .isin (.pk 2) (.pk 1)) (.cmp .isin (.idx (.pk 1) (.pk 2)) (.idx (.pk 0) (.pk 2))))) .nil))) .nil)
theorem t_picked : trSs [] (trS ⟨n_picked, fns⟩ [] [] 40 (defScope (topS 10)) 40) (defBody (topS 10)) = some b_picked := bqO_ok (by decide +kernel)
def n_narrower : List Str := [Str.ofString "one", Str.ofString "other", Str.ofString "word"]
def b_narrower : Ss := (.cons (.ret (.bi .all (.cons (.lc [2] (.name 2) (.over (.var 1)) (.bl true) (.and (.cmp .isin (.pk 2) (.pk 0)) (.call "is_within" (.cons (.idx (.pk 0) (.pk 2)) (.cons (.idx (.pk 1) (.pk 2)) .nil))))) .nil))) .nil)
theorem t_narrower : trSs [] (trS ⟨n_narrower, fns⟩ [] [] 40 (defScope (topS 11)) 40) (defBody (topS 11)) = some b_narrower := bqO_ok (by decide +kernel)
def n_both_picks : List Str := [Str.ofString "one", Str.ofString "other", Str.ofString "found", Str.ofString "word", Str.ofString "value"]
def b_both_picks : Ss := (.cons (.asg (.name 2) (.dct .nil)) (.cons (.fr (.name 3) (.over (.bi .sortset (.cons (.bin .add (.bi .list (.cons (.pk 0) .nil)) (.bi .list (.cons (.pk 1) .nil))) .nil))) (.cons (.iff (.and (.cmp .isin (.pk 3) (.pk 0)) (.cmp .isin (.pk 3) (.pk 1))) (.cons (.sub 2 (.pk 3) (.bi .tuple (.cons (.lc [4] (.name 4) (.over (.idx (.pk 0) (.pk 3))) (.cmp .isin (.pk 4) (.idx (.pk 1) (.pk 3))) (.var 4)) .nil))) .nil) (.cons (.sub 2 (.pk 3) (.ite (.cmp .isin (.pk 3) (.pk 0)) (.idx (.pk 0) (.pk 3)) (.idx (.pk 1) (.pk 3)))) .nil)) .nil)) (.cons (.frz [2]) (.cons (.ret (.ite (.bi .all (.cons (.lc [3] (.name 3) (.over (.var 2)) (.bl true) (.cmp .ne (.idx (.pk 2) (.pk 3)) (.tup .nil))) .nil)) (.var 2) .non)) .nil))))
theorem t_both_picks : trSs [2] (trS ⟨n_both_picks, fns⟩ [] [2] 40 (defScope (topS 12)) 40) (defBody (topS 12)) = some b_both_picks := bqO_ok (by decide +kernel)
def n_is_amounts : List Str := [Str.ofString "thing", Str.ofString "word"]
def b_is_amounts : Ss := (.cons (.ret (.and (.bi (.isinst "dict") (.cons (.pk 0) .nil)) (.bi .all (.cons (.lc [1] (.name 1) (.over (.var 0)) (.bl true) (.and (.call "is_name" (.cons (.var 1) .nil)) (.call "is_from" (.cons (.idx (.pk 0) (.pk 1)) (.cons (.int 1) .nil))))) .nil)))) .nil)
theorem t_is_amounts : trSs [] (trS ⟨n_is_amounts, fns⟩ [] [] 40 (defScope (topS 14)) 40) (defBody (topS 14)) = some b_is_amounts := bqO_ok (by decide +kernel)
def n_in_order : List Str := [Str.ofString "amounts", Str.ofString "word"]
def b_in_order : Ss := (.cons (.ret (.bi .dict (.cons (.lc [1] (.name 1) (.over (.bi .sorted (.cons (.pk 0) .nil))) (.cmp .gt (.idx (.pk 0) (.pk 1)) (.int 0)) (.tup (.cons (.var 1) (.cons (.idx (.pk 0) (.pk 1)) .nil)))) .nil))) .nil)
theorem t_in_order : trSs [] (trS ⟨n_in_order, fns⟩ [] [] 40 (defScope (topS 15)) 40) (defBody (topS 15)) = some b_in_order := bqO_ok (by decide +kernel)
def n_plus_amounts : List Str := [Str.ofString "one", Str.ofString "other", Str.ofString "found", Str.ofString "word"]
def b_plus_amounts : Ss := (.cons (.asg (.name 2) (.bi .dict (.cons (.pk 0) .nil))) (.cons (.fr (.name 3) (.over (.var 1)) (.cons (.sub 2 (.pk 3) (.bin .add (.get (.pk 2) (.cons (.pk 3) (.cons (.int 0) .nil))) (.idx (.pk 1) (.pk 3)))) .nil)) (.cons (.frz [2]) (.cons (.ret (.call "in_order" (.cons (.var 2) .nil))) .nil))))
theorem t_plus_amounts : trSs [2] (trS ⟨n_plus_amounts, fns⟩ [] [2] 40 (defScope (topS 16)) 40) (defBody (topS 16)) = some b_plus_amounts := bqO_ok (by decide +kernel)
def n_fits_in : List Str := [Str.ofString "needs", Str.ofString "room", Str.ofString "word"]
def b_fits_in : Ss := (.cons (.ret (.bi .all (.cons (.lc [2] (.name 2) (.over (.var 0)) (.bl true) (.cmp .le (.idx (.pk 0) (.pk 2)) (.get (.pk 1) (.cons (.pk 2) (.cons (.int 0) .nil))))) .nil))) .nil)
theorem t_fits_in : trSs [] (trS ⟨n_fits_in, fns⟩ [] [] 40 (defScope (topS 17)) 40) (defBody (topS 17)) = some b_fits_in := bqO_ok (by decide +kernel)
def n_minus_amounts : List Str := [Str.ofString "one", Str.ofString "other", Str.ofString "word"]
def b_minus_amounts : Ss := (.cons (.iff (.not (.call "fits_in" (.cons (.var 1) (.cons (.var 0) .nil)))) (.cons (.ret .non) .nil) .nil) (.cons (.ret (.call "in_order" (.cons (.bi .dict (.cons (.lc [2] (.name 2) (.over (.var 0)) (.bl true) (.tup (.cons (.var 2) (.cons (.bin .sub (.idx (.pk 0) (.pk 2)) (.get (.pk 1) (.cons (.pk 2) (.cons (.int 0) .nil)))) .nil)))) .nil)) .nil))) .nil))
theorem t_minus_amounts : trSs [] (trS ⟨n_minus_amounts, fns⟩ [] [] 40 (defScope (topS 18)) 40) (defBody (topS 18)) = some b_minus_amounts := bqO_ok (by decide +kernel)
def n_lack : List Str := [Str.ofString "needs", Str.ofString "room", Str.ofString "word"]
def b_lack : Ss := (.cons (.ret (.call "in_order" (.cons (.bi .dict (.cons (.lc [2] (.name 2) (.over (.var 0)) (.bl true) (.tup (.cons (.var 2) (.cons (.bin .sub (.idx (.pk 0) (.pk 2)) (.get (.pk 1) (.cons (.pk 2) (.cons (.int 0) .nil)))) .nil)))) .nil)) .nil))) .nil)
theorem t_lack : trSs [] (trS ⟨n_lack, fns⟩ [] [] 40 (defScope (topS 19)) 40) (defBody (topS 19)) = some b_lack := bqO_ok (by decide +kernel)
def n_times_in : List Str := [Str.ofString "needs", Str.ofString "room", Str.ofString "word"]
def b_times_in : Ss := (.cons (.ret (.ite (.cmp .ne (.pk 0) (.dct .nil)) (.bi .min (.cons (.lc [2] (.name 2) (.over (.var 0)) (.bl true) (.bin .fdiv (.get (.pk 1) (.cons (.pk 2) (.cons (.int 0) .nil))) (.idx (.pk 0) (.pk 2)))) .nil)) .non)) .nil)
theorem t_times_in : trSs [] (trS ⟨n_times_in, fns⟩ [] [] 40 (defScope (topS 20)) 40) (defBody (topS 20)) = some b_times_in := bqO_ok (by decide +kernel)
def n_sum_amounts : List Str := [Str.ofString "rows", Str.ofString "found", Str.ofString "row"]
def b_sum_amounts : Ss := (.cons (.asg (.name 1) (.dct .nil)) (.cons (.fr (.name 2) (.over (.var 0)) (.cons (.frz [1]) (.cons (.asg (.name 1) (.call "plus_amounts" (.cons (.var 1) (.cons (.var 2) .nil)))) .nil))) (.cons (.ret (.pk 1)) .nil)))
theorem t_sum_amounts : trSs [1] (trS ⟨n_sum_amounts, fns⟩ [] [1] 40 (defScope (topS 21)) 40) (defBody (topS 21)) = some b_sum_amounts := bqO_ok (by decide +kernel)
def n_divisor : List Str := [Str.ofString "a", Str.ofString "b"]
def b_divisor : Ss := (.cons (.wh (.cmp .ne (.pk 1) (.int 0)) (.cons (.par 0 1 (.var 1) (.bin .mod (.pk 0) (.pk 1))) .nil)) (.cons (.ret (.ite (.cmp .ne (.pk 0) (.int 0)) (.var 0) (.int 1))) .nil))
theorem t_divisor : trSs [] (trS ⟨n_divisor, fns⟩ [] [] 40 (defScope (topS 23)) 40) (defBody (topS 23)) = some b_divisor := bqO_ok (by decide +kernel)
def n_fraction : List Str := [Str.ofString "a", Str.ofString "b", Str.ofString "common"]
def b_fraction : Ss := (.cons (.asg (.name 2) (.bin .mul (.call "divisor" (.cons (.bi .abs (.cons (.pk 0) .nil)) (.cons (.bi .abs (.cons (.pk 1) .nil)) .nil))) (.ite (.cmp .gt (.pk 1) (.int 0)) (.int 1) (.neg (.int 1))))) (.cons (.ret (.tup (.cons (.bin .fdiv (.pk 0) (.pk 2)) (.cons (.bin .fdiv (.pk 1) (.pk 2)) .nil)))) .nil))
theorem t_fraction : trSs [] (trS ⟨n_fraction, fns⟩ [] [] 40 (defScope (topS 24)) 40) (defBody (topS 24)) = some b_fraction := bqO_ok (by decide +kernel)
def n_middle : List Str := [Str.ofString "numbers"]
def b_middle : Ss := (.cons (.ret (.idx (.bi .sorted (.cons (.pk 0) .nil)) (.bin .fdiv (.bin .sub (.bi .len (.cons (.pk 0) .nil)) (.int 1)) (.int 2)))) .nil)
theorem t_middle : trSs [] (trS ⟨n_middle, fns⟩ [] [] 40 (defScope (topS 26)) 40) (defBody (topS 26)) = some b_middle := bqO_ok (by decide +kernel)
def n_at_part : List Str := [Str.ofString "numbers", Str.ofString "part", Str.ofString "rows", Str.ofString "k"]
def b_at_part : Ss := (.cons (.asg (.name 2) (.bi .sorted (.cons (.pk 0) .nil))) (.cons (.fr (.name 3) (.range (.cons (.bi .len (.cons (.pk 2) .nil)) .nil)) (.cons (.iff (.cmp .ge (.bin .mul (.bin .add (.pk 3) (.int 1)) (.idx (.pk 1) (.int 1))) (.bin .mul (.idx (.pk 1) (.int 0)) (.bi .len (.cons (.pk 2) .nil)))) (.cons (.ret (.idx (.pk 2) (.pk 3))) .nil) .nil) .nil)) (.cons (.ret (.idx (.pk 2) (.neg (.int 1)))) .nil)))
theorem t_at_part : trSs [2] (trS ⟨n_at_part, fns⟩ [] [2] 40 (defScope (topS 27)) 40) (defBody (topS 27)) = some b_at_part := bqO_ok (by decide +kernel)
def n_mean : List Str := [Str.ofString "numbers"]
def b_mean : Ss := (.cons (.ret (.call "fraction" (.cons (.bi .sum (.cons (.pk 0) .nil)) (.cons (.bi .len (.cons (.pk 0) .nil)) .nil)))) .nil)
theorem t_mean : trSs [] (trS ⟨n_mean, fns⟩ [] [] 40 (defScope (topS 28)) 40) (defBody (topS 28)) = some b_mean := bqO_ok (by decide +kernel)
def n_spread_of : List Str := [Str.ofString "numbers"]
def b_spread_of : Ss := (.cons (.ret (.bin .sub (.bi .max (.cons (.pk 0) .nil)) (.bi .min (.cons (.pk 0) .nil)))) .nil)
theorem t_spread_of : trSs [] (trS ⟨n_spread_of, fns⟩ [] [] 40 (defScope (topS 29)) 40) (defBody (topS 29)) = some b_spread_of := bqO_ok (by decide +kernel)
def n_evenness : List Str := [Str.ofString "numbers", Str.ofString "squares", Str.ofString "number"]
def b_evenness : Ss := (.cons (.asg (.name 1) (.bi .sum (.cons (.lc [2] (.name 2) (.over (.var 0)) (.bl true) (.bin .mul (.pk 2) (.pk 2))) .nil))) (.cons (.ret (.ite (.cmp .gt (.pk 1) (.int 0)) (.call "fraction" (.cons (.bin .mul (.bi .sum (.cons (.pk 0) .nil)) (.bi .sum (.cons (.pk 0) .nil))) (.cons (.bin .mul (.bi .len (.cons (.pk 0) .nil)) (.pk 1)) .nil))) (.tup (.cons (.int 1) (.cons (.int 1) .nil))))) .nil))
theorem t_evenness : trSs [] (trS ⟨n_evenness, fns⟩ [] [] 40 (defScope (topS 30)) 40) (defBody (topS 30)) = some b_evenness := bqO_ok (by decide +kernel)
def n__law_draws : List Str := [Str.ofString "script", Str.ofString "many", Str.ofString "draws", Str.ofString "mixed", Str.ofString "k", Str.ofString "cell", Str.ofString "rest", Str.ofString "turn"]
def b__law_draws : Ss := (.cons (.asg (.name 2) (.lst .nil)) (.cons (.asg (.name 3) (.int 7)) (.cons (.fr (.name 4) (.range (.cons (.bi .len (.cons (.pk 0) .nil)) .nil)) (.cons (.asg (.name 5) (.bi .abs (.cons (.bi .int (.cons (.idx (.pk 0) (.pk 4)) .nil)) .nil))) (.cons (.asg (.name 3) (.bin .mod (.bi .int (.cons (.bin .add (.bin .add (.bin .mul (.pk 3) (.int 48271)) (.bin .mod (.pk 5) (.int 1000003))) (.pk 4)) .nil)) (.int 65537))) (.cons (.asg (.name 6) (.int 0)) (.cons (.iff (.cmp .ge (.pk 5) (.bin .pow (.int 10) (.int 18))) (.cons (.asg (.name 6) (.var 5)) .nil) (.cons (.app 2 (.bin .mod (.bi .int (.cons (.pk 5) .nil)) (.int 997))) (.cons (.app 2 (.bin .mod (.bin .mod (.bi .int (.cons (.bin .add (.bin .mul (.pk 3) (.int 69621)) (.int 5)) .nil)) (.int 65521)) (.int 997))) .nil))) (.cons (.fr (.name 7) (.range (.cons (.int 60) .nil)) (.cons (.iff (.cmp .gt (.pk 6) (.int 0)) (.cons (.app 2 (.bin .mod (.bi .int (.cons (.pk 6) .nil)) (.int 997))) (.cons (.asg (.name 6) (.bin .fdiv (.pk 6) (.int 997))) .nil)) .nil) .nil)) .nil)))))) (.cons (.fr (.name 4) (.range (.cons (.var 1) .nil)) (.cons (.asg (.name 3) (.bin .mod (.bi .int (.cons (.bin .add (.bin .add (.bin .mul (.pk 3) (.int 16807)) (.pk 4)) (.int 1)) .nil)) (.int 65537))) (.cons (.app 2 (.bin .mod (.bi .int (.cons (.pk 3) .nil)) (.int 997))) .nil))) (.cons (.ret (.cut (.pk 2) .non (.pk 1))) .nil)))))
theorem t__law_draws : trSs [2] (trS ⟨n__law_draws, fns⟩ [] [2] 40 (defScope (topS 32)) 40) (defBody (topS 32)) = some b__law_draws := bqO_ok (by decide +kernel)
def n__law_next : List Str := [Str.ofString "w", Str.ofString "many"]
def b__law_next : Ss := (.cons (.augs 0 (.str "at") .add (.int 1)) (.cons (.iff (.cmp .gt (.idx (.pk 0) (.str "at")) (.bi .len (.cons (.idx (.pk 0) (.str "draws")) .nil))) (.cons (.ret (.int 0)) .nil) .nil) (.cons (.ret (.bin .mod (.bi .int (.cons (.idx (.idx (.pk 0) (.str "draws")) (.bin .sub (.idx (.pk 0) (.str "at")) (.int 1))) .nil)) (.pk 1))) .nil)))
theorem t__law_next : trSs [] (trS ⟨n__law_next, fns⟩ [] [] 40 (defScope (topS 33)) 40) (defBody (topS 33)) = some b__law_next := bqO_ok (by decide +kernel)
def n__law_says : List Str := [Str.ofString "seen", Str.ofString "due"]
def b__law_says : Ss := (.cons (.ret (.and (.bi (.isinst "bool") (.cons (.pk 0) .nil)) (.cmp .eq (.pk 0) (.pk 1)))) .nil)
theorem t__law_says : trSs [] (trS ⟨n__law_says, fns⟩ [] [] 40 (defScope (topS 35)) 40) (defBody (topS 35)) = some b__law_says := bqO_ok (by decide +kernel)
def n__law_alike : List Str := [Str.ofString "seen", Str.ofString "due", Str.ofString "key", Str.ofString "k"]
def b__law_alike : Ss := (.cons (.iff (.bi (.isinst "dict") (.cons (.pk 1) .nil)) (.cons (.iff (.or (.not (.bi (.isinst "dict") (.cons (.pk 0) .nil))) (.cmp .ne (.bi .sorted (.cons (.pk 0) .nil)) (.bi .sorted (.cons (.pk 1) .nil)))) (.cons (.ret (.bl false)) .nil) .nil) (.cons (.ret (.cmp .eq (.lc [2] (.name 2) (.over (.var 1)) (.not (.call "_law_alike" (.cons (.idx (.pk 0) (.pk 2)) (.cons (.idx (.pk 1) (.pk 2)) .nil)))) (.var 2)) (.lst .nil))) .nil)) .nil) (.cons (.iff (.bi (.isinst "tuple") (.cons (.pk 1) .nil)) (.cons (.iff (.or (.not (.bi (.isinst "tuple") (.cons (.pk 0) .nil))) (.cmp .ne (.bi .len (.cons (.pk 0) .nil)) (.bi .len (.cons (.pk 1) .nil)))) (.cons (.ret (.bl false)) .nil) .nil) (.cons (.ret (.cmp .eq (.lc [3] (.name 3) (.range (.cons (.bi .len (.cons (.pk 1) .nil)) .nil)) (.not (.call "_law_alike" (.cons (.idx (.pk 0) (.pk 3)) (.cons (.idx (.pk 1) (.pk 3)) .nil)))) (.var 3)) (.lst .nil))) .nil)) .nil) (.cons (.iff (.cmp .is (.pk 1) .non) (.cons (.ret (.cmp .is (.pk 0) .non)) .nil) .nil) (.cons (.iff (.bi (.isinst "str") (.cons (.pk 1) .nil)) (.cons (.ret (.and (.bi (.isinst "str") (.cons (.pk 0) .nil)) (.cmp .eq (.pk 0) (.pk 1)))) .nil) .nil) (.cons (.ret (.and (.bi (.isinst "int") (.cons (.pk 0) .nil)) (.and (.cmp .eq (.bi (.isinst "bool") (.cons (.pk 0) .nil)) (.bi (.isinst "bool") (.cons (.pk 1) .nil))) (.cmp .eq (.pk 0) (.pk 1))))) .nil)))))
theorem t__law_alike : trSs [] (trS ⟨n__law_alike, fns⟩ [] [] 40 (defScope (topS 37)) 40) (defBody (topS 37)) = some b__law_alike := bqO_ok (by decide +kernel)
def n__law_amounts : List Str := [Str.ofString "w", Str.ofString "word"]
def b__law_amounts : Ss := (.cons (.ret (.bi .dict (.cons (.lc [1] (.name 1) (.over (.lst (.cons (.str "cpu") (.cons (.str "disk") (.cons (.str "mem") .nil))))) (.cmp .gt (.call "_law_next" (.cons (.var 0) (.cons (.int 3) .nil))) (.int 0)) (.tup (.cons (.var 1) (.cons (.bin .add (.int 1) (.call "_law_next" (.cons (.var 0) (.cons (.int 5) .nil)))) .nil)))) .nil))) .nil)
theorem t__law_amounts : trSs [] (trS ⟨n__law_amounts, fns⟩ [] [] 40 (defScope (topS 38)) 40) (defBody (topS 38)) = some b__law_amounts := bqO_ok (by decide +kernel)
def n__law_picks : List Str := [Str.ofString "w", Str.ofString "found", Str.ofString "word", Str.ofString "some", Str.ofString "value"]
def b__law_picks : Ss := (.cons (.asg (.name 1) (.dct .nil)) (.cons (.fr (.name 2) (.over (.lst (.cons (.str "app") (.cons (.str "zone") .nil)))) (.cons (.asg (.name 3) (.bi .tuple (.cons (.lc [4] (.name 4) (.over (.lst (.cons (.str "a") (.cons (.str "b") (.cons (.str "c") .nil))))) (.cmp .eq (.call "_law_next" (.cons (.var 0) (.cons (.int 2) .nil))) (.int 0)) (.var 4)) .nil))) (.cons (.iff (.and (.cmp .ne (.pk 3) (.tup .nil)) (.cmp .gt (.call "_law_next" (.cons (.var 0) (.cons (.int 3) .nil))) (.int 0))) (.cons (.sub 1 (.pk 2) (.var 3)) .nil) .nil) .nil))) (.cons (.ret (.pk 1)) .nil)))
theorem t__law_picks : trSs [1] (trS ⟨n__law_picks, fns⟩ [] [1] 40 (defScope (topS 39)) 40) (defBody (topS 39)) = some b__law_picks := bqO_ok (by decide +kernel)
def n__law_all_labels : List Str := [Str.ofString "found", Str.ofString "word", Str.ofString "later", Str.ofString "own", Str.ofString "value", Str.ofString "more"]
def b__law_all_labels : Ss := (.cons (.asg (.name 0) (.lst (.cons (.dct .nil) .nil))) (.cons (.fr (.name 1) (.over (.lst (.cons (.str "app") (.cons (.str "zone") .nil)))) (.cons (.asg (.name 2) (.lst .nil)) (.cons (.frz [0]) (.cons (.fr (.name 3) (.over (.var 0)) (.cons (.fr (.name 4) (.over (.lst (.cons .non (.cons (.str "a") (.cons (.str "b") (.cons (.str "c") (.cons (.str "d") .nil))))))) (.cons (.asg (.name 5) (.bi .dict (.cons (.pk 3) .nil))) (.cons (.iff (.cmp .isnot (.pk 4) .non) (.cons (.sub 5 (.pk 1) (.var 4)) .nil) .nil) (.cons (.frz [5]) (.cons (.app 2 (.var 5)) .nil))))) .nil)) (.cons (.frz [2]) (.cons (.asg (.name 0) (.var 2)) .nil)))))) (.cons (.ret (.pk 0)) .nil)))
theorem t__law_all_labels : trSs [0, 2, 5] (trS ⟨n__law_all_labels, fns⟩ [] [0, 2, 5] 40 (defScope (topS 40)) 40) (defBody (topS 40)) = some b__law_all_labels := bqO_ok (by decide +kernel)
def n__law_is_picked : List Str := [Str.ofString "picks", Str.ofString "labels", Str.ofString "word"]
def b__law_is_picked : Ss := (.cons (.ret (.cmp .eq (.lc [2] (.name 2) (.over (.var 0)) (.cmp .notin (.get (.pk 1) (.cons (.pk 2) .nil)) (.idx (.pk 0) (.pk 2))) (.var 2)) (.lst .nil))) .nil)
theorem t__law_is_picked : trSs [] (trS ⟨n__law_is_picked, fns⟩ [] [] 40 (defScope (topS 41)) 40) (defBody (topS 41)) = some b__law_is_picked := bqO_ok (by decide +kernel)
def n__law_is_one : List Str := [Str.ofString "seen", Str.ofString "upper", Str.ofString "lower", Str.ofString "k"]
def b__law_is_one : Ss := (.cons (.iff (.or (.not (.bi (.isinst "tuple") (.cons (.pk 0) .nil))) (.or (.cmp .ne (.bi .len (.cons (.pk 0) .nil)) (.int 2)) (.or (.cmp .ne (.bin .mul (.idx (.pk 0) (.int 0)) (.pk 2)) (.bin .mul (.pk 1) (.idx (.pk 0) (.int 1)))) (.cmp .lt (.idx (.pk 0) (.int 1)) (.int 1))))) (.cons (.ret (.bl false)) .nil) .nil) (.cons (.ret (.cmp .eq (.lc [3] (.name 3) (.range (.cons (.int 2) (.cons (.bin .add (.idx (.pk 0) (.int 1)) (.int 1)) .nil))) (.and (.cmp .eq (.bin .sub (.idx (.pk 0) (.int 1)) (.bin .mul (.bin .fdiv (.idx (.pk 0) (.int 1)) (.pk 3)) (.pk 3))) (.int 0)) (.cmp .eq (.bin .sub (.idx (.pk 0) (.int 0)) (.bin .mul (.bin .fdiv (.idx (.pk 0) (.int 0)) (.pk 3)) (.pk 3))) (.int 0))) (.var 3)) (.lst .nil))) .nil))
theorem t__law_is_one : trSs [] (trS ⟨n__law_is_one, fns⟩ [] [] 40 (defScope (topS 42)) 40) (defBody (topS 42)) = some b__law_is_one := bqO_ok (by decide +kernel)
def n_law : List Str := [Str.ofString "script", Str.ofString "w", Str.ofString "words", Str.ofString "turn", Str.ofString "one", Str.ofString "other", Str.ofString "both", Str.ofString "fits", Str.ofString "left", Str.ofString "short", Str.ofString "times", Str.ofString "rows", Str.ofString "whole", Str.ofString "first", Str.ofString "second", Str.ofString "every", Str.ofString "labels", Str.ofString "common", Str.ofString "told", Str.ofString "numbers", Str.ofString "order", Str.ofString "many", Str.ofString "lower", Str.ofString "upper", Str.ofString "able", Str.ofString "squares", Str.ofString "bad", Str.ofString "word", Str.ofString "k", Str.ofString "row", Str.ofString "own", Str.ofString "n"]
def b_law : Ss := (.cons (.box 1 (.dct (.cons (.str "draws") (.cons (.call "_law_draws" (.cons (.var 0) (.cons (.int 500) .nil))) (.cons (.str "at") (.cons (.int 0) .nil)))))) (.cons (.asg (.name 2) (.lst (.cons (.str "cpu") (.cons (.str "disk") (.cons (.str "mem") .nil))))) (.cons (.fr (.name 3) (.range (.cons (.int 10) .nil)) (.cons (.asg (.tup [4, 5]) (.tup (.cons (.call "_law_amounts" (.cons (.var 1) .nil)) (.cons (.call "_law_amounts" (.cons (.var 1) .nil)) .nil)))) (.cons (.iff (.cmp .isnot (.call "is_amounts" (.cons (.bi .dict (.cons (.pk 4) .nil)) .nil)) (.bl true)) (.cons (.ret (.bl false)) .nil) .nil) (.cons (.frz [2]) (.cons (.asg (.name 6) (.bi .dict (.cons (.lc [27] (.name 27) (.over (.var 2)) (.or (.cmp .isin (.pk 27) (.pk 4)) (.cmp .isin (.pk 27) (.pk 5))) (.tup (.cons (.var 27) (.cons (.bin .add (.get (.pk 4) (.cons (.pk 27) (.cons (.int 0) .nil))) (.get (.pk 5) (.cons (.pk 27) (.cons (.int 0) .nil)))) .nil)))) .nil))) (.cons (.asg (.name 7) (.cmp .eq (.lc [27] (.name 27) (.over (.var 4)) (.cmp .gt (.idx (.pk 4) (.pk 27)) (.get (.pk 5) (.cons (.pk 27) (.cons (.int 0) .nil)))) (.var 27)) (.lst .nil))) (.cons (.frz [6]) (.cons (.iff (.or (.not (.call "_law_alike" (.cons (.call "plus_amounts" (.cons (.bi .dict (.cons (.pk 4) .nil)) (.cons (.bi .dict (.cons (.pk 5) .nil)) .nil))) (.cons (.var 6) .nil)))) (.not (.call "_law_says" (.cons (.call "fits_in" (.cons (.bi .dict (.cons (.pk 4) .nil)) (.cons (.bi .dict (.cons (.pk 5) .nil)) .nil))) (.cons (.var 7) .nil))))) (.cons (.ret (.bl false)) .nil) .nil) (.cons (.asg (.name 8) (.bi .dict (.cons (.lc [27] (.name 27) (.over (.var 5)) (.cmp .gt (.idx (.pk 5) (.pk 27)) (.get (.pk 4) (.cons (.pk 27) (.cons (.int 0) .nil)))) (.tup (.cons (.var 27) (.cons (.bin .sub (.idx (.pk 5) (.pk 27)) (.get (.pk 4) (.cons (.pk 27) (.cons (.int 0) .nil)))) .nil)))) .nil))) (.cons (.frz [8]) (.cons (.iff (.not (.call "_law_alike" (.cons (.call "minus_amounts" (.cons (.bi .dict (.cons (.pk 5) .nil)) (.cons (.bi .dict (.cons (.pk 4) .nil)) .nil))) (.cons (.ite (.pk 7) (.var 8) .non) .nil)))) (.cons (.ret (.bl false)) .nil) .nil) (.cons (.asg (.name 9) (.bi .dict (.cons (.lc [27] (.name 27) (.over (.var 4)) (.cmp .gt (.idx (.pk 4) (.pk 27)) (.get (.pk 5) (.cons (.pk 27) (.cons (.int 0) .nil)))) (.tup (.cons (.var 27) (.cons (.bin .sub (.idx (.pk 4) (.pk 27)) (.get (.pk 5) (.cons (.pk 27) (.cons (.int 0) .nil)))) .nil)))) .nil))) (.cons (.frz [9]) (.cons (.iff (.not (.call "_law_alike" (.cons (.call "lack" (.cons (.bi .dict (.cons (.pk 4) .nil)) (.cons (.bi .dict (.cons (.pk 5) .nil)) .nil))) (.cons (.var 9) .nil)))) (.cons (.ret (.bl false)) .nil) .nil) (.cons (.asg (.name 10) (.lc [28] (.name 28) (.range (.cons (.int 12) .nil)) (.cmp .eq (.lc [27] (.name 27) (.over (.var 4)) (.cmp .gt (.bin .mul (.idx (.pk 4) (.pk 27)) (.pk 28)) (.get (.pk 5) (.cons (.pk 27) (.cons (.int 0) .nil)))) (.var 27)) (.lst .nil)) (.var 28))) (.cons (.iff (.cmp .ne (.call "times_in" (.cons (.bi .dict (.cons (.pk 4) .nil)) (.cons (.bi .dict (.cons (.pk 5) .nil)) .nil))) (.ite (.cmp .ne (.pk 4) (.dct .nil)) (.idx (.pk 10) (.bin .sub (.bi .len (.cons (.pk 10) .nil)) (.int 1))) .non)) (.cons (.ret (.bl false)) .nil) .nil) (.cons (.asg (.name 11) (.lc [28] (.name 28) (.range (.cons (.call "_law_next" (.cons (.var 1) (.cons (.int 4) .nil))) .nil)) (.bl true) (.call "_law_amounts" (.cons (.var 1) .nil)))) (.cons (.frz [2, 11]) (.cons (.asg (.name 12) (.bi .dict (.cons (.lc [27] (.name 27) (.over (.var 2)) (.cmp .ne (.lc [29] (.name 29) (.over (.var 11)) (.cmp .isin (.pk 27) (.pk 29)) (.var 29)) (.lst .nil)) (.tup (.cons (.var 27) (.cons (.bi .sum (.cons (.lc [29] (.name 29) (.over (.var 11)) (.bl true) (.get (.pk 29) (.cons (.pk 27) (.cons (.int 0) .nil)))) .nil)) .nil)))) .nil))) (.cons (.frz [11, 12]) (.cons (.iff (.not (.call "_law_alike" (.cons (.call "sum_amounts" (.cons (.lc [29] (.name 29) (.over (.var 11)) (.bl true) (.bi .dict (.cons (.pk 29) .nil))) .nil)) (.cons (.var 12) .nil)))) (.cons (.ret (.bl false)) .nil) .nil) (.cons (.asg (.tup [13, 14]) (.tup (.cons (.call "_law_picks" (.cons (.var 1) .nil)) (.cons (.call "_law_picks" (.cons (.var 1) .nil)) .nil)))) (.cons (.asg (.name 15) (.call "_law_all_labels" .nil)) (.cons (.frz [15]) (.cons (.fr (.name 16) (.over (.var 15)) (.cons (.iff (.not (.call "_law_says" (.cons (.call "picked" (.cons (.bi .dict (.cons (.pk 13) .nil)) (.cons (.bi .dict (.cons (.pk 16) .nil)) .nil))) (.cons (.call "_law_is_picked" (.cons (.var 13) (.cons (.var 16) .nil))) .nil)))) (.cons (.ret (.bl false)) .nil) .nil) .nil)) (.cons (.frz [15]) (.cons (.iff (.not (.call "_law_says" (.cons (.call "narrower" (.cons (.bi .dict (.cons (.pk 13) .nil)) (.cons (.bi .dict (.cons (.pk 14) .nil)) .nil))) (.cons (.cmp .eq (.lc [30] (.name 30) (.over (.var 15)) (.and (.call "_law_is_picked" (.cons (.var 13) (.cons (.var 30) .nil))) (.not (.call "_law_is_picked" (.cons (.var 14) (.cons (.var 30) .nil))))) (.var 30)) (.lst .nil)) .nil)))) (.cons (.ret (.bl false)) .nil) .nil) (.cons (.frz [15]) (.cons (.asg (.name 17) (.lc [30] (.name 30) (.over (.var 15)) (.and (.call "_law_is_picked" (.cons (.var 13) (.cons (.var 30) .nil))) (.call "_law_is_picked" (.cons (.var 14) (.cons (.var 30) .nil)))) (.var 30))) (.cons (.asg (.name 18) (.call "both_picks" (.cons (.bi .dict (.cons (.pk 13) .nil)) (.cons (.bi .dict (.cons (.pk 14) .nil)) .nil)))) (.cons (.frz [15]) (.cons (.iff (.or (.cmp .ne (.cmp .is (.pk 18) .non) (.cmp .eq (.pk 17) (.lst .nil))) (.and (.cmp .isnot (.pk 18) .non) (.or (.cmp .isnot (.call "is_picks" (.cons (.var 18) .nil)) (.bl true)) (.cmp .ne (.lc [30] (.name 30) (.over (.var 15)) (.call "_law_is_picked" (.cons (.var 18) (.cons (.var 30) .nil))) (.var 30)) (.pk 17))))) (.cons (.ret (.bl false)) .nil) .nil) (.cons (.asg (.name 19) (.lc [28] (.name 28) (.range (.cons (.bin .add (.int 1) (.call "_law_next" (.cons (.var 1) (.cons (.int 7) .nil)))) .nil)) (.bl true) (.call "_law_next" (.cons (.var 1) (.cons (.int 12) .nil))))) (.cons (.asg (.tup [20, 21]) (.tup (.cons (.bi .sorted (.cons (.pk 19) .nil)) (.cons (.bi .len (.cons (.pk 19) .nil)) .nil)))) (.cons (.iff (.or (.cmp .ne (.call "middle" (.cons (.bi .list (.cons (.pk 19) .nil)) .nil)) (.idx (.pk 20) (.bin .fdiv (.bin .sub (.pk 21) (.int 1)) (.int 2)))) (.or (.cmp .ne (.call "spread_of" (.cons (.bi .list (.cons (.pk 19) .nil)) .nil)) (.bin .sub (.idx (.pk 20) (.bin .sub (.pk 21) (.int 1))) (.idx (.pk 20) (.int 0)))) (.not (.call "_law_is_one" (.cons (.call "mean" (.cons (.bi .list (.cons (.pk 19) .nil)) .nil)) (.cons (.bi .sum (.cons (.pk 19) .nil)) (.cons (.var 21) .nil))))))) (.cons (.ret (.bl false)) .nil) .nil) (.cons (.asg (.name 22) (.bin .add (.int 1) (.call "_law_next" (.cons (.var 1) (.cons (.int 6) .nil))))) (.cons (.asg (.name 23) (.bin .add (.int 1) (.call "_law_next" (.cons (.var 1) (.cons (.var 22) .nil))))) (.cons (.frz [19]) (.cons (.asg (.name 24) (.lc [31] (.name 31) (.over (.var 20)) (.cmp .ge (.bin .mul (.bi .len (.cons (.lc [30] (.name 30) (.over (.var 19)) (.cmp .le (.pk 30) (.pk 31)) (.var 30)) .nil)) (.pk 22)) (.bin .mul (.pk 23) (.pk 21))) (.var 31))) (.cons (.iff (.cmp .ne (.call "at_part" (.cons (.bi .list (.cons (.pk 19) .nil)) (.cons (.tup (.cons (.var 23) (.cons (.var 22) .nil))) .nil))) (.idx (.pk 24) (.int 0))) (.cons (.ret (.bl false)) .nil) .nil) (.cons (.frz [19]) (.cons (.asg (.name 25) (.bi .sum (.cons (.lc [31] (.name 31) (.over (.var 19)) (.bl true) (.bin .mul (.pk 31) (.pk 31))) .nil))) (.cons (.iff (.or (.and (.not (.call "_law_is_one" (.cons (.call "evenness" (.cons (.bi .list (.cons (.pk 19) .nil)) .nil)) (.cons (.bin .mul (.bi .sum (.cons (.pk 19) .nil)) (.bi .sum (.cons (.pk 19) .nil))) (.cons (.bin .mul (.pk 21) (.pk 25)) .nil))))) (.cmp .gt (.pk 25) (.int 0))) (.and (.cmp .eq (.pk 25) (.int 0)) (.cmp .ne (.call "evenness" (.cons (.bi .list (.cons (.pk 19) .nil)) .nil)) (.tup (.cons (.int 1) (.cons (.int 1) .nil)))))) (.cons (.ret (.bl false)) .nil) .nil) .nil))))))))))))))))))))))))))))))))))))))))))) (.cons (.fr (.name 26) (.over (.lst (.cons .non (.cons (.dct (.cons (.str "cpu") (.cons (.int 0) .nil))) (.cons (.dct (.cons (.str "cpu") (.cons (.bl true) .nil))) (.cons (.dct (.cons (.str "CPU") (.cons (.int 1) .nil))) (.cons (.dct (.cons (.int 1) (.cons (.int 1) .nil))) (.cons (.lst (.cons (.tup (.cons (.str "cpu") (.cons (.int 1) .nil))) .nil)) (.cons (.dct (.cons (.str "cpu") (.cons (.str "1") .nil))) (.cons (.dct (.cons (.str "") (.cons (.int 1) .nil))) .nil)))))))))) (.cons (.iff (.cmp .isnot (.call "is_amounts" (.cons (.var 26) .nil)) (.bl false)) (.cons (.ret (.bl false)) .nil) .nil) .nil)) (.cons (.fr (.name 26) (.over (.lst (.cons .non (.cons (.dct (.cons (.str "app") (.cons (.str "Web") .nil))) (.cons (.dct (.cons (.str "app") (.cons (.int 1) .nil))) (.cons (.dct (.cons (.str "") (.cons (.str "a") .nil))) (.cons (.lst (.cons (.tup (.cons (.str "app") (.cons (.str "web") .nil))) .nil)) (.cons (.dct (.cons (.str "app") (.cons (.tup (.cons (.str "web") .nil)) .nil))) .nil)))))))) (.cons (.iff (.cmp .isnot (.call "is_labels" (.cons (.var 26) .nil)) (.bl false)) (.cons (.ret (.bl false)) .nil) .nil) .nil)) (.cons (.fr (.name 26) (.over (.lst (.cons .non (.cons (.dct (.cons (.str "app") (.cons (.tup .nil) .nil))) (.cons (.dct (.cons (.str "app") (.cons (.str "web") .nil))) (.cons (.dct (.cons (.str "app") (.cons (.tup (.cons (.str "b") (.cons (.str "a") .nil))) .nil))) (.cons (.dct (.cons (.str "app") (.cons (.tup (.cons (.str "a") (.cons (.str "a") .nil))) .nil))) (.cons (.dct (.cons (.str "app") (.cons (.lst (.cons (.str "a") .nil)) .nil))) (.cons (.dct (.cons (.str "app") (.cons (.tup (.cons (.int 1) .nil)) .nil))) .nil))))))))) (.cons (.iff (.cmp .isnot (.call "is_picks" (.cons (.var 26) .nil)) (.bl false)) (.cons (.ret (.bl false)) .nil) .nil) .nil)) (.cons (.ret (.and (.cmp .is (.call "is_amounts" (.cons (.dct .nil) .nil)) (.bl true)) (.and (.cmp .is (.call "is_labels" (.cons (.dct (.cons (.str "app") (.cons (.str "web") .nil))) .nil)) (.bl true)) (.and (.cmp .is (.call "is_labels" (.cons (.dct .nil) .nil)) (.bl true)) (.and (.cmp .is (.call "is_picks" (.cons (.dct .nil) .nil)) (.bl true)) (.cmp .is (.call "is_picks" (.cons (.dct (.cons (.str "app") (.cons (.tup (.cons (.str "a") (.cons (.str "b") .nil))) .nil))) .nil)) (.bl true))))))) .nil)))))))
theorem t_law : trSs [2, 6, 8, 9, 10, 11, 12, 15, 17, 19, 24] (trS ⟨n_law, fns⟩ [1] [2, 6, 8, 9, 10, 11, 12, 15, 17, 19, 24] 40 (defScope (topS 43)) 40) (defBody (topS 43)) = some b_law := bqO_ok (by decide +kernel)
def prg : Prg := [("is_number", ⟨1, 1, b_is_number⟩), ("is_from", ⟨2, 2, b_is_from⟩), ("is_ascending", ⟨1, 2, b_is_ascending⟩), ("is_within", ⟨2, 3, b_is_within⟩), ("is_name", ⟨1, 2, b_is_name⟩), ("is_labels", ⟨1, 2, b_is_labels⟩), ("is_word_set", ⟨1, 2, b_is_word_set⟩), ("is_picks", ⟨1, 2, b_is_picks⟩), ("picked", ⟨2, 3, b_picked⟩), ("narrower", ⟨2, 3, b_narrower⟩), ("both_picks", ⟨2, 5, b_both_picks⟩), ("is_amounts", ⟨1, 2, b_is_amounts⟩), ("in_order", ⟨1, 2, b_in_order⟩), ("plus_amounts", ⟨2, 4, b_plus_amounts⟩), ("fits_in", ⟨2, 3, b_fits_in⟩), ("minus_amounts", ⟨2, 3, b_minus_amounts⟩), ("lack", ⟨2, 3, b_lack⟩), ("times_in", ⟨2, 3, b_times_in⟩), ("sum_amounts", ⟨1, 3, b_sum_amounts⟩), ("divisor", ⟨2, 2, b_divisor⟩), ("fraction", ⟨2, 3, b_fraction⟩), ("middle", ⟨1, 1, b_middle⟩), ("at_part", ⟨2, 4, b_at_part⟩), ("mean", ⟨1, 1, b_mean⟩), ("spread_of", ⟨1, 1, b_spread_of⟩), ("evenness", ⟨1, 3, b_evenness⟩), ("_law_draws", ⟨2, 8, b__law_draws⟩), ("_law_next", ⟨2, 2, b__law_next⟩), ("_law_says", ⟨2, 2, b__law_says⟩), ("_law_alike", ⟨2, 4, b__law_alike⟩), ("_law_amounts", ⟨1, 2, b__law_amounts⟩), ("_law_picks", ⟨1, 5, b__law_picks⟩), ("_law_all_labels", ⟨0, 6, b__law_all_labels⟩), ("_law_is_picked", ⟨2, 3, b__law_is_picked⟩), ("_law_is_one", ⟨3, 4, b__law_is_one⟩), ("law", ⟨1, 32, b_law⟩)]
end K4

set_option Elab.async false
set_option linter.all false
set_option maxRecDepth 100000
set_option maxHeartbeats 8000000
/-! k04: each def, by the interpreter. -/
namespace K4
open PySem L2 Mi
theorem c_is_number {n wf : Nat} {ds : List D} {h : AH} : callN prg wf (n + 1) "is_number" ds h = runF (callN prg wf n) wf ⟨1, 1, b_is_number⟩ ds h := rfl
theorem c_is_from {n wf : Nat} {ds : List D} {h : AH} : callN prg wf (n + 1) "is_from" ds h = runF (callN prg wf n) wf ⟨2, 2, b_is_from⟩ ds h := rfl
theorem c_is_ascending {n wf : Nat} {ds : List D} {h : AH} : callN prg wf (n + 1) "is_ascending" ds h = runF (callN prg wf n) wf ⟨1, 2, b_is_ascending⟩ ds h := rfl
theorem c_is_within {n wf : Nat} {ds : List D} {h : AH} : callN prg wf (n + 1) "is_within" ds h = runF (callN prg wf n) wf ⟨2, 3, b_is_within⟩ ds h := rfl
theorem c_is_name {n wf : Nat} {ds : List D} {h : AH} : callN prg wf (n + 1) "is_name" ds h = runF (callN prg wf n) wf ⟨1, 2, b_is_name⟩ ds h := rfl
theorem c_is_labels {n wf : Nat} {ds : List D} {h : AH} : callN prg wf (n + 1) "is_labels" ds h = runF (callN prg wf n) wf ⟨1, 2, b_is_labels⟩ ds h := rfl
theorem c_is_word_set {n wf : Nat} {ds : List D} {h : AH} : callN prg wf (n + 1) "is_word_set" ds h = runF (callN prg wf n) wf ⟨1, 2, b_is_word_set⟩ ds h := rfl
theorem c_is_picks {n wf : Nat} {ds : List D} {h : AH} : callN prg wf (n + 1) "is_picks" ds h = runF (callN prg wf n) wf ⟨1, 2, b_is_picks⟩ ds h := rfl
theorem c_picked {n wf : Nat} {ds : List D} {h : AH} : callN prg wf (n + 1) "picked" ds h = runF (callN prg wf n) wf ⟨2, 3, b_picked⟩ ds h := rfl
theorem c_narrower {n wf : Nat} {ds : List D} {h : AH} : callN prg wf (n + 1) "narrower" ds h = runF (callN prg wf n) wf ⟨2, 3, b_narrower⟩ ds h := rfl
theorem c_both_picks {n wf : Nat} {ds : List D} {h : AH} : callN prg wf (n + 1) "both_picks" ds h = runF (callN prg wf n) wf ⟨2, 5, b_both_picks⟩ ds h := rfl
theorem c_is_amounts {n wf : Nat} {ds : List D} {h : AH} : callN prg wf (n + 1) "is_amounts" ds h = runF (callN prg wf n) wf ⟨1, 2, b_is_amounts⟩ ds h := rfl
theorem c_in_order {n wf : Nat} {ds : List D} {h : AH} : callN prg wf (n + 1) "in_order" ds h = runF (callN prg wf n) wf ⟨1, 2, b_in_order⟩ ds h := rfl
theorem c_plus_amounts {n wf : Nat} {ds : List D} {h : AH} : callN prg wf (n + 1) "plus_amounts" ds h = runF (callN prg wf n) wf ⟨2, 4, b_plus_amounts⟩ ds h := rfl
theorem c_fits_in {n wf : Nat} {ds : List D} {h : AH} : callN prg wf (n + 1) "fits_in" ds h = runF (callN prg wf n) wf ⟨2, 3, b_fits_in⟩ ds h := rfl
theorem c_minus_amounts {n wf : Nat} {ds : List D} {h : AH} : callN prg wf (n + 1) "minus_amounts" ds h = runF (callN prg wf n) wf ⟨2, 3, b_minus_amounts⟩ ds h := rfl
theorem c_lack {n wf : Nat} {ds : List D} {h : AH} : callN prg wf (n + 1) "lack" ds h = runF (callN prg wf n) wf ⟨2, 3, b_lack⟩ ds h := rfl
theorem c_times_in {n wf : Nat} {ds : List D} {h : AH} : callN prg wf (n + 1) "times_in" ds h = runF (callN prg wf n) wf ⟨2, 3, b_times_in⟩ ds h := rfl
theorem c_sum_amounts {n wf : Nat} {ds : List D} {h : AH} : callN prg wf (n + 1) "sum_amounts" ds h = runF (callN prg wf n) wf ⟨1, 3, b_sum_amounts⟩ ds h := rfl
theorem c_divisor {n wf : Nat} {ds : List D} {h : AH} : callN prg wf (n + 1) "divisor" ds h = runF (callN prg wf n) wf ⟨2, 2, b_divisor⟩ ds h := rfl
theorem c_fraction {n wf : Nat} {ds : List D} {h : AH} : callN prg wf (n + 1) "fraction" ds h = runF (callN prg wf n) wf ⟨2, 3, b_fraction⟩ ds h := rfl
theorem c_middle {n wf : Nat} {ds : List D} {h : AH} : callN prg wf (n + 1) "middle" ds h = runF (callN prg wf n) wf ⟨1, 1, b_middle⟩ ds h := rfl
theorem c_at_part {n wf : Nat} {ds : List D} {h : AH} : callN prg wf (n + 1) "at_part" ds h = runF (callN prg wf n) wf ⟨2, 4, b_at_part⟩ ds h := rfl
theorem c_mean {n wf : Nat} {ds : List D} {h : AH} : callN prg wf (n + 1) "mean" ds h = runF (callN prg wf n) wf ⟨1, 1, b_mean⟩ ds h := rfl
theorem c_spread_of {n wf : Nat} {ds : List D} {h : AH} : callN prg wf (n + 1) "spread_of" ds h = runF (callN prg wf n) wf ⟨1, 1, b_spread_of⟩ ds h := rfl
theorem c_evenness {n wf : Nat} {ds : List D} {h : AH} : callN prg wf (n + 1) "evenness" ds h = runF (callN prg wf n) wf ⟨1, 3, b_evenness⟩ ds h := rfl
theorem c__law_draws {n wf : Nat} {ds : List D} {h : AH} : callN prg wf (n + 1) "_law_draws" ds h = runF (callN prg wf n) wf ⟨2, 8, b__law_draws⟩ ds h := rfl
theorem c__law_next {n wf : Nat} {ds : List D} {h : AH} : callN prg wf (n + 1) "_law_next" ds h = runF (callN prg wf n) wf ⟨2, 2, b__law_next⟩ ds h := rfl
theorem c__law_says {n wf : Nat} {ds : List D} {h : AH} : callN prg wf (n + 1) "_law_says" ds h = runF (callN prg wf n) wf ⟨2, 2, b__law_says⟩ ds h := rfl
theorem c__law_alike {n wf : Nat} {ds : List D} {h : AH} : callN prg wf (n + 1) "_law_alike" ds h = runF (callN prg wf n) wf ⟨2, 4, b__law_alike⟩ ds h := rfl
theorem c__law_amounts {n wf : Nat} {ds : List D} {h : AH} : callN prg wf (n + 1) "_law_amounts" ds h = runF (callN prg wf n) wf ⟨1, 2, b__law_amounts⟩ ds h := rfl
theorem c__law_picks {n wf : Nat} {ds : List D} {h : AH} : callN prg wf (n + 1) "_law_picks" ds h = runF (callN prg wf n) wf ⟨1, 5, b__law_picks⟩ ds h := rfl
theorem c__law_all_labels {n wf : Nat} {ds : List D} {h : AH} : callN prg wf (n + 1) "_law_all_labels" ds h = runF (callN prg wf n) wf ⟨0, 6, b__law_all_labels⟩ ds h := rfl
theorem c__law_is_picked {n wf : Nat} {ds : List D} {h : AH} : callN prg wf (n + 1) "_law_is_picked" ds h = runF (callN prg wf n) wf ⟨2, 3, b__law_is_picked⟩ ds h := rfl
theorem c__law_is_one {n wf : Nat} {ds : List D} {h : AH} : callN prg wf (n + 1) "_law_is_one" ds h = runF (callN prg wf n) wf ⟨3, 4, b__law_is_one⟩ ds h := rfl
theorem c_law {n wf : Nat} {ds : List D} {h : AH} : callN prg wf (n + 1) "law" ds h = runF (callN prg wf n) wf ⟨1, 32, b_law⟩ ds h := rfl
end K4

set_option Elab.async false
set_option linter.all false
set_option maxRecDepth 100000
/-! Mi: the interpreter's steps, as rules of simp. -/
namespace Mi
open PySem
variable {cf : Calls} {ρ : Rho} {h : AH} {wf : Nat} {s : Mi.St}
/-- what stands in a slot -/
def vAt (ρ : Rho) (i : Nat) (h : AH) : Res (D × Bool × AH) := match ρ[i]? with
  | some (some (d, false)) => .ok (d, false, h)
  | _ => .stuck
def pAt (ρ : Rho) (i : Nat) (h : AH) : Res (D × Bool × AH) := match ρ[i]? with
  | some (some (d, _)) => .ok (d, false, h)
  | _ => .stuck
@[simp] theorem vAt0 {d : D} {r : Rho} : vAt (some (d, false) :: r) 0 h = .ok (d, false, h) := Eq.trans rfl rfl
@[simp] theorem vAtS {x : Sl} {r : Rho} {i : Nat} : vAt (x :: r) (i + 1) h = vAt r i h := by unfold vAt; simp
@[simp] theorem pAt0 {d : D} {b : Bool} {r : Rho} : pAt (some (d, b) :: r) 0 h = .ok (d, false, h) := Eq.trans rfl rfl
@[simp] theorem pAtS {x : Sl} {r : Rho} {i : Nat} : pAt (x :: r) (i + 1) h = pAt r i h := by unfold pAt; simp
@[simp] theorem ev_var {i : Nat} : ev cf ρ (.var i) h = vAt ρ i h := by simp only [ev, vAt] <;> rfl
@[simp] theorem ev_pk {i : Nat} : ev cf ρ (.pk i) h = pAt ρ i h := by simp only [ev, pAt] <;> rfl
@[simp] theorem ev_non : ev cf ρ .non h = .ok (.non, false, h) := by simp only [ev]
@[simp] theorem ev_bl {b : Bool} : ev cf ρ (.bl b) h = .ok (.bl b, false, h) := by simp only [ev]
@[simp] theorem ev_int {b : Int} : ev cf ρ (.int b) h = .ok (.int b, false, h) := by simp only [ev]
@[simp] theorem ev_str {b : Str} : ev cf ρ (.str b) h = .ok (.str b, false, h) := by simp only [ev]
@[simp] theorem ev_tup {es : Es} : ev cf ρ (.tup es) h = (evs cf ρ es h).bind fun p => guard' (fits p.1.length) (.ok (.tup p.1, false, p.2)) := by simp only [ev]
@[simp] theorem ev_lst {es : Es} : ev cf ρ (.lst es) h = (evs cf ρ es h).bind fun p => guard' (fits p.1.length) (.ok (.lst p.1, true, p.2)) := by simp only [ev]
@[simp] theorem evs_nil : evs cf ρ .nil h = .ok ([], h) := by simp only [evs]
@[simp] theorem evs_cons {e : E} {r : Es} : evs cf ρ (.cons e r) h = (ev cf ρ e h).bind fun p => (evs cf ρ r p.2.2).bind fun q => .ok (p.1 :: q.1, q.2) := by simp only [evs]
@[simp] theorem ev_neg {a : E} : ev cf ρ (.neg a) h = (ev cf ρ a h).bind fun p => match p.1 with
    | .int i => .ok (.int (-i), false, p.2.2)
    | _ => .stuck := by simp only [ev] <;> rfl
@[simp] theorem ev_not {a : E} : ev cf ρ (.not a) h = (ev cf ρ a h).bind (boolK fun b h => .ok (.bl (!b), false, h)) := by simp only [ev]
@[simp] theorem ev_and {a b : E} : ev cf ρ (.and a b) h = (ev cf ρ a h).bind (boolK fun k h => if k then (ev cf ρ b h).bind fun q => .ok (q.1, false, q.2.2) else .ok (.bl false, false, h)) := by simp only [ev]
@[simp] theorem ev_or {a b : E} : ev cf ρ (.or a b) h = (ev cf ρ a h).bind (boolK fun k h => if k then .ok (.bl true, false, h) else (ev cf ρ b h).bind fun q => .ok (q.1, false, q.2.2)) := by simp only [ev]
@[simp] theorem ev_bin {o : Op2} {a b : E} : ev cf ρ (.bin o a b) h = (ev cf ρ a h).bind fun p => (ev cf ρ b p.2.2).bind fun q => (bin o p.1 q.1).bind fun d => .ok (d, true, q.2.2) := by simp only [ev]
@[simp] theorem ev_cmp {o : OpC} {a b : E} : ev cf ρ (.cmp o a b) h = (ev cf ρ a h).bind fun p => (ev cf ρ b p.2.2).bind fun q => (cmp o p.1 q.1).bind fun d => .ok (.bl d, false, q.2.2) := by simp only [ev]
@[simp] theorem ev_chain {o o' : OpC} {a b c : E} : ev cf ρ (.chain o o' a b c) h = (ev cf ρ a h).bind fun p => (ev cf ρ b p.2.2).bind fun q => (cmp o p.1 q.1).bind fun d =>
    if d then (ev cf ρ c q.2.2).bind fun r => (cmp o' q.1 r.1).bind fun e => .ok (.bl e, false, r.2.2) else .ok (.bl false, false, q.2.2) := by simp only [ev]
@[simp] theorem ev_ite {c a b : E} : ev cf ρ (.ite c a b) h = (ev cf ρ c h).bind (boolK fun k h => if k then ev cf ρ a h else ev cf ρ b h) := by simp only [ev]
@[simp] theorem ev_idx {a i : E} : ev cf ρ (.idx a i) h = (ev cf ρ a h).bind fun p => (ev cf ρ i p.2.2).bind fun q => (idx (deref q.2.2 p.1) q.1).bind fun d => .ok (d, false, q.2.2) := by simp only [ev]
@[simp] theorem ev_cut {a l u : E} : ev cf ρ (.cut a l u) h = (ev cf ρ a h).bind fun p => (ev cf ρ l p.2.2).bind fun q => (partOf l q.1).bind fun lo => (ev cf ρ u q.2.2).bind fun r => (partOf u r.1).bind fun hi => (cut p.1 lo hi).bind fun d => .ok (d, true, r.2.2) := by simp only [ev]
@[simp] theorem ev_call {f : String} {es : Es} : ev cf ρ (.call f es) h = (evs cf ρ es h).bind fun p => cf f p.1 p.2 := by simp only [ev]
@[simp] theorem ev_bi {f : Bi} {es : Es} : ev cf ρ (.bi f es) h = (evs cf ρ es h).bind fun p => (bi f p.1).bind fun d => .ok (d, true, p.2) := by simp only [ev]
@[simp] theorem ev_get {o : E} {es : Es} : ev cf ρ (.get o es) h = (ev cf ρ o h).bind fun p => guard' p.1.isDct ((evs cf ρ es p.2.2).bind fun q => (getD p.1 q.1).bind fun d => .ok (d, false, q.2)) := by simp only [ev]
@[simp] theorem ev_dct {es : Es} : ev cf ρ (.dct es) h = (evs cf ρ es h).bind fun p => match rows? p.1 with
    | some kvs => guard' (decide (kvs.length ≤ 15)) (.ok (.dct (merge [] kvs), true, p.2))
    | none => .stuck := by simp only [ev] <;> rfl
@[simp] theorem ev_lc {own : List Nat} {t : Tg} {src : It} {c e : E} : ev cf ρ (.lc own t src c e) h = (evi cf ρ src h).bind fun p =>
    (lcGo (fun x h => (setTg t x (wipeR ρ own)).bind fun ρ' => (ev cf ρ' c h).bind (boolK fun k h =>
      if k then (ev cf ρ' e h).bind fun r => .ok (some r.1, r.2.2) else .ok (none, h))) p.1 [] p.2).quiet.bind fun q => .ok (.lst q.1, true, q.2) := by simp only [ev]
@[simp] theorem evi_over {e : E} : evi cf ρ (.over e) h = (ev cf ρ e h).bind fun p => match items p.1 with
    | some l => .ok (l, p.2.2)
    | none => .stuck := by simp only [evi] <;> rfl
@[simp] theorem evi_range {es : Es} : evi cf ρ (.range es) h = (evs cf ρ es h).bind fun p => (rng p.1).bind fun l => .ok (l, p.2) := by simp only [evi]
@[simp] theorem exs_nil : exs cf wf .nil s = .ok (.next, s) := by simp only [exs]
@[simp] theorem exs_cons {a : S} {r : Ss} : exs cf wf (.cons a r) s = (ex cf wf a s).bind fun p => match p.1 with
    | .next => exs cf wf r p.2
    | .ret d o => .ok (.ret d o, p.2) := by simp only [exs] <;> rfl
@[simp] theorem boolK_bl {α : Type} {k : Bool → AH → Res α} {b fr : Bool} : boolK k (.bl b, fr, h) = k b h := Eq.trans rfl rfl
@[simp] theorem guard_t {α : Type} {r : Res α} : guard' true r = r := Eq.trans rfl rfl
@[simp] theorem guard_f {α : Type} {r : Res α} : guard' false r = .stuck := Eq.trans rfl rfl
@[simp] theorem quiet_ok {α : Type} {a : α} : (Res.ok a).quiet = .ok a := Eq.trans rfl rfl
theorem fits_ok {n : Nat} (h : n < 16777216) : fits n = true := decide_eq_true h
/-- rows of a comprehension that change nothing -/
theorem lcGo_pure {f : D → AH → Res (Option D × AH)} {g : D → Option D} : ∀ {l acc : List D}, (∀ x ∈ l, f x h = .ok (g x, h)) → acc.length + l.length < 16777216 → lcGo f l acc h = .ok (acc ++ l.filterMap g, h)
  | [], acc, _, _ => by simp [lcGo]
  | x :: r, acc, hf, hl => by
    unfold lcGo
    rw [hf x List.mem_cons_self]
    simp only [List.length_cons] at hl
    cases e : g x with
    | none =>
      simp only [Res.bind_ok]
      rw [lcGo_pure (fun y hy => hf y (List.mem_cons_of_mem _ hy)) (by omega), List.filterMap_cons, e]
    | some y =>
      simp only [Res.bind_ok]
      rw [fits_ok (by omega), guard_t, lcGo_pure (fun y hy => hf y (List.mem_cons_of_mem _ hy)) (by simp; omega), List.filterMap_cons, e]
      simp
/-! ### built-in functions -/
theorem bls_map {α : Type} (t : α → Bool) : ∀ l : List α, bls? (l.map fun x => D.bl (t x)) = some (l.map t)
  | [] => rfl
  | x :: r => by rw [List.map_cons, bls?, bls_map t r]; rfl
theorem ints_map : ∀ l : List Int, ints? (l.map D.int) = some l
  | [] => rfl
  | x :: r => by rw [List.map_cons, ints?, ints_map r]; rfl
theorem strs_map : ∀ l : List Str, strs? (l.map D.str) = some l
  | [] => rfl
  | x :: r => by rw [List.map_cons, strs?, strs_map r]; rfl
@[simp] theorem bi_all {α : Type} {t : α → Bool} {l : List α} : Mi.bi .all [.lst (l.map fun x => D.bl (t x))] = .ok (.bl (l.all t)) := by
  unfold Mi.bi
  simp only [bls_map]
  rw [List.all_map]
  rfl
@[simp] theorem bi_len_lst {l : List D} : Mi.bi .len [.lst l] = .ok (.int l.length) := Eq.trans rfl rfl
@[simp] theorem bi_len_tup {l : List D} : Mi.bi .len [.tup l] = .ok (.int l.length) := Eq.trans rfl rfl
@[simp] theorem bi_len_dct {l : List (L2.Key × D)} : Mi.bi .len [.dct l] = .ok (.int l.length) := Eq.trans rfl rfl
@[simp] theorem bi_len_scr {l : List Int} : Mi.bi .len [.scr l] = .ok (.int l.length) := Eq.trans rfl rfl
@[simp] theorem bi_sum {l : List Int} : Mi.bi .sum [.lst (l.map D.int)] = .ok (.int l.sum) := by
  unfold Mi.bi
  simp only [ints_map]
@[simp] theorem bi_abs {i : Int} : Mi.bi .abs [.int i] = .ok (.int (if i < 0 then -i else i)) := Eq.trans rfl rfl
@[simp] theorem bi_int {i : Int} : Mi.bi .int [.int i] = .ok (.int i) := Eq.trans rfl rfl
@[simp] theorem bi_list_lst {l : List D} : Mi.bi .list [.lst l] = .ok (.lst l) := Eq.trans rfl rfl
@[simp] theorem bi_list_dct {l : List (L2.Key × D)} : Mi.bi .list [.dct l] = .ok (.lst (l.map fun p => keyD p.1)) := Eq.trans rfl rfl
@[simp] theorem bi_tuple {l : List D} : Mi.bi .tuple [.lst l] = .ok (.tup l) := Eq.trans rfl rfl
@[simp] theorem bi_dict {l : List (L2.Key × D)} : Mi.bi .dict [.dct l] = .ok (.dct l) := Eq.trans rfl rfl
@[simp] theorem isi_non {c : String} : Mi.bi (.isinst c) [.non] = guard' (isClass c) (.ok (.bl (isA "NoneType" c))) := Eq.trans rfl rfl
@[simp] theorem isi_bl {c : String} {b : Bool} : Mi.bi (.isinst c) [.bl b] = guard' (isClass c) (.ok (.bl (isA "bool" c))) := Eq.trans rfl rfl
@[simp] theorem isi_int {c : String} {b : Int} : Mi.bi (.isinst c) [.int b] = guard' (isClass c) (.ok (.bl (isA "int" c))) := Eq.trans rfl rfl
@[simp] theorem isi_str {c : String} {b : Str} : Mi.bi (.isinst c) [.str b] = guard' (isClass c) (.ok (.bl (isA "str" c))) := Eq.trans rfl rfl
@[simp] theorem isi_tup {c : String} {b : List D} : Mi.bi (.isinst c) [.tup b] = guard' (isClass c) (.ok (.bl (isA "tuple" c))) := Eq.trans rfl rfl
@[simp] theorem isi_lst {c : String} {b : List D} : Mi.bi (.isinst c) [.lst b] = guard' (isClass c) (.ok (.bl (isA "list" c))) := Eq.trans rfl rfl
@[simp] theorem isi_dct {c : String} {b : List (L2.Key × D)} : Mi.bi (.isinst c) [.dct b] = guard' (isClass c) (.ok (.bl (isA "dict" c))) := Eq.trans rfl rfl
@[simp] theorem isC (c : String) : isClass c = ["int", "bool", "str", "tuple", "list", "dict"].contains c := Eq.trans rfl rfl
@[simp] theorem items_lst {l : List D} : items (.lst l) = some l := Eq.trans rfl rfl
@[simp] theorem items_tup {l : List D} : items (.tup l) = some l := Eq.trans rfl rfl
@[simp] theorem items_dct {l : List (L2.Key × D)} : items (.dct l) = some (l.map fun p => keyD p.1) := Eq.trans rfl rfl
@[simp] theorem items_scr {l : List Int} : items (.scr l) = some (l.map D.int) := Eq.trans rfl rfl
@[simp] theorem items_str {z : Str} : items (.str z) = some (z.cps.toList.map fun c => .str ⟨#[c]⟩) := Eq.trans rfl rfl
@[simp] theorem cmp_lt {i j : Int} : cmp .lt (.int i) (.int j) = .ok (decide (i < j)) := Eq.trans rfl rfl
@[simp] theorem cmp_le {i j : Int} : cmp .le (.int i) (.int j) = .ok (decide (i ≤ j)) := Eq.trans rfl rfl
@[simp] theorem cmp_gt {i j : Int} : cmp .gt (.int i) (.int j) = .ok (decide (j < i)) := Eq.trans rfl rfl
@[simp] theorem cmp_ge {i j : Int} : cmp .ge (.int i) (.int j) = .ok (decide (j ≤ i)) := Eq.trans rfl rfl
@[simp] theorem cmp_ltS {i j : Str} : cmp .lt (.str i) (.str j) = .ok (ltStr i j) := Eq.trans rfl rfl
@[simp] theorem cmp_leS {i j : Str} : cmp .le (.str i) (.str j) = .ok (leStr i j) := Eq.trans rfl rfl
@[simp] theorem cmp_eqI {i j : Int} : cmp .eq (.int i) (.int j) = .ok (i == j) := by simp [cmp, eqB, eqOK, D.flat, D.eqv, guard', Res.bind]
@[simp] theorem cmp_neI {i j : Int} : cmp .ne (.int i) (.int j) = .ok (!(i == j)) := by simp [cmp, eqB, eqOK, D.flat, D.eqv, guard', Res.bind]
@[simp] theorem cmp_eqS {i j : Str} : cmp .eq (.str i) (.str j) = .ok (i == j) := by simp [cmp, eqB, eqOK, D.flat, D.eqv, guard', Res.bind]
@[simp] theorem cmp_neS {i j : Str} : cmp .ne (.str i) (.str j) = .ok (!(i == j)) := by simp [cmp, eqB, eqOK, D.flat, D.eqv, guard', Res.bind]
@[simp] theorem cmp_isB {i j : Bool} : cmp .is (.bl i) (.bl j) = .ok (decide (i = j)) := Eq.trans rfl rfl
@[simp] theorem cmp_isnotB {i j : Bool} : cmp .isnot (.bl i) (.bl j) = .ok (!(decide (i = j))) := Eq.trans rfl rfl
@[simp] theorem cmp_isN {d : D} : cmp .is d .non = .ok (match d with | .non => true | _ => false) := Eq.trans rfl rfl
@[simp] theorem cmp_isnotN {d : D} : cmp .isnot d .non = .ok (!(match d with | .non => true | _ => false)) := Eq.trans rfl rfl
@[simp] theorem add_int {i j : Int} : Mi.bin .add (.int i) (.int j) = .ok (.int (i + j)) := Eq.trans rfl rfl
@[simp] theorem sub_int {i j : Int} : Mi.bin .sub (.int i) (.int j) = .ok (.int (i - j)) := Eq.trans rfl rfl
theorem bin_fdiv {i j : Int} (h : j ≠ 0) (h2 : j.natAbs < 1073741824) : Mi.bin .fdiv (.int i) (.int j) = .ok (.int (i.fdiv j)) := by
  have : (decide (j ≠ 0 ∧ j.natAbs < 1073741824)) = true := decide_eq_true ⟨h, h2⟩
  unfold Mi.bin
  simp only [this, guard_t]
theorem bin_mod {i j : Int} (h : j ≠ 0) : Mi.bin .mod (.int i) (.int j) = .ok (.int (i.fmod j)) := by
  have : (decide (j ≠ 0)) = true := decide_eq_true h
  unfold Mi.bin
  simp only [this, guard_t]
theorem bin_mul {i j : Int} (h : (-18446744073709551616 < i ∧ i < 18446744073709551616) ∨ (-18446744073709551616 < j ∧ j < 18446744073709551616)) : Mi.bin .mul (.int i) (.int j) = .ok (.int (i * j)) := by
  have : (decide (-(2 ^ 64) < i ∧ i < 2 ^ 64) || decide (-(2 ^ 64) < j ∧ j < 2 ^ 64)) = true := by
    rw [Bool.or_eq_true, decide_eq_true_eq, decide_eq_true_eq]
    exact h
  unfold Mi.bin
  simp only [this, guard_t]
@[simp] theorem getD1 {l : List (L2.Key × D)} {x : Str} : Mi.getD (.dct l) [.str x] = .ok ((look l (.inr x)).getD .non) := Eq.trans rfl rfl
@[simp] theorem getD2 {l : List (L2.Key × D)} {x : Str} {e : D} : Mi.getD (.dct l) [.str x, e] = .ok ((look l (.inr x)).getD e) := Eq.trans rfl rfl
@[simp] theorem isDct_dct {l : List (L2.Key × D)} : (D.dct l).isDct = true := Eq.trans rfl rfl
@[simp] theorem deref_dct {l : List (L2.Key × D)} : deref h (.dct l) = .dct l := Eq.trans rfl rfl
@[simp] theorem deref_lst {l : List D} : deref h (.lst l) = .lst l := Eq.trans rfl rfl
@[simp] theorem deref_tup {l : List D} : deref h (.tup l) = .tup l := Eq.trans rfl rfl
@[simp] theorem deref_scr {l : List Int} : deref h (.scr l) = .scr l := Eq.trans rfl rfl
@[simp] theorem idx_dct {l : List (L2.Key × D)} {x : Str} : idx (.dct l) (.str x) = .of (look l (.inr x)) := Eq.trans rfl rfl
@[simp] theorem idx_lst {l : List D} {i : Int} : idx (.lst l) (.int i) = .of (L2.atI l i) := Eq.trans rfl rfl
@[simp] theorem idx_tup {l : List D} {i : Int} : idx (.tup l) (.int i) = .of (L2.atI l i) := Eq.trans rfl rfl
@[simp] theorem setTg_name {i : Nat} {d : D} {ρ : Rho} : setTg (.name i) d ρ = guard' (decide (i < ρ.length)) (.ok (ρ.set i (some (d, false)))) := Eq.trans rfl rfl
@[simp] theorem keyD_inr {x : Str} : keyD (.inr x) = .str x := Eq.trans rfl rfl
@[simp] theorem wipe0 {ρ : Rho} : wipeR ρ [] = ρ := Eq.trans rfl rfl
@[simp] theorem wipe1 {ρ : Rho} {i : Nat} {l : List Nat} : wipeR ρ (i :: l) = (wipeR ρ l).set i none := Eq.trans rfl rfl
theorem lcGo_map {α : Type} {f : D → AH → Res (Option D × AH)} {p q : α → D} {l : List α} (hf : ∀ a ∈ l, f (p a) h = .ok (some (q a), h)) (hl : l.length < 16777216) : lcGo f (l.map p) [] h = .ok (l.map q, h) := by
  have gen : ∀ (l : List α) (acc : List D), (∀ a ∈ l, f (p a) h = .ok (some (q a), h)) → acc.length + l.length < 16777216 → lcGo f (l.map p) acc h = .ok (acc ++ l.map q, h) := by
    intro l
    induction l with
    | nil => intro acc _ _; simp [lcGo]
    | cons x r ih =>
      intro acc hf hl
      simp only [List.length_cons] at hl
      rw [List.map_cons, lcGo, hf x List.mem_cons_self]
      simp only [Res.bind_ok]
      rw [fits_ok (by omega), guard_t, ih _ (fun a ha => hf a (List.mem_cons_of_mem _ ha)) (by simp; omega)]
      simp
  simpa using gen l [] hf (by simpa using hl)
theorem lcGo_fil {α : Type} {f : D → AH → Res (Option D × AH)} {p q : α → D} (t : α → Bool) {l : List α} (hf : ∀ a ∈ l, f (p a) h = .ok (if t a then some (q a) else none, h)) (hl : l.length < 16777216) : lcGo f (l.map p) [] h = .ok ((l.filter t).map q, h) := by
  have gen : ∀ (l : List α) (acc : List D), (∀ a ∈ l, f (p a) h = .ok (if t a then some (q a) else none, h)) → acc.length + l.length < 16777216 → lcGo f (l.map p) acc h = .ok (acc ++ (l.filter t).map q, h) := by
    intro l
    induction l with
    | nil => intro acc _ _; simp [lcGo]
    | cons x r ih =>
      intro acc hf hl
      simp only [List.length_cons] at hl
      rw [List.map_cons, lcGo, hf x List.mem_cons_self]
      cases e : t x with
      | true =>
        simp only [Res.bind_ok, if_true]
        rw [fits_ok (by omega), guard_t, ih _ (fun a ha => hf a (List.mem_cons_of_mem _ ha)) (by simp; omega), List.filter_cons, e]
        simp
      | false =>
        simp only [Res.bind_ok, Bool.false_eq_true, if_false]
        rw [ih _ (fun a ha => hf a (List.mem_cons_of_mem _ ha)) (by omega), List.filter_cons, e]
        simp
  simpa using gen l [] hf (by simpa using hl)
/-! ### dicts with words for keys -/
section
variable {α : Type} (g : α → D)
def row (A : List (Str × α)) : List (L2.Key × D) := A.map fun p => (Sum.inr p.1, g p.2)
def kv (A : List (Str × α)) : D := .dct (row g A)
def lk (A : List (Str × α)) (x : Str) : Option α := (A.find? fun p => decide (p.1 = x)).map (·.2)
theorem look_row : ∀ (A : List (Str × α)) (x : Str), look (row g A) (.inr x) = (lk A x).map g
  | [], _ => rfl
  | (y, v) :: r, x => by
    have ih := look_row r x
    unfold look lk row at ih ⊢
    rw [List.map_cons, List.find?_cons, List.find?_cons]
    by_cases e : y = x
    · simp [e]
    · have e2 : (Sum.inr y : L2.Key) ≠ Sum.inr x := fun q => e (Sum.inr.inj q)
      simp only [e, e2, decide_false]
      exact ih
theorem row_keys (A : List (Str × α)) : (row g A).map (fun p => keyD p.1) = A.map fun p => D.str p.1 := by
  unfold row
  rw [List.map_map]
  rfl
theorem row_len (A : List (Str × α)) : (row g A).length = A.length := by unfold row; rw [List.length_map]
end
theorem bind_assoc {α β γ : Type} {r : Res α} {f : α → Res β} {g : β → Res γ} : (r.bind f).bind g = r.bind fun a => (f a).bind g := by cases r <;> rfl
/-- a loop over rows, by what it keeps -/
theorem forGo_bind {α β γ : Type} {f : D → St → Res (Fl × St)} {p : α → D} {k : Fl × St → Res γ} {R : Res γ} (I : β → St → Prop) (g : β → α → β) : ∀ (l : List α) (acc : β) (s : St), I acc s →
    (∀ a ∈ l, ∀ acc s, I acc s → ∃ s', f (p a) s = .ok (.next, s') ∧ I (g acc a) s') → (∀ s', I (l.foldl g acc) s' → k (.next, s') = R) → (forGo f (l.map p) s).bind k = R
  | [], acc, s, h0, _, fin => by
    rw [List.map_nil, forGo]
    exact fin s h0
  | a :: l, acc, s, h0, st, fin => by
    obtain ⟨s', e, h1⟩ := st a List.mem_cons_self acc s h0
    rw [List.map_cons, forGo, e]
    exact forGo_bind I g l (g acc a) s' h1 (fun b hb => st b (List.mem_cons_of_mem _ hb)) fin
/-- .. by what it keeps behind each part done -/
theorem forGo_pre {α γ : Type} {f : D → St → Res (Fl × St)} {p : α → D} {k : Fl × St → Res γ} {R : Res γ} (I : List α → St → Prop) (l : List α) (s : St) (h0 : I [] s)
    (st : ∀ done a rest, l = done ++ a :: rest → ∀ s, I done s → ∃ s', f (p a) s = .ok (.next, s') ∧ I (done ++ [a]) s') (fin : ∀ s', I l s' → k (.next, s') = R) : (forGo f (l.map p) s).bind k = R := by
  have gen : ∀ (rest done : List α) (s : St), l = done ++ rest → I done s → (forGo f (rest.map p) s).bind k = R := by
    intro rest
    induction rest with
    | nil =>
      intro done s e hI
      rw [List.append_nil] at e
      subst e
      rw [List.map_nil, forGo]
      exact fin s hI
    | cons a rest ih =>
      intro done s e hI
      obtain ⟨s', e1, h1⟩ := st done a rest e s hI
      rw [List.map_cons, forGo, e1]
      exact ih (done ++ [a]) s' (by rw [e]; simp) h1
  exact gen l [] s rfl h0
/-- a loop that hands back at the first row of a kind -/
theorem forGo_first {α γ : Type} {f : D → St → Res (Fl × St)} {p : α → D} {k : Fl × St → Res γ} {R1 : α → Res γ} {R0 : Res γ} (I : St → Prop) (t : α → Bool) (v : α → D) (fr : Bool) (J : St → Prop) : ∀ (l : List α) (s : St), I s →
    (∀ a ∈ l, ∀ s, I s → (t a = true → ∃ s', f (p a) s = .ok (.ret (v a) fr, s') ∧ J s') ∧ (t a = false → ∃ s', f (p a) s = .ok (.next, s') ∧ I s')) →
    (∀ a s', J s' → k (.ret (v a) fr, s') = R1 a) → (∀ s', I s' → k (.next, s') = R0) → (forGo f (l.map p) s).bind k = match l.find? t with | some a => R1 a | none => R0
  | [], s, h0, _, _, h2 => by
    rw [List.map_nil, forGo]
    exact h2 s h0
  | a :: l, s, h0, st, h1, h2 => by
    obtain ⟨ht, hf⟩ := st a List.mem_cons_self s h0
    rw [List.map_cons, forGo, List.find?_cons]
    cases e : t a with
    | true =>
      obtain ⟨s', e1, e2⟩ := ht e
      rw [e1]
      exact h1 a s' e2
    | false =>
      obtain ⟨s', e1, e2⟩ := hf e
      rw [e1]
      exact forGo_first I t v fr J l s' e2 (fun b hb => st b (List.mem_cons_of_mem _ hb)) h1 h2
@[simp] theorem place_own {ρ : Rho} {h : AH} {n : Nat} {d : D} (e : ρ[n]? = some (some (d, true))) : place ρ h n = some (true, n, d) := by unfold place; rw [e]
section
variable {α : Type} (g : α → D)
def putA (A : List (Str × α)) (x : Str) (v : α) : List (Str × α) := if A.any (fun p => decide (p.1 = x)) then A.map (fun p => if p.1 = x then (p.1, v) else p) else A ++ [(x, v)]
theorem put_row (A : List (Str × α)) (x : Str) (v : α) : put (row g A) (.inr x) (g v) = row g (putA A x v) := by
  have e1 : (row g A).any (fun p => decide (p.1 = Sum.inr x)) = A.any (fun p => decide (p.1 = x)) := by
    unfold row
    rw [List.any_map]
    congr 1
    funext p
    simp
  unfold put putA
  rw [e1]
  split
  · unfold row
    rw [List.map_map, List.map_map]
    refine List.map_congr_left fun p _ => ?_
    by_cases e : p.1 = x
    · simp [e]
    · simp [e]
  · unfold row
    rw [List.map_append]
    rfl
theorem putA_new {A : List (Str × α)} {x : Str} {v : α} (h : x ∉ A.map (·.1)) : putA A x v = A ++ [(x, v)] := by
  unfold putA
  rw [if_neg]
  intro q
  obtain ⟨p, hp, e⟩ := List.any_eq_true.mp q
  exact h (List.mem_map.mpr ⟨p, hp, of_decide_eq_true e⟩)
theorem merge_rows : ∀ (B A : List (Str × α)), (A.map (·.1) ++ B.map (·.1)).Nodup → merge (row g A) (row g B) = row g (A ++ B)
  | [], A, _ => by simp [merge, row]
  | (x, v) :: B, A, h => by
    have hx : x ∉ A.map (·.1) := by
      rw [List.map_cons] at h
      have := (List.nodup_append.mp h).2.2
      intro q
      exact this x q x List.mem_cons_self rfl
    have e : merge (row g A) (row g ((x, v) :: B)) = merge (put (row g A) (.inr x) (g v)) (row g B) := rfl
    rw [e, put_row, putA_new hx, merge_rows B (A ++ [(x, v)]) (by simpa using h)]
    simp
theorem pairs_rows' : ∀ (A : List (Str × α)), pairs? (A.map fun p => D.tup [.str p.1, g p.2]) = some (row g A)
  | [] => rfl
  | (x, v) :: r => by
    rw [List.map_cons, pairs?]
    simp only [D.key?, pairs_rows' r]
    rfl
theorem bi_dict_rows {A : List (Str × α)} (h : (A.map (·.1)).Nodup) : Mi.bi .dict [.lst (A.map fun p => D.tup [.str p.1, g p.2])] = .ok (kv g A) := by
  unfold Mi.bi
  simp only [pairs_rows']
  have := merge_rows g A [] (by simpa using h)
  rw [show merge [] (row g A) = row g ([] ++ A) from this]
  rfl
theorem bi_sorted_kv {A : List (Str × α)} (hl : A.length < 64) : Mi.bi .sorted [kv g A] = .ok (.lst ((sortS (A.map (·.1))).map D.str)) := by
  unfold Mi.bi kv
  simp only
  rw [row_keys, show (A.map fun p => D.str p.1) = (A.map (·.1)).map D.str by rw [List.map_map]; rfl, strs_map]
  simp [guard', hl]
theorem lk_mem {A : List (Str × α)} (h : (A.map (·.1)).Nodup) {p : Str × α} (hp : p ∈ A) : lk A p.1 = some p.2 := by
  unfold lk
  induction A with
  | nil => cases hp
  | cons q A ih =>
    rw [List.find?_cons]
    rw [List.map_cons, List.nodup_cons] at h
    rcases List.mem_cons.mp hp with e | e
    · subst e; simp
    · have ne : q.1 ≠ p.1 := fun z => h.1 (by rw [z]; exact List.mem_map.mpr ⟨p, e, rfl⟩)
      simp only [ne, decide_false]
      exact ih h.2 e
theorem lk_none {A : List (Str × α)} {x : Str} (h : x ∉ A.map (·.1)) : lk A x = none := by
  unfold lk
  rw [List.find?_eq_none.mpr fun p hp q => h (List.mem_map.mpr ⟨p, hp, of_decide_eq_true q⟩)]
  rfl
theorem lk_some {A : List (Str × α)} {x : Str} (h : x ∈ A.map (·.1)) : ∃ v, lk A x = some v := by
  obtain ⟨p, hp, e⟩ := List.mem_map.mp h
  unfold lk
  cases q : A.find? fun p => decide (p.1 = x) with
  | none => exact absurd (decide_eq_true e) (by simpa using List.find?_eq_none.mp q p hp)
  | some r => exact ⟨r.2, rfl⟩
end
theorem sortS_nodup {l : List Str} (h : l.Nodup) : (sortS l).Nodup := (sortBy_perm l).nodup_iff.mpr h
theorem sortS_mem {l : List Str} {x : Str} : x ∈ sortS l ↔ x ∈ l := (sortBy_perm l).mem_iff
theorem sortS_len {l : List Str} : (sortS l).length = l.length := (sortBy_perm l).length_eq
end Mi

set_option Elab.async false
set_option linter.all false
set_option maxRecDepth 100000
/-! Mi: a long def, statement by statement, over slots of which some are known. -/
namespace Mi
open PySem
variable {cf : Calls} {ρ : Rho} {h h' : AH} {wf m i j : Nat} {L : List (Nat × Sl)} {x : Sl} {d : D} {b : Bool}
/-- no rfl rules: the kernel need not look into what is bound -/
theorem bo {α β : Type} (a : α) (k : α → Res β) : (Res.ok a).bind k = k a := Eq.trans rfl rfl
theorem osm {α : Type} (a : α) : Res.of (some a) = .ok a := Eq.trans rfl rfl
/-- m slots, of which L tells some: the first row of a slot counts -/
def Live (m : Nat) (ρ : Rho) (L : List (Nat × Sl)) : Prop := ρ.length = m ∧ ∀ i x, L.lookup i = some x → ρ[i]? = some x
theorem Live.at (H : Live m ρ L) (e : L.lookup i = some x) : ρ[i]? = some x := H.2 i x e
theorem Live.p (H : Live m ρ L) (i : Nat) (e : L.lookup i = some (some (d, b))) : pAt ρ i h = .ok (d, false, h) := by
  unfold pAt
  rw [H.at e]
theorem Live.v (H : Live m ρ L) (i : Nat) (e : L.lookup i = some (some (d, false))) : vAt ρ i h = .ok (d, false, h) := by
  unfold vAt
  rw [H.at e]
theorem Live.set (H : Live m ρ L) (hi : i < m) : Live m (ρ.set i x) ((i, x) :: L) := by
  refine ⟨by rw [List.length_set]; exact H.1, fun j y e => ?_⟩
  rw [List.lookup_cons] at e
  by_cases q : j = i
  · subst q
    simp at e
    subst e
    rw [List.getElem?_set_self (by rw [H.1]; exact hi)]
  · have : (j == i) = false := by simp [q]
    rw [this] at e
    rw [List.getElem?_set_ne (fun z => q z.symm)]
    exact H.2 j y e
theorem Live.mono {L' : List (Nat × Sl)} (H : Live m ρ L) (e : ∀ i x, L'.lookup i = some x → L.lookup i = some x) : Live m ρ L' := ⟨H.1, fun i x q => H.2 i x (e i x q)⟩
theorem pAt_ne {x : Sl} (ne : i ≠ j) : pAt (ρ.set i x) j h = pAt ρ j h := by
  unfold pAt
  rw [List.getElem?_set_ne ne]
theorem vAt_ne {x : Sl} (ne : i ≠ j) : vAt (ρ.set i x) j h = vAt ρ j h := by
  unfold vAt
  rw [List.getElem?_set_ne ne]
theorem pAt_eq (lt : i < ρ.length) : pAt (ρ.set i (some (d, b))) i h = .ok (d, false, h) := by
  unfold pAt
  rw [List.getElem?_set_self lt]
theorem vAt_eq (lt : i < ρ.length) : vAt (ρ.set i (some (d, false))) i h = .ok (d, false, h) := by
  unfold vAt
  rw [List.getElem?_set_self lt]
def Subs : List (Nat × Sl) → List (Nat × Sl) → Prop
  | [], _ => True
  | p :: r, L => L.lookup p.1 = some p.2 ∧ Subs r L
/-- less is told -/
theorem Live.sub {L' : List (Nat × Sl)} (H : Live m ρ L) (e : Subs L' L) : Live m ρ L' := by
  refine H.mono fun i x q => ?_
  induction L' with
  | nil => simp at q
  | cons p r ih =>
    obtain ⟨e1, e2⟩ := e
    rw [List.lookup_cons] at q
    split at q
    · rename_i z
      have z : i = p.1 := by simpa using z
      cases q
      rw [z]
      exact e1
    · exact ih e2 q
/-- a list or a dict -/
def D.isOwn : D → Bool
  | .lst _ | .dct _ => true
  | _ => false
theorem exs_step {s : S} {r : Ss} {st st' : Mi.St} (e : ex cf wf s st = .ok (.next, st')) : exs cf wf (.cons s r) st = exs cf wf r st' := by
  rw [exs_cons, e]
  rfl
theorem Live.asg {e : E} {r : Ss} (H : Live m ρ L) (i : Nat) (ev' : ev cf ρ e h = .ok (d, b, h')) (hi : i < m := by decide) : ∃ ρ', exs cf wf (.cons (.asg (.name i) e) r) ⟨ρ, h⟩ = exs cf wf r ⟨ρ', h'⟩ ∧ Live m ρ' ((i, some (d, b && d.isOwn)) :: L) := by
  refine ⟨ρ.set i (some (d, b && d.isOwn)), exs_step ?_, H.set hi⟩
  have lt : decide (i < ρ.length) = true := decide_eq_true (by rw [H.1]; exact hi)
  unfold ex
  simp only [ev', Res.bind_ok]
  cases d <;> cases b <;> simp [D.isOwn, lt]
theorem Live.asg2 {e : E} {r : Ss} {d1 d2 : D} (H : Live m ρ L) (i j : Nat) (ev' : ev cf ρ e h = .ok (.tup [d1, d2], b, h')) (hi : i < m := by decide) (hj : j < m := by decide) : ∃ ρ', exs cf wf (.cons (.asg (.tup [i, j]) e) r) ⟨ρ, h⟩ = exs cf wf r ⟨ρ', h'⟩ ∧ Live m ρ' ((j, some (d2, false)) :: (i, some (d1, false)) :: L) := by
  refine ⟨(ρ.set i (some (d1, false))).set j (some (d2, false)), exs_step ?_, (H.set hi).set hj⟩
  unfold ex
  simp only [ev', Res.bind_ok]
  cases b <;> simp [setTg]
theorem exs_chk {c : E} {a r : Ss} (ev' : ev cf ρ c h = .ok (.bl false, b, h')) : exs cf wf (.cons (.iff c a .nil) r) ⟨ρ, h⟩ = exs cf wf r ⟨ρ, h'⟩ := by
  refine exs_step ?_
  unfold ex
  simp only [ev', Res.bind_ok, boolK_bl]
  simp
theorem Live.frz1 {is : List Nat} {r : Ss} {o : Bool} (H : Live m ρ L) (i : Nat) (e : L.lookup i = some (some (d, o))) (hi : i < m := by decide) : ∃ ρ', exs cf wf (.cons (.frz (i :: is)) r) ⟨ρ, h⟩ = exs cf wf (.cons (.frz is) r) ⟨ρ', h⟩ ∧ Live m ρ' ((i, some (d, false)) :: L) := by
  refine ⟨ρ.set i (some (d, false)), ?_, H.set hi⟩
  rw [exs_cons, exs_cons]
  unfold ex
  simp only [Res.bind_ok]
  congr 2
  conv => lhs; unfold frzR
  rw [H.at e]
  cases o with
  | true => rfl
  | false =>
    have : ρ.set i (some (d, false)) = ρ := by
      have q := H.at e
      apply List.ext_getElem?
      intro k
      by_cases z : i = k
      · subst z
        rw [q, List.getElem?_set_self (by rw [H.1]; exact hi)]
      · rw [List.getElem?_set_ne z]
    rw [this]
theorem exs_frz0 {r : Ss} {s : Mi.St} : exs cf wf (.cons (.frz []) r) s = exs cf wf r s := by
  rw [exs_cons]
  unfold ex
  simp [frzR]
/-- a comprehension over things with a store that goes on: each row gives a value of a kind -/
theorem lcGo_each {f : D → AH → Res (Option D × AH)} {β : Type} (q : β → D) (G : β → Prop) (I : AH → Prop) : ∀ (l acc : List D) (h : AH), I h → (∀ x ∈ l, ∀ h, I h → ∃ b h', f x h = .ok (some (q b), h') ∧ I h' ∧ G b) → acc.length + l.length < 16777216 →
    ∃ (bs : List β) (h' : AH), lcGo f l acc h = .ok (acc ++ bs.map q, h') ∧ I h' ∧ bs.length = l.length ∧ ∀ b ∈ bs, G b
  | [], acc, h, hI, _, _ => ⟨[], h, by simp [lcGo], hI, rfl, by simp⟩
  | x :: r, acc, h, hI, st, hl => by
    simp only [List.length_cons] at hl
    obtain ⟨b, h1, e, hI1, g⟩ := st x List.mem_cons_self h hI
    obtain ⟨bs, h2, e2, hI2, l2, g2⟩ := lcGo_each q G I r (acc ++ [q b]) h1 hI1 (fun y hy => st y (List.mem_cons_of_mem _ hy)) (by simp; omega)
    refine ⟨b :: bs, h2, ?_, hI2, by simp [l2], fun c hc => ?_⟩
    · unfold lcGo
      rw [e]
      simp only [Res.bind_ok]
      rw [fits_ok (by omega), guard_t, e2]
      simp
    · rcases List.mem_cons.mp hc with z | z
      · rw [z]; exact g
      · exact g2 c z
/-- a loop, by what it keeps behind so many rows -/
theorem forGo_cnt {f : D → Mi.St → Res (Fl × Mi.St)} (I : Nat → Mi.St → Prop) : ∀ (l : List D) (i : Nat) (s : Mi.St), I i s → (∀ (k : Nat) (x : D), l[k]? = some x → ∀ s, I (i + k) s → ∃ s', f x s = .ok (.next, s') ∧ I (i + k + 1) s') → ∃ s', forGo f l s = .ok (.next, s') ∧ I (i + l.length) s'
  | [], i, s, h0, _ => ⟨s, by rw [forGo], h0⟩
  | x :: l, i, s, h0, st => by
    obtain ⟨s1, e1, h1⟩ := st 0 x rfl s h0
    obtain ⟨s2, e2, h2⟩ := forGo_cnt I l (i + 1) s1 h1 (fun k y hy s hs => by
      have := st (k + 1) y (by simpa using hy) s (by rw [show i + (k + 1) = i + 1 + k by omega]; exact hs)
      rw [show i + (k + 1) + 1 = i + 1 + k + 1 by omega] at this
      exact this)
    refine ⟨s2, ?_, ?_⟩
    · rw [forGo, e1]
      exact e2
    · rw [List.length_cons, show i + (l.length + 1) = i + 1 + l.length by omega]
      exact h2
/-- a loop that hands back at row k -/
theorem forGo_ret {f : D → Mi.St → Res (Fl × Mi.St)} (I : Nat → Mi.St → Prop) {d : D} {o : Bool} {J : Mi.St → Prop} : ∀ (l : List D) (k i : Nat) (s : Mi.St), I i s → (∀ (j : Nat) (x : D), j < k → l[j]? = some x → ∀ s, I (i + j) s → ∃ s', f x s = .ok (.next, s') ∧ I (i + j + 1) s') →
    (∃ x, l[k]? = some x ∧ ∀ s, I (i + k) s → ∃ s', f x s = .ok (.ret d o, s') ∧ J s') → ∃ s', forGo f l s = .ok (.ret d o, s') ∧ J s'
  | [], k, i, s, h0, _, ⟨x, e, _⟩ => by simp at e
  | x :: l, 0, i, s, h0, _, ⟨y, e, q⟩ => by
    simp at e
    subst e
    obtain ⟨s', e1, j1⟩ := q s h0
    exact ⟨s', by rw [forGo, e1]; rfl, j1⟩
  | x :: l, k + 1, i, s, h0, st, ⟨y, e, q⟩ => by
    obtain ⟨s1, e1, h1⟩ := st 0 x (by omega) rfl s h0
    obtain ⟨s2, e2, h2⟩ := forGo_ret I l k (i + 1) s1 h1 (fun j z hj hz s hs => by
      have := st (j + 1) z (by omega) (by simpa using hz) s (by rw [show i + (j + 1) = i + 1 + j by omega]; exact hs)
      rw [show i + (j + 1) + 1 = i + 1 + j + 1 by omega] at this
      exact this) ⟨y, by simpa using e, fun s hs => q s (by rw [show i + (k + 1) = i + 1 + k by omega]; exact hs)⟩
    exact ⟨s2, by rw [forGo, e1]; exact e2, h2⟩
theorem fr_step {t : Nat} {body : Ss} {x : D} {s s' : Mi.St} {fl : Fl} (hI : t < s.ρ.length) (e : exs cf wf body ⟨s.ρ.set t (some (x, false)), s.h⟩ = .ok (fl, s')) : ((setTg (.name t) x s.ρ).bind fun ρ => exs cf wf body ⟨ρ, s.h⟩) = .ok (fl, s') := by
  have lt : decide (t < s.ρ.length) = true := decide_eq_true hI
  simp only [setTg_name, lt, guard_t, Res.bind_ok]
  exact e
theorem exs_fr {src : It} {t : Nat} {body r : Ss} {l : List D} (src' : evi cf ρ src h = .ok (l, h')) (I : Nat → Mi.St → Prop) (hI : ∀ i s, I i s → t < s.ρ.length) (h0 : I 0 ⟨ρ, h'⟩)
    (st : ∀ (k : Nat) (x : D), l[k]? = some x → ∀ s, I k s → ∃ s', exs cf wf body ⟨s.ρ.set t (some (x, false)), s.h⟩ = .ok (.next, s') ∧ I (k + 1) s') : ∃ s', exs cf wf (.cons (.fr (.name t) src body) r) ⟨ρ, h⟩ = exs cf wf r s' ∧ I l.length s' := by
  obtain ⟨s', e, h1⟩ := forGo_cnt (f := fun x s => (setTg (.name t) x s.ρ).bind fun ρ => exs cf wf body ⟨ρ, s.h⟩) I l 0 ⟨ρ, h'⟩ h0 (fun k x hx s hs => by
    rw [Nat.zero_add] at hs ⊢
    obtain ⟨s', e, h1⟩ := st k x hx s hs
    exact ⟨s', fr_step (hI _ s hs) e, h1⟩)
  refine ⟨s', exs_step ?_, by rw [Nat.zero_add] at h1; exact h1⟩
  unfold ex
  simp only [src', Res.bind_ok]
  exact e
theorem exs_fr_ret {src : It} {t : Nat} {body r : Ss} {l : List D} {o : Bool} {J : Mi.St → Prop} (src' : evi cf ρ src h = .ok (l, h')) (I : Nat → Mi.St → Prop) (hI : ∀ i s, I i s → t < s.ρ.length) (h0 : I 0 ⟨ρ, h'⟩) (k : Nat)
    (st : ∀ (j : Nat) (x : D), j < k → l[j]? = some x → ∀ s, I j s → ∃ s', exs cf wf body ⟨s.ρ.set t (some (x, false)), s.h⟩ = .ok (.next, s') ∧ I (j + 1) s')
    (fin : ∃ x, l[k]? = some x ∧ ∀ s, I k s → ∃ s', exs cf wf body ⟨s.ρ.set t (some (x, false)), s.h⟩ = .ok (.ret d o, s') ∧ J s') : ∃ s', exs cf wf (.cons (.fr (.name t) src body) r) ⟨ρ, h⟩ = .ok (.ret d o, s') ∧ J s' := by
  obtain ⟨x, hx, q⟩ := fin
  obtain ⟨s', e, h1⟩ := forGo_ret (f := fun x s => (setTg (.name t) x s.ρ).bind fun ρ => exs cf wf body ⟨ρ, s.h⟩) (d := d) (o := o) (J := J) I l k 0 ⟨ρ, h'⟩ h0 (fun k x hk hx s hs => by
    rw [Nat.zero_add] at hs ⊢
    obtain ⟨s', e, h1⟩ := st k x hk hx s hs
    exact ⟨s', fr_step (hI _ s hs) e, h1⟩) ⟨x, hx, fun s hs => by
    rw [Nat.zero_add] at hs
    obtain ⟨s', e, h1⟩ := q s hs
    exact ⟨s', fr_step (hI _ s hs) e, h1⟩⟩
  refine ⟨s', ?_, h1⟩
  rw [exs_cons]
  unfold ex
  simp only [src', Res.bind_ok]
  rw [e]
  rfl
theorem exs_ret {e : E} {r : Ss} {o : Bool} (ev' : evR cf ρ e h = .ok (d, o, h')) : exs cf wf (.cons (.ret e) r) ⟨ρ, h⟩ = .ok (.ret d o, ⟨ρ, h'⟩) := by
  rw [exs_cons]
  unfold ex
  simp only [ev', Res.bind_ok]
theorem evR_of {e : E} (q : ∀ i, e ≠ .pk i) : evR cf ρ e h = ev cf ρ e h := by
  unfold evR
  split
  · exact absurd rfl (q _)
  · rfl
theorem Live.evR {o : Bool} (H : Live m ρ L) (i : Nat) (e : L.lookup i = some (some (d, o))) : evR cf ρ (.pk i) h = .ok (d, o, h) := by
  unfold Mi.evR
  simp only [H.at e]
theorem exs_iff {c : E} {a b' r : Ss} {k : Bool} {fr : Bool} (ev' : ev cf ρ c h = .ok (.bl k, fr, h')) : exs cf wf (.cons (.iff c a b') r) ⟨ρ, h⟩ = (exs cf wf (if k then a else b') ⟨ρ, h'⟩).bind fun p => match p.1 with
    | .next => exs cf wf r p.2
    | .ret d o => .ok (.ret d o, p.2) := by
  rw [exs_cons]
  unfold ex
  simp only [ev', Res.bind_ok, boolK_bl]
  cases k <;> rfl
/-- a def's call, by its body -/
theorem runF_ret {F : Fn} {ds : List D} {o : Bool} (hl : ds.length = F.ps) (e : ∃ s', exs cf wf F.body ⟨Mi.start F ds, h⟩ = .ok (.ret d o, s') ∧ s'.h = h') : runF cf wf F ds h = .ok (d, o, h') := by
  obtain ⟨s', e, q⟩ := e
  unfold runF
  rw [if_pos hl, e, Res.bind_ok]
  simp only [q]
theorem Live.of : ∀ {L : List (Nat × Sl)}, ρ.length = m → (∀ p ∈ L, ρ[p.1]? = some p.2) → Live m ρ L
  | L, hl, hp => ⟨hl, fun i x e => by
    have : (i, x) ∈ L := by
      induction L with
      | nil => simp at e
      | cons q L ih =>
        rw [List.lookup_cons] at e
        split at e
        · rename_i z
          have z : i = q.1 := by simpa using z
          cases e
          subst z
          exact List.mem_cons_self
        · exact List.mem_cons_of_mem _ (ih (fun p hp' => hp p (List.mem_cons_of_mem _ hp')) e)
    exact hp _ this⟩
/-- a comprehension that changes nothing, with a test -/
theorem lc_fil {α : Type} {t : Nat} {c e : E} {it : It} (p q : α → D) (tst : α → Bool) (l : List α) (src : evi cf ρ it h = .ok (l.map p, h)) (ho : t < ρ.length)
    (hc : ∀ a ∈ l, ∃ b, ev cf (ρ.set t (some (p a, false))) c h = .ok (.bl (tst a), b, h)) (hq : ∀ a ∈ l, tst a = true → ∃ b, ev cf (ρ.set t (some (p a, false))) e h = .ok (q a, b, h)) (hl : l.length < 16777216) :
    ev cf ρ (.lc [t] (.name t) it c e) h = .ok (.lst ((l.filter tst).map q), true, h) := by
  rw [ev_lc, src]
  simp only [Res.bind_ok]
  rw [lcGo_fil (q := q) tst]
  · simp
  · intro a ha
    have lt : decide (t < (ρ.set t none).length) = true := by simp [ho]
    obtain ⟨b, eb⟩ := hc a ha
    simp only [wipe1, wipe0, setTg_name, lt, guard_t, Res.bind_ok, List.set_set, eb, boolK_bl]
    cases z : tst a with
    | false => simp
    | true =>
      obtain ⟨b2, e2⟩ := hq a ha z
      simp [e2]
  · exact hl
/-- .. without one -/
theorem lc_map {α : Type} {t : Nat} {e : E} {it : It} (p q : α → D) (l : List α) (src : evi cf ρ it h = .ok (l.map p, h)) (ho : t < ρ.length) (hq : ∀ a ∈ l, ∃ b, ev cf (ρ.set t (some (p a, false))) e h = .ok (q a, b, h)) (hl : l.length < 16777216) :
    ev cf ρ (.lc [t] (.name t) it (.bl true) e) h = .ok (.lst (l.map q), true, h) := by
  rw [lc_fil p q (fun _ => true) l src ho (fun a _ => ⟨false, ev_bl⟩) (fun a ha _ => hq a ha) hl, List.filter_eq_self.mpr (fun _ _ => rfl)]
end Mi

set_option Elab.async false
set_option linter.all false
set_option maxRecDepth 100000
set_option maxHeartbeats 8000000
/-! k04: what each def hands back. -/
namespace K4
open PySem Mi
variable {n wf : Nat} {h : AH}
theorem r_is_number {i : Int} (hn : 1 ≤ n) : callN prg wf n "is_number" [.int i] h = .ok (.bl true, false, h) := by
  obtain ⟨n, rfl⟩ := Nat.exists_eq_add_of_le' hn
  rw [c_is_number]
  simp [b_is_number, runF, Mi.start, ex, evR, isA]
theorem r_is_from {i j : Int} (hn : 2 ≤ n) : callN prg wf n "is_from" [.int i, .int j] h = .ok (.bl (decide (j ≤ i)), false, h) := by
  obtain ⟨n, rfl⟩ := Nat.exists_eq_add_of_le' hn
  rw [show n + 2 = (n + 1) + 1 from rfl, c_is_from]
  simp [b_is_from, runF, Mi.start, ex, evR, r_is_number]
/-- a word -/
def nameB (x : Str) : Bool := !(x == "") && x.cps.toList.all fun c => leStr "a" ⟨#[c]⟩ && leStr ⟨#[c]⟩ "z"
theorem r_is_name {x : Str} (hx : x.cps.toList.length < 16777216) (hn : 1 ≤ n) : callN prg wf n "is_name" [.str x] h = .ok (.bl (nameB x), false, h) := by
  obtain ⟨n, rfl⟩ := Nat.exists_eq_add_of_le' hn
  rw [c_is_name]
  simp [b_is_name, runF, Mi.start, ex, evR, isA]
  split
  · rename_i e
    subst e
    rfl
  · rename_i e
    rw [lcGo_map (q := fun c => D.bl (leStr "a" ⟨#[c]⟩ && leStr ⟨#[c]⟩ "z"))]
    · have : nameB x = x.cps.toList.all fun c => leStr "a" ⟨#[c]⟩ && leStr ⟨#[c]⟩ "z" := by simp [nameB, e]
      simp [this]
    · intro c _
      cases hc : leStr (Str.ofString "a") ⟨#[c]⟩ <;> simp [hc]
    · exact hx
def dA (A : List (Str × Int)) : D := kv D.int A
theorem r_is_amounts {A : List (Str × Int)} (hA : ∀ p ∈ A, p.1.cps.toList.length < 16777216) (hk : ∀ p ∈ A, lk A p.1 = some p.2) (hl : A.length < 16777216) (hn : 3 ≤ n) : callN prg wf n "is_amounts" [dA A] h = .ok (.bl (A.all fun p => nameB p.1 && decide (1 ≤ p.2)), false, h) := by
  obtain ⟨n, rfl⟩ := Nat.exists_eq_add_of_le' hn
  rw [show n + 3 = (n + 2) + 1 from rfl, c_is_amounts]
  simp [b_is_amounts, runF, Mi.start, ex, evR, isA, dA, kv, row_keys]
  rw [lcGo_map (q := fun p : Str × Int => D.bl (nameB p.1 && decide (1 ≤ p.2)))]
  · simp
  · intro p hp
    rw [r_is_name (hA p hp) (by omega)]
    cases e : nameB p.1 <;> simp [e, look_row, hk p hp, r_is_from]
  · exact hl
/-- the amounts above nothing, in order -/
def ordA (A : List (Str × Int)) : List (Str × Int) := ((sortS (A.map (·.1))).filter fun w => decide (0 < (lk A w).getD 0)).map fun w => (w, (lk A w).getD 0)
theorem ordA_nd {A : List (Str × Int)} (nd : (A.map (·.1)).Nodup) : ((ordA A).map (·.1)).Nodup := by
  unfold ordA
  rw [List.map_map]
  have : ((fun x : Str × Int => x.1) ∘ fun w => (w, (lk A w).getD 0)) = id := rfl
  rw [this, List.map_id]
  exact (sortS_nodup nd).filter _
theorem r_in_order {A : List (Str × Int)} (nd : (A.map (·.1)).Nodup) (hl : A.length < 64) (hn : 1 ≤ n) : callN prg wf n "in_order" [dA A] h = .ok (dA (ordA A), true, h) := by
  obtain ⟨n, rfl⟩ := Nat.exists_eq_add_of_le' hn
  rw [c_in_order]
  simp [b_in_order, runF, Mi.start, ex, evR, dA, bi_sorted_kv D.int hl]
  rw [lcGo_fil (q := fun w => D.tup [.str w, .int ((lk A w).getD 0)]) (fun w => decide (0 < (lk A w).getD 0))]
  · have := bi_dict_rows D.int (ordA_nd nd)
    unfold ordA at this
    rw [List.map_map] at this
    simp [Function.comp_def] at this ⊢
    rw [this]
    rfl
  · intro w hw
    obtain ⟨v, ev⟩ := lk_some (sortS_mem.mp hw)
    by_cases h0 : 0 < v <;> simp [kv, look_row, ev, h0, fits, big]
  · rw [sortS_len, List.length_map]; omega
theorem putA_keys {A : List (Str × Int)} {x : Str} {v : Int} : (putA A x v).map (·.1) = if x ∈ A.map (·.1) then A.map (·.1) else A.map (·.1) ++ [x] := by
  unfold putA
  by_cases e : x ∈ A.map (·.1)
  · have e2 : A.any (fun p => decide (p.1 = x)) = true := by
      obtain ⟨p, hp, q⟩ := List.mem_map.mp e
      exact List.any_eq_true.mpr ⟨p, hp, decide_eq_true q⟩
    rw [if_pos e, if_pos e2, List.map_map]
    refine List.map_congr_left fun p _ => ?_
    by_cases q : p.1 = x <;> simp [q]
  · have e2 : ¬ A.any (fun p => decide (p.1 = x)) = true := fun q => by
      obtain ⟨p, hp, q⟩ := List.any_eq_true.mp q
      exact e (List.mem_map.mpr ⟨p, hp, of_decide_eq_true q⟩)
    rw [if_neg e, if_neg e2]
    simp
theorem putA_nd {A : List (Str × Int)} {x : Str} {v : Int} (h : (A.map (·.1)).Nodup) : ((putA A x v).map (·.1)).Nodup := by
  rw [putA_keys]
  split
  · exact h
  · rename_i q
    rw [List.nodup_append]
    exact ⟨h, by simp, fun a ha b hb => by
      rw [List.mem_singleton] at hb
      subst hb
      exact fun z => q (z ▸ ha)⟩
theorem putA_len {α : Type} {A : List (Str × α)} {x : Str} {v : α} : (putA A x v).length ≤ A.length + 1 := by
  unfold putA
  split <;> simp
/-- both together, as they are put -/
def plusR (A B : List (Str × Int)) : List (Str × Int) := B.foldl (fun acc p => putA acc p.1 ((lk acc p.1).getD 0 + p.2)) A
theorem plusR_ok : ∀ (B A : List (Str × Int)), (A.map (·.1)).Nodup → ((plusR A B).map (·.1)).Nodup ∧ (plusR A B).length ≤ A.length + B.length
  | [], A, h => ⟨h, by simp [plusR]⟩
  | p :: B, A, h => by
    obtain ⟨h1, h2⟩ := plusR_ok B (putA A p.1 ((lk A p.1).getD 0 + p.2)) (putA_nd h)
    refine ⟨h1, Nat.le_trans h2 ?_⟩
    have := putA_len (A := A) (x := p.1) (v := (lk A p.1).getD 0 + p.2)
    simp only [List.length_cons]
    omega
theorem look_dA {A : List (Str × Int)} {x : Str} : look (row D.int A) (.inr x) = (lk A x).map D.int := look_row D.int A x
theorem r_plus {A B : List (Str × Int)} (nA : (A.map (·.1)).Nodup) (nB : (B.map (·.1)).Nodup) (hl : A.length + B.length < 64) (hn : 2 ≤ n) : callN prg wf n "plus_amounts" [dA A, dA B] h = .ok (dA (ordA (plusR A B)), true, h) := by
  obtain ⟨n, rfl⟩ := Nat.exists_eq_add_of_le' hn
  rw [show n + 2 = (n + 1) + 1 from rfl, c_plus_amounts]
  simp [b_plus_amounts, runF, Mi.start, ex, evR, dA, kv, row_keys]
  simp only [bind_assoc]
  refine forGo_pre (fun done s => ∃ x3, s = ⟨[some (dA A, false), some (dA B, false), some (dA (plusR A done), true), x3], h⟩) B _ ?_ ?_ ?_
  · exact ⟨_, rfl⟩
  · rintro done p rest hB s ⟨x3, rfl⟩
    have hp : p ∈ B := by rw [hB]; simp
    have hb := lk_mem nB hp
    obtain ⟨k1, k2⟩ := plusR_ok done A nA
    have hlen : (plusR A done).length < 64 := by
      have : B.length = done.length + rest.length + 1 := by rw [hB]; simp; omega
      omega
    have e2 : plusR A (done ++ [p]) = putA (plusR A done) p.1 ((lk (plusR A done) p.1).getD 0 + p.2) := by
      unfold plusR
      rw [List.foldl_append]
      rfl
    refine ⟨⟨[some (dA A, false), some (dA B, false), some (dA (plusR A (done ++ [p])), true), some (.str p.1, false)], h⟩, ?_, _, rfl⟩
    have fitk : fits (row D.int (plusR A done)).length = true := by rw [row_len]; exact fits_ok (by omega)
    rw [e2]
    cases ek : lk (plusR A done) p.1 with
    | none => simp [ex, dA, kv, look_dA, hb, ek, held, place, Mi.putAt, D.key?, fitk, Mi.placed, ← put_row]
    | some v => simp [ex, dA, kv, look_dA, hb, ek, held, place, Mi.putAt, D.key?, fitk, Mi.placed, ← put_row]
  · rintro s' ⟨x3, rfl⟩
    obtain ⟨k1, k2⟩ := plusR_ok B A nA
    simp [frzR, r_in_order k1 (by omega) (show 1 ≤ n + 1 by omega)]
    rfl
/-- within -/
def fitsA (A B : List (Str × Int)) : Bool := A.all fun p => decide (p.2 ≤ (lk B p.1).getD 0)
theorem r_fits {A B : List (Str × Int)} (nA : (A.map (·.1)).Nodup) (hl : A.length < 64) (hn : 1 ≤ n) : callN prg wf n "fits_in" [dA A, dA B] h = .ok (.bl (fitsA A B), true, h) := by
  obtain ⟨n, rfl⟩ := Nat.exists_eq_add_of_le' hn
  rw [c_fits_in]
  simp [b_fits_in, runF, Mi.start, ex, evR, dA, kv, row_keys]
  rw [lcGo_map (q := fun p : Str × Int => D.bl (decide (p.2 ≤ (lk B p.1).getD 0)))]
  · simp [fitsA]
  · intro p hp
    cases e : lk B p.1 <;> simp [look_dA, lk_mem nA hp, e]
  · omega
/-- less -/
def lessR (A B : List (Str × Int)) : List (Str × Int) := A.map fun p => (p.1, p.2 - (lk B p.1).getD 0)
theorem lessR_keys {A B : List (Str × Int)} : (lessR A B).map (·.1) = A.map (·.1) := by
  unfold lessR
  rw [List.map_map]
  rfl
theorem less_dict {A B : List (Str × Int)} (nA : (A.map (·.1)).Nodup) : Mi.bi .dict [.lst (A.map fun p => D.tup [.str p.1, .int (p.2 - (lk B p.1).getD 0)])] = .ok (dA (lessR A B)) := by
  have := bi_dict_rows D.int (A := lessR A B) (by rw [lessR_keys]; exact nA)
  unfold lessR at this
  rw [List.map_map] at this
  exact this
theorem r_minus {A B : List (Str × Int)} (nA : (A.map (·.1)).Nodup) (nB : (B.map (·.1)).Nodup) (hA : A.length < 64) (hB : B.length < 64) (hn : 2 ≤ n) :
    callN prg wf n "minus_amounts" [dA A, dA B] h = .ok (if fitsA B A then (dA (ordA (lessR A B)), true, h) else (.non, false, h)) := by
  obtain ⟨n, rfl⟩ := Nat.exists_eq_add_of_le' hn
  rw [show n + 2 = (n + 1) + 1 from rfl, c_minus_amounts]
  simp [b_minus_amounts, runF, Mi.start, ex, evR, r_fits nB hB (show 1 ≤ n + 1 by omega)]
  cases e : fitsA B A with
  | false => simp [ex, evR]
  | true =>
    simp [ex, evR, dA, kv, row_keys]
    rw [lcGo_map (q := fun p : Str × Int => D.tup [.str p.1, .int (p.2 - (lk B p.1).getD 0)])]
    · simp [less_dict nA, r_in_order (A := lessR A B) (by rw [lessR_keys]; exact nA) (by unfold lessR; rw [List.length_map]; exact hA) (show 1 ≤ n + 1 by omega)]
      rfl
    · intro p hp
      cases e : lk B p.1 <;> simp [look_dA, lk_mem nA hp, e, fits, big]
    · omega
theorem r_lack {A B : List (Str × Int)} (nA : (A.map (·.1)).Nodup) (hA : A.length < 64) (hn : 2 ≤ n) : callN prg wf n "lack" [dA A, dA B] h = .ok (dA (ordA (lessR A B)), true, h) := by
  obtain ⟨n, rfl⟩ := Nat.exists_eq_add_of_le' hn
  rw [show n + 2 = (n + 1) + 1 from rfl, c_lack]
  simp [b_lack, runF, Mi.start, ex, evR, dA, kv, row_keys]
  rw [lcGo_map (q := fun p : Str × Int => D.tup [.str p.1, .int (p.2 - (lk B p.1).getD 0)])]
  · simp [less_dict nA, r_in_order (A := lessR A B) (by rw [lessR_keys]; exact nA) (by unfold lessR; rw [List.length_map]; exact hA) (show 1 ≤ n + 1 by omega)]
    rfl
  · intro p hp
    cases e : lk B p.1 <;> simp [look_dA, lk_mem nA hp, e, fits, big]
  · omega
theorem ne_empty {A : List (Str × Int)} (nA : (A.map (·.1)).Nodup) : cmp .ne (dA A) (.dct []) = .ok (!A.isEmpty) := by
  have nd : ((row D.int A).map (·.1)).Nodup := by
    unfold row
    rw [List.map_map]
    unfold List.Nodup at nA ⊢
    rw [List.pairwise_map] at nA ⊢
    exact nA.imp fun hne q => hne (Sum.inr.inj q)
  cases A with
  | nil => simp [cmp, eqB, dA, kv, row, eqOK, eqKey, guard', D.eqv, eqvd]
  | cons p A => simp [cmp, eqB, dA, kv, eqOK, guard', D.eqv, row_len, nd]
def minQ (A B : List (Str × Int)) : List Int := A.map fun p => ((lk B p.1).getD 0).fdiv p.2
theorem r_times {A B : List (Str × Int)} (nA : (A.map (·.1)).Nodup) (hA : A.length < 64) (hp : ∀ p ∈ A, 0 < p.2 ∧ p.2 < 1073741824) (hn : 1 ≤ n) :
    callN prg wf n "times_in" [dA A, dA B] h = .ok (match minQ A B with | [] => (.non, false, h) | q :: r => (.int (minI q r), true, h)) := by
  obtain ⟨n, rfl⟩ := Nat.exists_eq_add_of_le' hn
  rw [c_times_in]
  simp [b_times_in, runF, Mi.start, ex, evR, rows?, merge, guard', ne_empty nA]
  cases A with
  | nil => simp [minQ]
  | cons p A =>
    simp [dA, kv, row_keys]
    rw [show D.str p.1 :: A.map (fun p => D.str p.1) = (p :: A).map (fun p => D.str p.1) from rfl, lcGo_map (q := fun p : Str × Int => D.int (((lk B p.1).getD 0).fdiv p.2))]
    · have : Mi.bi .min [.lst ((p :: A).map fun p : Str × Int => D.int (((lk B p.1).getD 0).fdiv p.2))] = .ok (.int (minI (((lk B p.1).getD 0).fdiv p.2) (minQ A B))) := by
        have e : ((p :: A).map fun p : Str × Int => D.int (((lk B p.1).getD 0).fdiv p.2)) = (minQ (p :: A) B).map D.int := by unfold minQ; rw [List.map_map]; rfl
        rw [e]
        unfold Mi.bi
        simp only [ints_map]
        rfl
      rw [List.map_cons] at this
      simp [this, minQ]
    · intro q hq
      obtain ⟨g1, g2⟩ := hp q hq
      cases e : lk B q.1 <;> simp [look_dA, lk_mem nA hq, e, bin_fdiv (show q.2 ≠ 0 by omega) (show q.2.natAbs < 1073741824 by omega)]
    · simp at hA ⊢; omega
end K4

set_option Elab.async false
set_option linter.all false
set_option maxRecDepth 100000
set_option maxHeartbeats 8000000
/-! k04: numbers. -/
namespace K4
open PySem Mi
variable {n wf : Nat} {h : AH}
theorem wh_gcd {cf : Calls} : ∀ (fuel a b : Nat), b < fuel → whGo (fun s => (ev cf s.ρ (.cmp .ne (.pk 1) (.int 0)) s.h).bind (boolK fun k h => .ok (k, ⟨s.ρ, h⟩))) (exs cf wf (.cons (.par 0 1 (.var 1) (.bin .mod (.pk 0) (.pk 1))) .nil)) fuel ⟨[some (.int a, false), some (.int b, false)], h⟩ =
    .ok (.next, ⟨[some (.int (Nat.gcd b a), false), some (.int 0, false)], h⟩)
  | 0, _, b, hb => by omega
  | fuel + 1, a, b, hb => by
    unfold whGo
    by_cases e : b = 0
    · subst e
      simp
    · have hm : Int.fmod (a : Int) (b : Int) = ((a % b : Nat) : Int) := by
        rw [Int.fmod_eq_emod_of_nonneg _ (by omega)]
        rfl
      have ih := wh_gcd (cf := cf) fuel b (a % b) (by have := Nat.mod_lt a (Nat.pos_of_ne_zero e); omega)
      simp [ex, bin_mod (show (b : Int) ≠ 0 by omega), hm, show (b : Int) ≠ 0 by omega]
      simp only [ev_cmp, ev_pk, ev_int] at ih
      simp at ih
      rw [ih, Nat.gcd_rec b a, if_neg e]
/-- the greatest that divides both, one for nothing -/
def dv (a b : Nat) : Nat := if Nat.gcd b a = 0 then 1 else Nat.gcd b a
theorem r_divisor {a b : Nat} (hb : b < wf) (hn : 1 ≤ n) : callN prg wf n "divisor" [.int a, .int b] h = .ok (.int (dv a b), false, h) := by
  obtain ⟨n, rfl⟩ := Nat.exists_eq_add_of_le' hn
  rw [c_divisor]
  simp only [b_divisor, runF, Mi.start]
  simp only [exs_cons, ex]
  have := wh_gcd (h := h) (wf := wf) (cf := callN prg wf n) wf a b hb
  simp only [ev_cmp, ev_pk, ev_int, Res.bind_ok] at this
  have e0 : dv a b = if Nat.gcd b a = 0 then 1 else Nat.gcd b a := rfl
  rw [e0]
  generalize Nat.gcd b a = g at this ⊢
  simp [this, evR]
  split <;> first | rfl | simp
theorem iabs (i : Int) : (if i < 0 then -i else i) = (i.natAbs : Int) := by split <;> omega
theorem gcd_good {a b : Nat} (hb : 0 < b) : 0 < Nat.gcd b a ∧ Nat.gcd b a ≤ b := ⟨Nat.gcd_pos_of_pos_left a hb, Nat.gcd_le_left a hb⟩
theorem fraction_at {a b g : Int} (d : callN prg wf (n + 1) "divisor" [.int a, .int b] h = .ok (.int g, false, h)) (na : ¬ a < 0) (nb : 0 < b) (g0 : g ≠ 0) (g1 : g.natAbs < 1073741824) :
    callN prg wf (n + 2) "fraction" [.int a, .int b] h = .ok (.tup [.int (a.fdiv g), .int (b.fdiv g)], false, h) := by
  rw [show n + 2 = (n + 1) + 1 from rfl, c_fraction]
  have m1 : Mi.bin .mul (.int g) (.int 1) = .ok (.int (g * 1)) := bin_mul (.inr (by omega))
  have nb2 : ¬ b < 0 := by omega
  simp [b_fraction, runF, Mi.start, ex, evR, na, nb2, nb, d, m1, bin_fdiv g0 g1, fits, big]
theorem fdiv_nat (c g : Nat) : Int.fdiv (c : Int) (g : Int) = ((c / g : Nat) : Int) := by
  rw [Int.fdiv_eq_ediv_of_nonneg _ (Int.natCast_nonneg g)]
  rfl
theorem r_fraction {a b : Nat} (hb : 0 < b) (hb2 : b < 1073741824) (hw : b < wf) : callN prg wf (n + 2) "fraction" [.int a, .int b] h = .ok (.tup [.int ((a / Nat.gcd b a : Nat) : Int), .int ((b / Nat.gcd b a : Nat) : Int)], false, h) := by
  have d := r_divisor (a := a) (b := b) (h := h) (n := n + 1) hw (Nat.le_add_left 1 n)
  obtain ⟨g0, g1⟩ := gcd_good (a := a) hb
  have e1 : dv a b = Nat.gcd b a := if_neg (Nat.ne_of_gt g0)
  rw [e1] at d
  generalize Nat.gcd b a = g at d g0 g1 ⊢
  have := fraction_at d (by omega) (by omega) (by omega) (by omega)
  rw [this, fdiv_nat, fdiv_nat]
theorem r_mean {l : List Int} {a : Nat} (hs : l.sum = a) (h0 : 0 < l.length) (h1 : l.length < 64) (hw : 64 ≤ wf) : callN prg wf (n + 3) "mean" [.lst (l.map D.int)] h = .ok (.tup [.int ((a / Nat.gcd l.length a : Nat) : Int), .int ((l.length / Nat.gcd l.length a : Nat) : Int)], false, h) := by
  rw [show n + 3 = (n + 2) + 1 from rfl, c_mean]
  have rfr := r_fraction (n := n) (wf := wf) (h := h) (a := a) (b := l.length) h0 (by omega) (by omega)
  simp [b_mean, runF, Mi.start, ex, evR, hs]
  rw [rfr]
  simp
theorem r_spread {l : List Int} {x : Int} {r : List Int} (e : l = x :: r) : callN prg wf (n + 1) "spread_of" [.lst (l.map D.int)] h = .ok (.int (maxI x r - minI x r), true, h) := by
  subst e
  rw [c_spread_of]
  have e1 : Mi.bi .max [.lst ((x :: r).map D.int)] = .ok (.int (maxI x r)) := by
    unfold Mi.bi
    simp only [ints_map]
  have e2 : Mi.bi .min [.lst ((x :: r).map D.int)] = .ok (.int (minI x r)) := by
    unfold Mi.bi
    simp only [ints_map]
  rw [List.map_cons] at e1 e2
  simp [b_spread_of, runF, Mi.start, ex, evR, e1, e2]
theorem bi_sorted_ints {l : List Int} (hl : l.length < 64) : Mi.bi .sorted [.lst (l.map D.int)] = .ok (.lst ((sortI l).map D.int)) := by
  unfold Mi.bi sorted?
  simp only [ints_map]
  simp [hl]
theorem sortI_len {l : List Int} : (sortI l).length = l.length := (sortBy_perm l).length_eq
theorem atI_map {α β : Type} (f : α → β) (l : List α) (i : Int) : L2.atI (l.map f) i = (L2.atI l i).map f := by
  unfold L2.atI
  simp
  rfl
theorem atI_nat {α : Type} {l : List α} {j : Nat} : L2.atI l (j : Int) = l[j]? := by
  unfold L2.atI L2.ixN
  rw [if_pos (Int.natCast_nonneg j)]
  by_cases e : j < l.length
  · rw [if_pos (by omega)]
    rfl
  · rw [if_neg (by omega), List.getElem?_eq_none (by omega)]
    rfl
theorem r_middle {l : List Int} (h0 : 0 < l.length) (hl : l.length < 64) : callN prg wf (n + 1) "middle" [.lst (l.map D.int)] h = .ok (.int ((sortI l)[(l.length - 1) / 2]'(by rw [sortI_len]; omega)), false, h) := by
  rw [c_middle]
  have e1 : Mi.bin .fdiv (.int ((l.length : Int) - 1)) (.int 2) = .ok (.int (((l.length - 1) / 2 : Nat) : Int)) := by
    rw [bin_fdiv (by decide) (by decide), show (l.length : Int) - 1 = ((l.length - 1 : Nat) : Int) by omega, show (2 : Int) = ((2 : Nat) : Int) from rfl, fdiv_nat]
  have e2 : L2.atI ((sortI l).map D.int) (((l.length - 1) / 2 : Nat) : Int) = some (.int ((sortI l)[(l.length - 1) / 2]'(by rw [sortI_len]; omega))) := by
    rw [atI_nat, List.getElem?_map, List.getElem?_eq_getElem (by rw [sortI_len]; omega)]
    rfl
  generalize hz : (((l.length - 1) / 2 : Nat) : Int) = z at e1 e2
  simp [b_middle, runF, Mi.start, ex, evR, bi_sorted_ints hl, e1, e2]
/-- the first place from which on so great a part lies behind -/
def partAt (u w m : Nat) : Option Nat := (List.range m).find? fun k => decide (u * m ≤ (k + 1) * w)
theorem rng_int {j : Int} (h1 : -4611686018427387904 ≤ j) (h2 : j < 4611686018427387904) : rng [.int j] = .ok (rangeL 0 j.toNat) := by
  have : (decide (-(2 ^ 62) ≤ j ∧ j < 2 ^ 62)) = true := decide_eq_true ⟨h1, h2⟩
  unfold rng
  simp only [this, guard_t]
theorem rng_nat {m : Nat} {j : Int} (hj : (m : Int) = j) (hm : j < 1000) (h0 : 0 ≤ j) : rng [.int j] = .ok ((List.range m).map fun k : Nat => D.int (k : Int)) := by
  have e : j.toNat = m := by omega
  rw [rng_int (by omega) (by omega), e]
  unfold rangeL
  simp
end K4

set_option Elab.async false
set_option linter.all false
set_option maxRecDepth 100000
set_option maxHeartbeats 8000000
/-! k04: at_part, evenness, draws. -/
namespace K4
open PySem Mi
variable {n wf : Nat} {h : AH}
theorem at_c {cf : Calls} {ρ : Rho} {kk u w m : Int} {S : List D} (p3 : pAt ρ 3 h = .ok (.int kk, false, h)) (p1 : pAt ρ 1 h = .ok (.tup [.int u, .int w], false, h)) (p2 : pAt ρ 2 h = .ok (.lst S, false, h)) (hS : (S.length : Int) = m)
    (m1 : Mi.bin .mul (.int (kk + 1)) (.int w) = .ok (.int ((kk + 1) * w))) (m2 : Mi.bin .mul (.int u) (.int m) = .ok (.int (u * m))) :
    ev cf ρ (.cmp .ge (.bin .mul (.bin .add (.pk 3) (.int 1)) (.idx (.pk 1) (.int 1))) (.bin .mul (.idx (.pk 1) (.int 0)) (.bi .len (.cons (.pk 2) .nil)))) h = .ok (.bl (decide (u * m ≤ (kk + 1) * w)), false, h) := by
  have i1 : L2.atI [D.int u, D.int w] 1 = some (.int w) := rfl
  have i0 : L2.atI [D.int u, D.int w] 0 = some (.int u) := rfl
  simp only [ev_cmp, ev_bin, ev_pk, ev_idx, ev_int, ev_bi, evs_cons, evs_nil, p1, p2, p3, Res.bind_ok, add_int, deref_tup, idx_tup, i1, i0, Res.of_some, m1, m2, bi_len_lst, hS, cmp_ge]
theorem r_at_part {l : List Int} {u w m : Int} {k : Nat} (hl : l.length < 64) (hm : (l.length : Int) = m) (hu : 0 ≤ u ∧ u < 1000) (hw : 0 ≤ w ∧ w < 1000) (hk : k < l.length) (h1 : ∀ j : Nat, j < k → ¬ u * m ≤ ((j : Int) + 1) * w) (h2 : u * m ≤ ((k : Int) + 1) * w) :
    callN prg wf (n + 1) "at_part" [.lst (l.map D.int), .tup [.int u, .int w]] h = .ok (.int ((sortI l)[k]'(by rw [sortI_len]; exact hk)), false, h) := by
  rw [c_at_part]
  refine runF_ret rfl ?_
  have H0 : Live 4 (Mi.start ⟨2, 4, b_at_part⟩ [.lst (l.map D.int), .tup [.int u, .int w]]) [(0, some (.lst (l.map D.int), false)), (1, some (.tup [.int u, .int w], false))] := Live.of rfl (by simp [Mi.start])
  generalize Mi.start ⟨2, 4, b_at_part⟩ [.lst (l.map D.int), .tup [.int u, .int w]] = ρ0 at H0 ⊢
  show ∃ s', exs _ _ b_at_part _ = _ ∧ _
  unfold b_at_part
  have e0 : ev (callN prg wf n) ρ0 (.bi .sorted (.cons (.pk 0) .nil)) h = .ok (.lst ((sortI l).map D.int), true, h) := by
    simp only [ev_bi, evs_cons, evs_nil, ev_pk, H0.p 0 rfl, Res.bind_ok, bi_sorted_ints hl]
  obtain ⟨ρ1, e1, H1⟩ := H0.asg (wf := wf) 2 e0
  rw [e1]
  have hSl : (((sortI l).map D.int).length : Int) = m := by rw [List.length_map, sortI_len]; exact hm
  have src : evi (callN prg wf n) ρ1 (.range (.cons (.bi .len (.cons (.pk 2) .nil)) .nil)) h = .ok ((List.range l.length).map fun k : Nat => D.int (k : Int), h) := by
    simp only [evi_range, evs_cons, evs_nil, ev_bi, ev_pk, H1.p 2 rfl, Res.bind_ok, bi_len_lst, hSl]
    rw [rng_nat (m := l.length) (j := m) hm (by omega) (by omega)]
    rfl
  refine exs_fr_ret src (fun _ s => s.h = h ∧ Live 4 s.ρ [(2, some (.lst ((sortI l).map D.int), true)), (1, some (.tup [.int u, .int w], false))]) (fun _ s hs => by rw [hs.2.1]; decide) ⟨rfl, H1.sub ⟨rfl, rfl, trivial⟩⟩ k (fun j x hj hx s hs => ?_) ⟨_, by rw [List.getElem?_map, List.getElem?_range hk]; rfl, fun s hs => ?_⟩
  · obtain ⟨rfl, H⟩ := hs
    rw [List.getElem?_map] at hx
    have hx : x = D.int (j : Int) := by
      rw [List.getElem?_range (by omega)] at hx
      exact (Option.some.inj hx).symm
    subst hx
    have H := H.set (i := 3) (x := some (D.int (j : Int), false)) (by decide)
    refine ⟨⟨s.ρ.set 3 (some (D.int (j : Int), false)), s.h⟩, ?_, rfl, H.sub ⟨rfl, rfl, trivial⟩⟩
    rw [exs_iff (at_c (H.p 3 rfl) (H.p 1 rfl) (H.p 2 rfl) hSl (bin_mul (.inr (by omega))) (bin_mul (.inr (by omega)))), decide_eq_false (h1 j hj)]
    simp
  · obtain ⟨rfl, H⟩ := hs
    have H := H.set (i := 3) (x := some (D.int (k : Int), false)) (by decide)
    refine ⟨⟨s.ρ.set 3 (some (D.int (k : Int), false)), s.h⟩, ?_, rfl⟩
    rw [exs_iff (at_c (H.p 3 rfl) (H.p 1 rfl) (H.p 2 rfl) hSl (bin_mul (.inr (by omega))) (bin_mul (.inr (by omega)))), decide_eq_true h2]
    have gk : L2.atI ((sortI l).map D.int) (k : Int) = some (.int ((sortI l)[k]'(by rw [sortI_len]; exact hk))) := by
      rw [atI_nat, List.getElem?_map, List.getElem?_eq_getElem (by rw [sortI_len]; exact hk)]
      rfl
    rw [if_pos rfl, exs_ret (d := .int ((sortI l)[k]'(by rw [sortI_len]; exact hk))) (o := false) (h' := s.h)]
    · rfl
    · rw [evR_of (by intro i; simp)]
      simp only [ev_idx, ev_pk, H.p 2 rfl, H.p 3 rfl, Res.bind_ok, deref_lst, idx_lst, gk, Res.of_some]
end K4

set_option Elab.async false
set_option linter.all false
set_option maxRecDepth 100000
set_option maxHeartbeats 8000000
/-! k04: evenness, draws. -/
namespace K4
open PySem Mi
variable {n wf : Nat} {h : AH}
theorem bin_mulR {i j : Int} (h : j.natAbs < 1000000000) : Mi.bin .mul (.int i) (.int j) = .ok (.int (i * j)) := bin_mul (.inr (by omega))
theorem ten18 : Mi.bin .pow (.int 10) (.int 18) = .ok (.int 1000000000000000000) := by
  unfold Mi.bin
  simp [guard']
theorem r_evenness {l : List Int} {a q : Nat} (hs : l.sum = a) (hq : (l.map fun x => x * x).sum = q) (hx : ∀ x ∈ l, 0 ≤ x ∧ x < 1000) (h0 : 0 < l.length) (h1 : l.length < 64) (ha : a < 100000) (hq1 : q < 100000) (hw : l.length * q < wf) (hw2 : wf < 1000000) : callN prg wf (n + 3) "evenness" [.lst (l.map D.int)] h =
    .ok (if q = 0 then .tup [.int 1, .int 1] else .tup [.int ((a * a / Nat.gcd (l.length * q) (a * a) : Nat) : Int), .int ((l.length * q / Nat.gcd (l.length * q) (a * a) : Nat) : Int)], false, h) := by
  rw [show n + 3 = (n + 2) + 1 from rfl, c_evenness]
  refine runF_ret rfl ?_
  have H0 : Live 3 (Mi.start ⟨1, 3, b_evenness⟩ [.lst (l.map D.int)]) [(0, some (.lst (l.map D.int), false))] := Live.of rfl (by simp [Mi.start])
  generalize Mi.start ⟨1, 3, b_evenness⟩ [.lst (l.map D.int)] = ρ0 at H0 ⊢
  show ∃ s', exs _ _ b_evenness _ = _ ∧ _
  unfold b_evenness
  have e0 : ev (callN prg wf (n + 2)) ρ0 (.bi .sum (.cons (.lc [2] (.name 2) (.over (.var 0)) (.bl true) (.bin .mul (.pk 2) (.pk 2))) .nil)) h = .ok (.int q, true, h) := by
    rw [ev_bi, evs_cons, lc_map D.int (fun x => .int (x * x)) l (by simp only [evi_over, ev_var, H0.v 0 rfl, Res.bind_ok, items_lst]) (by rw [H0.1]; decide) (fun x hx' => ⟨true, ?_⟩) (by omega)]
    · rw [show (l.map fun x => D.int (x * x)) = (l.map fun x => x * x).map D.int by rw [List.map_map]; rfl]
      simp only [Res.bind_ok, evs_nil, bi_sum, hq]
    · have H1 := H0.set (i := 2) (x := some (D.int x, false)) (by decide)
      have := hx x hx'
      simp only [ev_bin, ev_pk, H1.p 2 rfl, Res.bind_ok, bin_mulR (i := x) (j := x) (by omega)]
  obtain ⟨ρ1, e1, H1⟩ := H0.asg (wf := wf) 1 e0
  rw [e1]
  have e2 : ev (callN prg wf (n + 2)) ρ1 (.ite (.cmp .gt (.pk 1) (.int 0)) (.call "fraction" (.cons (.bin .mul (.bi .sum (.cons (.pk 0) .nil)) (.bi .sum (.cons (.pk 0) .nil))) (.cons (.bin .mul (.bi .len (.cons (.pk 0) .nil)) (.pk 1)) .nil))) (.tup (.cons (.int 1) (.cons (.int 1) .nil)))) h = .ok (if q = 0 then .tup [.int 1, .int 1] else .tup [.int ((a * a / Nat.gcd (l.length * q) (a * a) : Nat) : Int), .int ((l.length * q / Nat.gcd (l.length * q) (a * a) : Nat) : Int)], false, h) := by
    simp only [ev_ite, ev_cmp, ev_pk, H1.p 1 rfl, Res.bind_ok, ev_int, cmp_gt, boolK_bl]
    by_cases z : q = 0
    · subst z
      simp [fits, big]
    · have m1 : Mi.bin .mul (.int (a : Int)) (.int (a : Int)) = .ok (.int ((a * a : Nat) : Int)) := by rw [bin_mulR (by omega)]; simp
      have m2 : Mi.bin .mul (.int ((l.map D.int).length : Int)) (.int (q : Int)) = .ok (.int ((l.length * q : Nat) : Int)) := by rw [bin_mulR (by omega)]; simp
      rw [if_pos (decide_eq_true (show (0 : Int) < (q : Int) by omega)), if_neg z]
      simp only [ev_call, evs_cons, evs_nil, ev_bin, ev_bi, ev_pk, H1.p 0 rfl, H1.p 1 rfl, bo, bi_sum, hs, m1, bi_len_lst, m2]
      exact r_fraction (n := n) (Nat.mul_pos h0 (Nat.pos_of_ne_zero z)) (by omega) hw
  exact ⟨_, exs_ret (by rw [evR_of (by intro i; simp)]; exact e2), rfl⟩
/-- the store: the row of draws, and how far it is used -/
def HW (l : List Int) (k : Nat) : AH := [.box (.dct [(.inr "draws", .lst (l.map D.int)), (.inr "at", .int k)])]
theorem da : (("draws" : Str) = "at") = False := eq_false (by decide)
theorem ad : (("at" : Str) = "draws") = False := eq_false (by decide)
theorem lkd {a b : D} : look [((Sum.inr "draws" : L2.Key), a), (.inr "at", b)] (.inr "draws") = some a := by simp [look]
theorem lka {a b : D} : look [((Sum.inr "draws" : L2.Key), a), (.inr "at", b)] (.inr "at") = some b := by simp [look, da]
theorem lkp {a b c : D} : put [((Sum.inr "draws" : L2.Key), a), (.inr "at", b)] (.inr "at") c = [((Sum.inr "draws" : L2.Key), a), (.inr "at", c)] := by simp [put, da]
theorem next_body {l : List Int} {k : Nat} {m : Int} (hm : 0 < m) {ρ0 : Rho} (H0 : Live 2 ρ0 [(0, some (.ref 0, false)), (1, some (.int m, false))]) : ∃ r fr s', exs (callN prg wf n) wf b__law_next ⟨ρ0, HW l k⟩ = .ok (.ret (.int r) fr, s') ∧ s'.h = HW l (k + 1) ∧ 0 ≤ r ∧ r < m := by
  have pl : ∀ j : Int, place ρ0 [.box (.dct [(.inr "draws", .lst (l.map D.int)), (.inr "at", .int j)])] 0 = some (false, 0, .dct [(.inr "draws", .lst (l.map D.int)), (.inr "at", .int j)]) := fun j => by
    unfold place
    rw [H0.at (i := 0) rfl]
    rfl
  have hd : held ρ0 0 = true := by
    unfold held
    rw [H0.at (i := 0) rfl]
  have e1 : ex (callN prg wf n) wf (.augs 0 (.str "at") .add (.int 1)) ⟨ρ0, HW l k⟩ = .ok (.next, ⟨ρ0, HW l (k + 1)⟩) := by
    unfold ex HW
    simp only [hd, guard_t, ev_str, bo, pl, getK, D.key?, lka, osm, ev_int, ipop, Mi.putAt, lkp]
    rfl
  have dr : deref (HW l (k + 1)) (.ref 0) = .dct [(.inr "draws", .lst (l.map D.int)), (.inr "at", .int ((k + 1 : Nat) : Int))] := rfl
  have q1 : ev (callN prg wf n) ρ0 (.idx (.pk 0) (.str "at")) (HW l (k + 1)) = .ok (.int ((k + 1 : Nat) : Int), false, HW l (k + 1)) := by
    simp only [ev_idx, ev_pk, ev_str, H0.p 0 rfl, bo, dr, idx_dct, lka, osm]
  have q2 : ev (callN prg wf n) ρ0 (.idx (.pk 0) (.str "draws")) (HW l (k + 1)) = .ok (.lst (l.map D.int), false, HW l (k + 1)) := by
    simp only [ev_idx, ev_pk, ev_str, H0.p 0 rfl, bo, dr, idx_dct, lkd, osm]
  have q3 : ev (callN prg wf n) ρ0 (.cmp .gt (.idx (.pk 0) (.str "at")) (.bi .len (.cons (.idx (.pk 0) (.str "draws")) .nil))) (HW l (k + 1)) = .ok (.bl (decide ((l.length : Int) < ((k + 1 : Nat) : Int))), false, HW l (k + 1)) := by
    simp only [ev_cmp, q1, ev_bi, evs_cons, evs_nil, q2, bo, bi_len_lst, cmp_gt, List.length_map]
  by_cases z : l.length < k + 1
  · refine ⟨0, false, ⟨ρ0, HW l (k + 1)⟩, ?_, rfl, by omega, hm⟩
    unfold b__law_next
    rw [exs_step e1, exs_iff q3, decide_eq_true (show (l.length : Int) < ((k + 1 : Nat) : Int) by omega), if_pos rfl, exs_ret (d := .int 0) (o := false) (h' := HW l (k + 1)) (by rw [evR_of (by intro i; simp)]; exact ev_int)]
    rfl
  · have hk : k < l.length := by omega
    refine ⟨l[k].fmod m, true, ⟨ρ0, HW l (k + 1)⟩, ?_, rfl, Int.fmod_nonneg_of_pos _ hm, Int.fmod_lt_of_pos _ hm⟩
    unfold b__law_next
    rw [exs_step e1, exs_iff q3, decide_eq_false (show ¬ (l.length : Int) < ((k + 1 : Nat) : Int) by omega), if_neg (by simp), exs_nil, bo]
    have e1 : ((k + 1 : Nat) : Int) - 1 = (k : Int) := by omega
    have gk : L2.atI (l.map D.int) (k : Int) = some (.int l[k]) := by
      rw [atI_nat, List.getElem?_map, List.getElem?_eq_getElem hk]
      rfl
    have q4 : ev (callN prg wf n) ρ0 (.bin .mod (.bi .int (.cons (.idx (.idx (.pk 0) (.str "draws")) (.bin .sub (.idx (.pk 0) (.str "at")) (.int 1))) .nil)) (.pk 1)) (HW l (k + 1)) = .ok (.int (l[k].fmod m), true, HW l (k + 1)) := by
      rw [ev_bin, ev_bi, evs_cons, ev_idx, q2]
      simp only [ev_bin, q1, ev_int, bo, sub_int, e1, deref_lst, idx_lst, gk, osm, evs_nil, bi_int, ev_pk, H0.p 1 rfl, bin_mod (show m ≠ 0 by omega)]
    exact exs_ret (by rw [evR_of (by intro i; simp)]; exact q4)
theorem next_at {l : List Int} {k : Nat} {m : Int} (hm : 0 < m) : ∃ r fr, callN prg wf (n + 1) "_law_next" [.ref 0, .int m] (HW l k) = .ok (.int r, fr, HW l (k + 1)) ∧ 0 ≤ r ∧ r < m := by
  obtain ⟨r, fr, s', e, q, b⟩ := next_body (wf := wf) (n := n) (l := l) (k := k) hm (ρ0 := Mi.start ⟨2, 2, b__law_next⟩ [.ref 0, .int m]) (Live.of rfl (by simp [Mi.start]))
  exact ⟨r, fr, by rw [c__law_next]; exact runF_ret rfl ⟨s', e, q⟩, b⟩
/-- the loop over the draws of a great number -/
def DrawsI (ns : List Int) (h : AH) (c : Nat) (i : Nat) (s : Mi.St) : Prop := ∃ (l : List Int) (mx : Int), s.h = h ∧ Live 8 s.ρ [(2, some (.lst (l.map D.int), true)), (3, some (.int mx, false)), (0, some (.scr ns, false)), (1, some (.int 500, false))] ∧ l.length ≤ c * i
end K4

set_option Elab.async false
set_option linter.all false
set_option maxRecDepth 100000
set_option maxHeartbeats 8000000
/-! k04: the row of draws. -/
namespace K4
open PySem Mi
variable {n wf : Nat} {h : AH}
theorem app_at {cf : Calls} {ρ : Rho} {L : List (Nat × Sl)} {m i : Nat} {l : List Int} {e : E} {r : Ss} {x : Int} {b : Bool} (H : Live m ρ L) (hl : L.lookup i = some (some (.lst (l.map D.int), true))) (he : ev cf ρ e h = .ok (.int x, b, h)) (hi : i < m) (hk : l.length < 16777216) :
    ∃ ρ', exs cf wf (.cons (.app i e) r) ⟨ρ, h⟩ = exs cf wf r ⟨ρ', h⟩ ∧ Live m ρ' ((i, some (.lst ((l ++ [x]).map D.int), true)) :: L) := by
  refine ⟨ρ.set i (some (.lst ((l ++ [x]).map D.int), true)), exs_step ?_, H.set hi⟩
  unfold ex
  rw [H.at hl]
  simp only [he, bo]
  rw [fits_ok (by rw [List.length_map]; exact hk), guard_t, List.map_append]
  rfl
def b_small : Ss := (.cons (.iff (.cmp .gt (.pk 6) (.int 0)) (.cons (.app 2 (.bin .mod (.bi .int (.cons (.pk 6) .nil)) (.int 997))) (.cons (.asg (.name 6) (.bin .fdiv (.pk 6) (.int 997))) .nil)) .nil) .nil)
theorem small_ok {cf : Calls} {ρ : Rho} {l : List Int} {rest mx : Int} {S0 S1 : Sl} (H : Live 8 ρ [(6, some (.int rest, false)), (2, some (.lst (l.map D.int), true)), (3, some (.int mx, false)), (0, S0), (1, S1)]) (hk : l.length < 16777216) :
    ∃ ρ' l' rest', exs cf wf b_small ⟨ρ, h⟩ = .ok (.next, ⟨ρ', h⟩) ∧ l'.length ≤ l.length + 1 ∧ Live 8 ρ' [(6, some (.int rest', false)), (2, some (.lst (List.map D.int l'), true)), (3, some (.int mx, false)), (0, S0), (1, S1)] := by
  unfold b_small
  have c : ev cf ρ (.cmp .gt (.pk 6) (.int 0)) h = .ok (.bl (decide (0 < rest)), false, h) := by
    simp only [ev_cmp, ev_pk, H.p 6 rfl, bo, ev_int, cmp_gt]
  rw [exs_iff c]
  by_cases z : 0 < rest
  · rw [if_pos (decide_eq_true z)]
    obtain ⟨ρ1, e1, H1⟩ := app_at (h := h) (wf := wf) (cf := cf) (i := 2) (e := .bin .mod (.bi .int (.cons (.pk 6) .nil)) (.int 997)) (r := (.cons (.asg (.name 6) (.bin .fdiv (.pk 6) (.int 997))) .nil)) (x := rest.fmod 997) (b := true) H rfl (by simp only [ev_bin, ev_bi, evs_cons, evs_nil, ev_pk, H.p 6 rfl, bo, bi_int, ev_int, bin_mod (show (997 : Int) ≠ 0 by decide)]) (by decide) hk
    obtain ⟨ρ2, e2, H2⟩ := H1.asg (cf := cf) (h := h) (h' := h) (wf := wf) (r := .nil) (e := .bin .fdiv (.pk 6) (.int 997)) (d := .int (rest.fdiv 997)) (b := true) 6 (by simp only [ev_bin, ev_pk, H1.p 6 rfl, bo, ev_int, bin_fdiv (show (997 : Int) ≠ 0 by decide) (show (997 : Int).natAbs < 1073741824 by decide)])
    rw [e1, e2]
    exact ⟨ρ2, l ++ [rest.fmod 997], rest.fdiv 997, by simp only [exs_nil, bo], by simp, H2.sub ⟨rfl, rfl, rfl, rfl, rfl, trivial⟩⟩
  · rw [if_neg (by simp [z])]
    exact ⟨ρ, l, rest, by simp only [exs_nil, bo], by omega, H⟩
def b_cell : Ss := (.cons (.asg (.name 5) (.bi .abs (.cons (.bi .int (.cons (.idx (.pk 0) (.pk 4)) .nil)) .nil))) (.cons (.asg (.name 3) (.bin .mod (.bi .int (.cons (.bin .add (.bin .add (.bin .mul (.pk 3) (.int 48271)) (.bin .mod (.pk 5) (.int 1000003))) (.pk 4)) .nil)) (.int 65537))) (.cons (.asg (.name 6) (.int 0)) (.cons (.iff (.cmp .ge (.pk 5) (.bin .pow (.int 10) (.int 18))) (.cons (.asg (.name 6) (.var 5)) .nil) (.cons (.app 2 (.bin .mod (.bi .int (.cons (.pk 5) .nil)) (.int 997))) (.cons (.app 2 (.bin .mod (.bin .mod (.bi .int (.cons (.bin .add (.bin .mul (.pk 3) (.int 69621)) (.int 5)) .nil)) (.int 65521)) (.int 997))) .nil))) (.cons (.fr (.name 7) (.range (.cons (.int 60) .nil)) b_small) .nil)))))
theorem b_draws_eq : b__law_draws = (.cons (.asg (.name 2) (.lst .nil)) (.cons (.asg (.name 3) (.int 7)) (.cons (.fr (.name 4) (.range (.cons (.bi .len (.cons (.pk 0) .nil)) .nil)) b_cell) (.cons (.fr (.name 4) (.range (.cons (.var 1) .nil)) (.cons (.asg (.name 3) (.bin .mod (.bi .int (.cons (.bin .add (.bin .add (.bin .mul (.pk 3) (.int 16807)) (.pk 4)) (.int 1)) .nil)) (.int 65537))) (.cons (.app 2 (.bin .mod (.bi .int (.cons (.pk 3) .nil)) (.int 997))) .nil))) (.cons (.ret (.cut (.pk 2) .non (.pk 1))) .nil))))) := rfl
theorem cell_ok {cf : Calls} {ρ : Rho} {l ns : List Int} {mx : Int} {k : Nat} {S1 : Sl} (H : Live 8 ρ [(4, some (.int k, false)), (2, some (.lst (l.map D.int), true)), (3, some (.int mx, false)), (0, some (.scr ns, false)), (1, S1)]) (hn : k < ns.length) (hk : l.length + 62 < 16777216) :
    ∃ ρ' l' mx', exs cf wf b_cell ⟨ρ, h⟩ = .ok (.next, ⟨ρ', h⟩) ∧ l'.length ≤ l.length + 62 ∧ Live 8 ρ' [(2, some (.lst (List.map D.int l'), true)), (3, some (.int mx', false)), (0, some (.scr ns, false)), (1, S1)] := by
  unfold b_cell
  have gk : L2.atI ns (k : Int) = some ns[k] := by rw [atI_nat, List.getElem?_eq_getElem hn]
  have gi : idx (.scr ns) (.int (k : Int)) = .ok (.int ns[k]) := by
    unfold idx
    simp only [gk]
    rfl
  obtain ⟨ρ1, e1, H1⟩ := H.asg (cf := cf) (h := h) (h' := h) (wf := wf) (e := .bi .abs (.cons (.bi .int (.cons (.idx (.pk 0) (.pk 4)) .nil)) .nil)) (d := .int (if ns[k] < 0 then -ns[k] else ns[k])) (b := true) 5 (by simp only [ev_bi, evs_cons, evs_nil, ev_idx, ev_pk, H.p 0 rfl, H.p 4 rfl, bo, deref_scr, gi, bi_int, bi_abs])
  rw [e1]
  generalize (if ns[k] < 0 then -ns[k] else ns[k]) = c at H1
  have m1 : ∀ mx : Int, Mi.bin .mul (.int mx) (.int 48271) = .ok (.int (mx * 48271)) := fun mx => bin_mulR (by decide)
  have m2 : ∀ mx : Int, Mi.bin .mul (.int mx) (.int 69621) = .ok (.int (mx * 69621)) := fun mx => bin_mulR (by decide)
  obtain ⟨ρ2, e2, H2⟩ := H1.asg (cf := cf) (h := h) (h' := h) (wf := wf) (e := .bin .mod (.bi .int (.cons (.bin .add (.bin .add (.bin .mul (.pk 3) (.int 48271)) (.bin .mod (.pk 5) (.int 1000003))) (.pk 4)) .nil)) (.int 65537)) (d := .int ((mx * 48271 + c.fmod 1000003 + (k : Int)).fmod 65537)) (b := true) 3 (by
    simp only [ev_bin, ev_bi, evs_cons, evs_nil, ev_pk, H1.p 3 rfl, H1.p 5 rfl, H1.p 4 rfl, bo, ev_int, m1, bin_mod (show (1000003 : Int) ≠ 0 by decide), bin_mod (show (65537 : Int) ≠ 0 by decide), add_int, bi_int])
  rw [e2]
  generalize ((mx * 48271 + c.fmod 1000003 + (k : Int)).fmod 65537) = mx1 at H2
  obtain ⟨ρ3, e3, H3⟩ := H2.asg (cf := cf) (h := h) (h' := h) (wf := wf) (e := .int 0) (d := .int 0) (b := false) 6 ev_int
  rw [e3]
  have cc : ev cf ρ3 (.cmp .ge (.pk 5) (.bin .pow (.int 10) (.int 18))) h = .ok (.bl (decide (1000000000000000000 ≤ c)), false, h) := by
    simp only [ev_cmp, ev_pk, H3.p 5 rfl, bo, ev_bin, ev_int, ten18, cmp_ge]
  rw [exs_iff cc]
  have mid : ∃ ρ4 l4 rest, exs cf wf (if decide (1000000000000000000 ≤ c) = true then (.cons (.asg (.name 6) (.var 5)) .nil) else (.cons (.app 2 (.bin .mod (.bi .int (.cons (.pk 5) .nil)) (.int 997))) (.cons (.app 2 (.bin .mod (.bin .mod (.bi .int (.cons (.bin .add (.bin .mul (.pk 3) (.int 69621)) (.int 5)) .nil)) (.int 65521)) (.int 997))) .nil))) ⟨ρ3, h⟩ = .ok (.next, ⟨ρ4, h⟩) ∧ l4.length ≤ l.length + 2 ∧
      Live 8 ρ4 [(6, some (.int rest, false)), (2, some (.lst (List.map D.int l4), true)), (3, some (.int mx1, false)), (0, some (.scr ns, false)), (1, S1)] := by
    by_cases z : 1000000000000000000 ≤ c
    · rw [if_pos (decide_eq_true z)]
      obtain ⟨ρ4, e4, H4⟩ := H3.asg (cf := cf) (h := h) (h' := h) (wf := wf) (r := .nil) (e := .var 5) (d := .int c) (b := false) 6 (by rw [ev_var, H3.v 5 rfl])
      exact ⟨ρ4, l, c, by rw [e4, exs_nil], by omega, H4.sub ⟨rfl, rfl, rfl, rfl, rfl, trivial⟩⟩
    · rw [if_neg (by simp [z])]
      obtain ⟨ρ4, e4, H4⟩ := app_at (h := h) (wf := wf) (cf := cf) (i := 2) (e := .bin .mod (.bi .int (.cons (.pk 5) .nil)) (.int 997)) (x := c.fmod 997) (b := true) (r := (.cons (.app 2 (.bin .mod (.bin .mod (.bi .int (.cons (.bin .add (.bin .mul (.pk 3) (.int 69621)) (.int 5)) .nil)) (.int 65521)) (.int 997))) .nil)) H3 rfl
        (by simp only [ev_bin, ev_bi, evs_cons, evs_nil, ev_pk, H3.p 5 rfl, bo, bi_int, ev_int, bin_mod (show (997 : Int) ≠ 0 by decide)]) (by decide) (by omega)
      obtain ⟨ρ5, e5, H5⟩ := app_at (h := h) (wf := wf) (cf := cf) (i := 2) (r := .nil) (e := .bin .mod (.bin .mod (.bi .int (.cons (.bin .add (.bin .mul (.pk 3) (.int 69621)) (.int 5)) .nil)) (.int 65521)) (.int 997)) (x := ((mx1 * 69621 + 5).fmod 65521).fmod 997) (b := true) H4 rfl
        (by simp only [ev_bin, ev_bi, evs_cons, evs_nil, ev_pk, H4.p 3 rfl, bo, bi_int, ev_int, m2, add_int, bin_mod (show (997 : Int) ≠ 0 by decide), bin_mod (show (65521 : Int) ≠ 0 by decide)]) (by decide) (by simp; omega)
      exact ⟨ρ5, _, 0, by rw [e4, e5, exs_nil], by simp, H5.sub ⟨rfl, rfl, rfl, rfl, rfl, trivial⟩⟩
  obtain ⟨ρ4, l4, rest, e4, hl4, H4⟩ := mid
  rw [e4, bo]
  have src : evi cf ρ4 (.range (.cons (.int 60) .nil)) h = .ok ((List.range 60).map fun k : Nat => D.int (k : Int), h) := by
    simp only [evi_range, evs_cons, evs_nil, ev_int, bo]
    rw [rng_nat (m := 60) (by decide) (by decide) (by decide)]
    rfl
  obtain ⟨s', e5, ⟨l5, rest5, q1, q2, q3⟩⟩ := exs_fr (wf := wf) (body := b_small) (r := .nil) (t := 7) src (fun i s => ∃ l' rest', s.h = h ∧ l'.length ≤ l4.length + i ∧ Live 8 s.ρ [(6, some (.int rest', false)), (2, some (.lst (List.map D.int l'), true)), (3, some (.int mx1, false)), (0, some (.scr ns, false)), (1, S1)])
    (fun _ s ⟨_, _, _, _, hs⟩ => by rw [hs.1]; decide) ⟨l4, rest, rfl, by omega, H4⟩ (fun k x hx s ⟨l', rest', hs, hl', HL⟩ => by
      have hk60 : k < 60 := by
        rcases Nat.lt_or_ge k 60 with z | z
        · exact z
        · rw [List.getElem?_eq_none (by simpa using z)] at hx
          cases hx
      obtain ⟨ρ', l2, r2, e, hl2, H6⟩ := small_ok (h := s.h) (cf := cf) (wf := wf) ((HL.set (i := 7) (x := some (x, false)) (by decide)).sub ⟨rfl, rfl, rfl, rfl, rfl, trivial⟩) (by omega)
      exact ⟨_, e, l2, r2, hs, by omega, H6⟩)
  refine ⟨s'.ρ, l5, mx1, ?_, by simp at q2; omega, q3.sub ⟨rfl, rfl, rfl, rfl, trivial⟩⟩
  rw [show (Fl.next, (⟨ρ4, h⟩ : Mi.St)).1 = Fl.next from rfl]
  rw [e5, exs_nil, ← q1]
theorem range_at {α : Type} {m k : Nat} {f : Nat → α} {x : α} (h : ((List.range m).map f)[k]? = some x) : k < m ∧ x = f k := by
  rcases Nat.lt_or_ge k m with z | z
  · refine ⟨z, ?_⟩
    rw [List.getElem?_map, List.getElem?_range z] at h
    exact (Option.some.inj h).symm
  · rw [List.getElem?_eq_none (by simpa using z)] at h
    cases h
theorem src_range {cf : Calls} {ρ : Rho} {m : Nat} {e : E} {b : Bool} (he : ev cf ρ e h = .ok (.int (m : Int), b, h)) (hm : m < 1000) : evi cf ρ (.range (.cons e .nil)) h = .ok ((List.range m).map fun k : Nat => D.int (k : Int), h) := by
  simp only [evi_range, evs_cons, evs_nil, he, bo]
  rw [rng_nat (m := m) rfl (by omega) (by omega)]
  rfl
def b_tail : Ss := (.cons (.asg (.name 3) (.bin .mod (.bi .int (.cons (.bin .add (.bin .add (.bin .mul (.pk 3) (.int 16807)) (.pk 4)) (.int 1)) .nil)) (.int 65537))) (.cons (.app 2 (.bin .mod (.bi .int (.cons (.pk 3) .nil)) (.int 997))) .nil))
theorem tail_ok {cf : Calls} {ρ : Rho} {l : List Int} {mx : Int} {k : Nat} {S0 S1 : Sl} (H : Live 8 ρ [(4, some (.int k, false)), (2, some (.lst (l.map D.int), true)), (3, some (.int mx, false)), (0, S0), (1, S1)]) (hk : l.length < 16777216) :
    ∃ ρ' l' mx', exs cf wf b_tail ⟨ρ, h⟩ = .ok (.next, ⟨ρ', h⟩) ∧ l'.length ≤ l.length + 1 ∧ Live 8 ρ' [(2, some (.lst (List.map D.int l'), true)), (3, some (.int mx', false)), (0, S0), (1, S1)] := by
  unfold b_tail
  have m1 : ∀ mx : Int, Mi.bin .mul (.int mx) (.int 16807) = .ok (.int (mx * 16807)) := fun mx => bin_mulR (by decide)
  obtain ⟨ρ1, e1, H1⟩ := H.asg (cf := cf) (h := h) (h' := h) (wf := wf) (e := .bin .mod (.bi .int (.cons (.bin .add (.bin .add (.bin .mul (.pk 3) (.int 16807)) (.pk 4)) (.int 1)) .nil)) (.int 65537)) (d := .int ((mx * 16807 + (k : Int) + 1).fmod 65537)) (b := true) 3 (by
    simp only [ev_bin, ev_bi, evs_cons, evs_nil, ev_pk, H.p 3 rfl, H.p 4 rfl, bo, ev_int, m1, bin_mod (show (65537 : Int) ≠ 0 by decide), add_int, bi_int])
  rw [e1]
  generalize ((mx * 16807 + (k : Int) + 1).fmod 65537) = mx1 at H1
  obtain ⟨ρ2, e2, H2⟩ := app_at (h := h) (wf := wf) (cf := cf) (i := 2) (e := .bin .mod (.bi .int (.cons (.pk 3) .nil)) (.int 997)) (r := .nil) (x := mx1.fmod 997) (b := true) H1 rfl (by simp only [ev_bin, ev_bi, evs_cons, evs_nil, ev_pk, H1.p 3 rfl, bo, bi_int, ev_int, bin_mod (show (997 : Int) ≠ 0 by decide)]) (by decide) hk
  exact ⟨ρ2, _, mx1, by rw [e2, exs_nil], by simp, H2.sub ⟨rfl, rfl, rfl, rfl, trivial⟩⟩
theorem cut_map (l : List Int) (a b : Option Int) : cutL (l.map D.int) a b = (cutL l a b).map D.int := by
  unfold cutL
  rw [List.length_map, List.map_take, List.map_drop]
theorem r_draws {ns : List Int} (hl : ns.length ≤ 63) : ∃ l : List Int, callN prg wf (n + 1) "_law_draws" [.scr ns, .int 500] h = .ok (.lst (l.map D.int), true, h) := by
  rw [c__law_draws]
  suffices q : ∀ ρ0 : Rho, Live 8 ρ0 [(0, some (.scr ns, false)), (1, some (.int 500, false))] → ∃ (l : List Int) (s' : Mi.St), exs (callN prg wf n) wf b__law_draws ⟨ρ0, h⟩ = .ok (.ret (.lst (l.map D.int)) true, s') ∧ s'.h = h by
    obtain ⟨l, s', e, hs⟩ := q (Mi.start ⟨2, 8, b__law_draws⟩ [.scr ns, .int 500]) (Live.of rfl (by simp [Mi.start]))
    exact ⟨l, runF_ret rfl ⟨s', e, hs⟩⟩
  intro ρ0 H0
  rw [b_draws_eq]
  generalize callN prg wf n = cf
  obtain ⟨ρ1, e1, H1⟩ := H0.asg (cf := cf) (h := h) (h' := h) (wf := wf) (e := .lst .nil) (d := .lst (([] : List Int).map D.int)) (b := true) 2 (by simp [fits, big])
  rw [e1]
  obtain ⟨ρ2, e2, H2⟩ := H1.asg (cf := cf) (h := h) (h' := h) (wf := wf) (e := .int 7) (d := .int 7) (b := false) 3 (by simp)
  rw [e2]
  obtain ⟨s3, e3, ⟨l3, mx3, a3, b3, H3⟩⟩ := exs_fr (h := h) (wf := wf) (t := 4) (body := b_cell) (cf := cf) (ρ := ρ2) (src := .range (.cons (.bi .len (.cons (.pk 0) .nil)) .nil)) (l := (List.range ns.length).map fun k : Nat => D.int (k : Int))
    (src_range (b := true) (by simp only [ev_bi, evs_cons, evs_nil, ev_pk, H2.p 0 rfl, bo, bi_len_scr]) (by omega))
    (fun i s => ∃ (l : List Int) (mx : Int), s.h = h ∧ l.length ≤ 62 * i ∧ Live 8 s.ρ [(2, some (.lst (l.map D.int), true)), (3, some (.int mx, false)), (0, some (.scr ns, false)), (1, some (.int 500, false))])
    (fun _ s ⟨_, _, _, _, hs⟩ => by rw [hs.1]; decide) ⟨[], 7, rfl, by simp, H2.sub ⟨rfl, rfl, rfl, rfl, trivial⟩⟩ (fun k x hx s ⟨l', mx', hs, hl', HL⟩ => by
      obtain ⟨hk, rfl⟩ := range_at hx
      obtain ⟨ρ', l2, m2, e, hl2, H6⟩ := cell_ok (h := s.h) (cf := cf) (wf := wf) ((HL.set (i := 4) (x := some (D.int (k : Int), false)) (by decide)).sub ⟨rfl, rfl, rfl, rfl, rfl, trivial⟩) hk (by omega)
      exact ⟨_, e, l2, m2, hs, by omega, H6⟩)
  rw [e3]
  obtain ⟨ρ3, h3⟩ := s3
  subst a3
  have b3 : l3.length ≤ 3906 := by simp at b3; omega
  obtain ⟨s4, e4, ⟨l4, mx4, a4, b4, H4⟩⟩ := exs_fr (h := h3) (wf := wf) (t := 4) (body := b_tail) (cf := cf) (ρ := ρ3) (src := .range (.cons (.var 1) .nil)) (l := (List.range 500).map fun k : Nat => D.int (k : Int)) (r := (.cons (.ret (.cut (.pk 2) .non (.pk 1))) .nil))
    (src_range (b := false) (by rw [ev_var, H3.v 1 rfl]; rfl) (by omega))
    (fun i s => ∃ (l : List Int) (mx : Int), s.h = h3 ∧ l.length ≤ 3906 + i ∧ Live 8 s.ρ [(2, some (.lst (l.map D.int), true)), (3, some (.int mx, false)), (0, some (.scr ns, false)), (1, some (.int 500, false))])
    (fun _ s ⟨_, _, _, _, hs⟩ => by rw [hs.1]; decide) ⟨l3, mx3, rfl, b3, H3⟩ (fun k x hx s ⟨l', mx', hs, hl', HL⟩ => by
      obtain ⟨hk, rfl⟩ := range_at hx
      obtain ⟨ρ', l2, m2, e, hl2, H6⟩ := tail_ok (h := s.h) (cf := cf) (wf := wf) ((HL.set (i := 4) (x := some (D.int (k : Int), false)) (by decide)).sub ⟨rfl, rfl, rfl, rfl, rfl, trivial⟩) (by omega)
      exact ⟨_, e, l2, m2, hs, by omega, H6⟩)
  refine ⟨cutL l4 none (some 500), s4, ?_, a4⟩
  rw [show (Ss.cons (S.fr (Tg.name 4) (It.range (Es.cons (E.var 1) Es.nil)) (.cons (.asg (.name 3) (.bin .mod (.bi .int (.cons (.bin .add (.bin .add (.bin .mul (.pk 3) (.int 16807)) (.pk 4)) (.int 1)) .nil)) (.int 65537))) (.cons (.app 2 (.bin .mod (.bi .int (.cons (.pk 3) .nil)) (.int 997))) .nil))) (.cons (.ret (.cut (.pk 2) .non (.pk 1))) .nil)) = Ss.cons (S.fr (Tg.name 4) (It.range (Es.cons (E.var 1) Es.nil)) b_tail) (.cons (.ret (.cut (.pk 2) .non (.pk 1))) .nil) from rfl, e4]
  obtain ⟨ρ4, h4⟩ := s4
  refine exs_ret ?_
  rw [evR_of (by intro i; simp)]
  have p1 : partOf .non .non = .ok none := rfl
  have p2 : partOf (.pk 1) (.int 500) = .ok (some 500) := rfl
  have p3 : Mi.cut (.lst (l4.map D.int)) none (some 500) = .ok (.lst ((cutL l4 none (some 500)).map D.int)) := by
    unfold Mi.cut
    simp only [cut_map]
  simp only [ev_cut, ev_pk, H4.p 2 rfl, H4.p 1 rfl, bo, ev_non, p1, p2, p3]
end K4

set_option Elab.async false
set_option linter.all false
set_option maxRecDepth 100000
set_option maxHeartbeats 8000000
/-! k04: amounts and picks drawn. -/
namespace K4
open PySem Mi
variable {n wf : Nat} {h : AH}
def words : List Str := ["cpu", "disk", "mem"]
/-- amounts of the three words: those above nothing -/
def amF (f : Str → Int) : List (Str × Int) := (words.filter fun w => decide (0 < f w)).map fun w => (w, f w)
theorem amF_keys (f : Str → Int) : (amF f).map (·.1) = words.filter fun w => decide (0 < f w) := by
  unfold amF
  rw [List.map_map]
  exact List.map_id _
theorem words_nd : words.Nodup := by decide
theorem amF_nd (f : Str → Int) : ((amF f).map (·.1)).Nodup := by
  rw [amF_keys]
  exact words_nd.filter _
def amStep (cf : Calls) (ρ : Rho) (x : D) (h : AH) : Res (Option D × AH) := (setTg (.name 1) x (wipeR ρ [1])).bind fun ρ' => (ev cf ρ' (.cmp .gt (.call "_law_next" (.cons (.var 0) (.cons (.int 3) .nil))) (.int 0)) h).bind (boolK fun k h =>
      if k then (ev cf ρ' (.tup (.cons (.var 1) (.cons (.bin .add (.int 1) (.call "_law_next" (.cons (.var 0) (.cons (.int 5) .nil)))) .nil))) h).bind fun r => .ok (some r.1, r.2.2) else .ok (none, h))
theorem amStep_ok {ρ : Rho} {l : List Int} {k : Nat} {x : Str} (H : Live 2 ρ [(0, some (.ref 0, false))]) : ∃ (v : Int) (k' : Nat), 0 ≤ v ∧ v ≤ 5 ∧ amStep (callN prg wf (n + 1)) ρ (.str x) (HW l k) = .ok (if 0 < v then some (.tup [.str x, .int v]) else none, HW l k') := by
  unfold amStep
  have lt : decide (1 < (ρ.set 1 none).length) = true := by simp [H.1]
  have H1 := H.set (i := 1) (x := some (D.str x, false)) (by decide)
  simp only [wipe1, wipe0, setTg_name, lt, guard_t, bo, List.set_set]
  obtain ⟨r, b, e, h0, h1⟩ := next_at (wf := wf) (n := n) (l := l) (k := k) (m := 3) (by decide)
  have c : ev (callN prg wf (n + 1)) (ρ.set 1 (some (D.str x, false))) (.cmp .gt (.call "_law_next" (.cons (.var 0) (.cons (.int 3) .nil))) (.int 0)) (HW l k) = .ok (.bl (decide (0 < r)), false, HW l (k + 1)) := by
    simp only [ev_cmp, ev_call, evs_cons, evs_nil, ev_var, H1.v 0 rfl, bo, ev_int, e, cmp_gt]
  rw [c, bo, boolK_bl]
  by_cases z : 0 < r
  · rw [if_pos (decide_eq_true z)]
    obtain ⟨r2, b2, e2, h02, h12⟩ := next_at (wf := wf) (n := n) (l := l) (k := k + 1) (m := 5) (by decide)
    refine ⟨1 + r2, k + 1 + 1, by omega, by omega, ?_⟩
    have f2 : fits 2 = true := rfl
    rw [if_pos (show 0 < 1 + r2 by omega)]
    simp only [ev_tup, evs_cons, evs_nil, ev_var, H1.v 1 rfl, H1.v 0 rfl, bo, ev_bin, ev_int, ev_call, e2, add_int, List.length_cons, List.length_nil, Nat.zero_add, Nat.reduceAdd, f2, guard_t]
  · rw [if_neg (by simp [z])]
    exact ⟨0, k + 1, by omega, by omega, by rw [if_neg (by omega)]⟩
theorem am3 {v1 v2 v3 : Int} : ∃ f : Str → Int, f "cpu" = v1 ∧ f "disk" = v2 ∧ f "mem" = v3 ∧ ∀ w, w ∉ words → f w = 0 := by
  refine ⟨fun w => if w = "cpu" then v1 else if w = "disk" then v2 else if w = "mem" then v3 else 0, by simp, ?_, ?_, fun w hw => ?_⟩
  · show (if (("disk" : Str) = "cpu") then v1 else if (("disk" : Str) = "disk") then v2 else if (("disk" : Str) = "mem") then v3 else 0) = v2
    rw [if_neg (by decide), if_pos rfl]
  · show (if (("mem" : Str) = "cpu") then v1 else if (("mem" : Str) = "disk") then v2 else if (("mem" : Str) = "mem") then v3 else 0) = v3
    rw [if_neg (by decide), if_neg (by decide), if_pos rfl]
  · unfold words at hw
    simp only [List.mem_cons, List.not_mem_nil, or_false, not_or] at hw
    show (if w = "cpu" then v1 else if w = "disk" then v2 else if w = "mem" then v3 else 0) = 0
    rw [if_neg hw.1, if_neg hw.2.1, if_neg hw.2.2]
def good (f : Str → Int) : Prop := ∀ w, 0 ≤ f w ∧ f w ≤ 5 ∧ (w ∉ words → f w = 0)
theorem r_amounts {l : List Int} {k : Nat} : ∃ (f : Str → Int) (k' : Nat), good f ∧ callN prg wf (n + 2) "_law_amounts" [.ref 0] (HW l k) = .ok (dA (amF f), true, HW l k') := by
  suffices q : ∀ ρ0 : Rho, Live 2 ρ0 [(0, some (.ref 0, false))] → ∃ (f : Str → Int) (k' : Nat), good f ∧ exs (callN prg wf (n + 1)) wf b__law_amounts ⟨ρ0, HW l k⟩ = .ok (.ret (dA (amF f)) true, ⟨ρ0, HW l k'⟩) by
    obtain ⟨f, k', g, e⟩ := q (Mi.start ⟨1, 2, b__law_amounts⟩ [.ref 0]) (Live.of rfl (by simp [Mi.start]))
    exact ⟨f, k', g, by rw [show n + 2 = (n + 1) + 1 from rfl, c__law_amounts]; exact runF_ret rfl ⟨_, e, rfl⟩⟩
  intro ρ0 H0
  obtain ⟨v1, k1, a1, b1, e1⟩ := amStep_ok (wf := wf) (n := n) (l := l) (k := k) (x := "cpu") H0
  obtain ⟨v2, k2, a2, b2, e2⟩ := amStep_ok (wf := wf) (n := n) (l := l) (k := k1) (x := "disk") H0
  obtain ⟨v3, k3, a3, b3, e3⟩ := amStep_ok (wf := wf) (n := n) (l := l) (k := k2) (x := "mem") H0
  obtain ⟨f, f1, f2, f3, f4⟩ := am3 (v1 := v1) (v2 := v2) (v3 := v3)
  refine ⟨f, k3, fun w => ?_, ?_⟩
  · by_cases hw : w ∈ words
    · have hw2 := hw
      unfold words at hw
      simp only [List.mem_cons, List.not_mem_nil, or_false] at hw
      rcases hw with z | z | z
      · rw [z, f1]; exact ⟨a1, b1, fun q => absurd (z ▸ hw2) q⟩
      · rw [z, f2]; exact ⟨a2, b2, fun q => absurd (z ▸ hw2) q⟩
      · rw [z, f3]; exact ⟨a3, b3, fun q => absurd (z ▸ hw2) q⟩
    · rw [f4 w hw]; exact ⟨by omega, by omega, fun _ => rfl⟩
  unfold b__law_amounts
  refine exs_ret ?_
  rw [evR_of (by intro i; simp), ev_bi, evs_cons, ev_lc]
  have src : evi (callN prg wf (n + 1)) ρ0 (.over (.lst (.cons (.str "cpu") (.cons (.str "disk") (.cons (.str "mem") .nil))))) (HW l k) = .ok ([.str "cpu", .str "disk", .str "mem"], HW l k) := by
    have f2 : fits 3 = true := rfl
    simp only [evi_over, ev_lst, evs_cons, evs_nil, ev_str, bo, List.length_cons, List.length_nil, Nat.zero_add, Nat.reduceAdd, f2, guard_t, items_lst]
  have go : lcGo (amStep (callN prg wf (n + 1)) ρ0) [.str "cpu", .str "disk", .str "mem"] [] (HW l k) = .ok ((amF f).map fun p => D.tup [.str p.1, .int p.2], HW l k3) := by
    unfold lcGo lcGo lcGo lcGo
    rw [e1, bo]
    unfold amF words
    simp only [List.filter_cons, List.filter_nil, f1, f2, f3]
    have g0 : fits 0 = true := rfl
    have g1 : fits 1 = true := rfl
    have g2 : fits 2 = true := rfl
    by_cases z1 : 0 < v1 <;> by_cases z2 : 0 < v2 <;> by_cases z3 : 0 < v3 <;> simp [z1, z2, z3, e2, e3, g0, g1, g2, f1, f2, f3]
  rw [src, bo]
  have go' := go
  unfold amStep at go'
  rw [go']
  simp only [quiet_ok, bo, evs_nil, bi_dict_rows D.int (amF_nd f)]
  rfl
end K4

set_option Elab.async false
set_option linter.all false
set_option maxRecDepth 100000
set_option maxHeartbeats 8000000
/-! k04: picks drawn. -/
namespace K4
open PySem Mi
variable {n wf : Nat} {h : AH}
def tw (l : List Str) : D := .tup (l.map D.str)
def dP (A : List (Str × List Str)) : D := kv tw A
def dL (A : List (Str × Str)) : D := kv D.str A
/-- some of three values -/
def sub (i : Nat) : List Str := (if i % 2 = 1 then [("a" : Str)] else []) ++ ((if i / 2 % 2 = 1 then [("b" : Str)] else []) ++ (if i / 4 % 2 = 1 then [("c" : Str)] else []))
def pa (i : Nat) : List (Str × List Str) := if i = 0 then [] else [("app", sub i)]
def pk (i j : Nat) : List (Str × List Str) := pa i ++ (if j = 0 then [] else [(("zone" : Str), sub j)])
def pkStep (cf : Calls) (ρ : Rho) (x : D) (h : AH) : Res (Option D × AH) := (setTg (.name 4) x (wipeR ρ [4])).bind fun ρ' => (ev cf ρ' (.cmp .eq (.call "_law_next" (.cons (.var 0) (.cons (.int 2) .nil))) (.int 0)) h).bind (boolK fun k h =>
      if k then (ev cf ρ' (.var 4) h).bind fun r => .ok (some r.1, r.2.2) else .ok (none, h))
theorem pkStep_ok {ρ : Rho} {L : List (Nat × Sl)} {l : List Int} {k : Nat} {x : Str} (H : Live 5 ρ L) (h0 : L.lookup 0 = some (some (.ref 0, false))) : ∃ (b : Bool) (k' : Nat), pkStep (callN prg wf (n + 1)) ρ (.str x) (HW l k) = .ok (if b then some (.str x) else none, HW l k') := by
  unfold pkStep
  have lt : decide (4 < (ρ.set 4 none).length) = true := by simp [H.1]
  have H1 := H.set (i := 4) (x := some (D.str x, false)) (by decide)
  have v0 : ∀ h, vAt (ρ.set 4 (some (D.str x, false))) 0 h = .ok (.ref 0, false, h) := fun h => by
    rw [vAt_ne (by decide)]
    exact H.v 0 h0
  simp only [wipe1, wipe0, setTg_name, lt, guard_t, bo, List.set_set]
  obtain ⟨r, b, e, h0, h1⟩ := next_at (wf := wf) (n := n) (l := l) (k := k) (m := 2) (by decide)
  refine ⟨r == 0, k + 1, ?_⟩
  simp only [ev_cmp, ev_call, evs_cons, evs_nil, ev_var, v0, bo, ev_int, e, cmp_eqI, boolK_bl, H1.v 4 rfl]
  split <;> rfl
theorem sub_of (b1 b2 b3 : Bool) : ∃ i, i < 8 ∧ sub i = (if b1 then [("a" : Str)] else []) ++ ((if b2 then [("b" : Str)] else []) ++ (if b3 then [("c" : Str)] else [])) := by
  refine ⟨(if b1 then 1 else 0) + ((if b2 then 2 else 0) + (if b3 then 4 else 0)), ?_, ?_⟩ <;> revert b1 b2 b3 <;> decide
def e_some : E := .bi .tuple (.cons (.lc [4] (.name 4) (.over (.lst (.cons (.str "a") (.cons (.str "b") (.cons (.str "c") .nil))))) (.cmp .eq (.call "_law_next" (.cons (.var 0) (.cons (.int 2) .nil))) (.int 0)) (.var 4)) .nil)
theorem some_ok {ρ0 : Rho} {L : List (Nat × Sl)} {l : List Int} {k : Nat} (H : Live 5 ρ0 L) (h0 : L.lookup 0 = some (some (.ref 0, false))) : ∃ (i k' : Nat), i < 8 ∧ ev (callN prg wf (n + 1)) ρ0 e_some (HW l k) = .ok (tw (sub i), true, HW l k') := by
  obtain ⟨v1, k1, e1⟩ := pkStep_ok (wf := wf) (n := n) (l := l) (k := k) (x := "a") H h0
  obtain ⟨v2, k2, e2⟩ := pkStep_ok (wf := wf) (n := n) (l := l) (k := k1) (x := "b") H h0
  obtain ⟨v3, k3, e3⟩ := pkStep_ok (wf := wf) (n := n) (l := l) (k := k2) (x := "c") H h0
  obtain ⟨i, hi, es⟩ := sub_of v1 v2 v3
  refine ⟨i, k3, hi, ?_⟩
  unfold e_some
  rw [ev_bi, evs_cons, ev_lc]
  have src : evi (callN prg wf (n + 1)) ρ0 (.over (.lst (.cons (.str "a") (.cons (.str "b") (.cons (.str "c") .nil))))) (HW l k) = .ok ([.str "a", .str "b", .str "c"], HW l k) := by
    have f2 : fits 3 = true := rfl
    simp only [evi_over, ev_lst, evs_cons, evs_nil, ev_str, bo, List.length_cons, List.length_nil, Nat.zero_add, Nat.reduceAdd, f2, guard_t, items_lst]
  have go : lcGo (pkStep (callN prg wf (n + 1)) ρ0) [.str "a", .str "b", .str "c"] [] (HW l k) = .ok ((sub i).map D.str, HW l k3) := by
    unfold lcGo lcGo lcGo lcGo
    rw [e1, bo, es]
    have g0 : fits 0 = true := rfl
    have g1 : fits 1 = true := rfl
    have g2 : fits 2 = true := rfl
    cases v1 <;> cases v2 <;> cases v3 <;> simp [e2, e3, g0, g1, g2]
  rw [src, bo]
  have go' := go
  unfold pkStep at go'
  rw [go']
  simp only [quiet_ok, bo, evs_nil, bi_tuple]
  rfl
theorem ne_tup0 {l : List Str} : cmp .ne (tw l) (.tup []) = .ok (!l.isEmpty) := by
  cases l <;> simp [cmp, eqB, tw, eqOK, eqAll, guard', D.eqv, eqvs]
def b_pick : Ss := (.cons (.asg (.name 3) e_some) (.cons (.iff (.and (.cmp .ne (.pk 3) (.tup .nil)) (.cmp .gt (.call "_law_next" (.cons (.var 0) (.cons (.int 3) .nil))) (.int 0))) (.cons (.sub 1 (.pk 2) (.var 3)) .nil) .nil) .nil))
theorem b_picks_eq : b__law_picks = (.cons (.asg (.name 1) (.dct .nil)) (.cons (.fr (.name 2) (.over (.lst (.cons (.str "app") (.cons (.str "zone") .nil)))) b_pick) (.cons (.ret (.pk 1)) .nil))) := rfl
theorem sub_ne (i : Nat) (h : sub i ≠ []) : i ≠ 0 := fun q => h (q ▸ rfl)
theorem pick_ok {ρ : Rho} {A : List (Str × List Str)} {x : Str} {l : List Int} {k : Nat} (H : Live 5 ρ [(2, some (.str x, false)), (1, some (dP A, true)), (0, some (.ref 0, false))]) (hA : A.length < 60) (hx : x ∉ A.map (·.1)) :
    ∃ (ρ' : Rho) (i k' : Nat), i < 8 ∧ exs (callN prg wf (n + 1)) wf b_pick ⟨ρ, HW l k⟩ = .ok (.next, ⟨ρ', HW l k'⟩) ∧ Live 5 ρ' [(1, some (dP (A ++ (if i = 0 then [] else [(x, sub i)])), true)), (0, some (.ref 0, false))] := by
  obtain ⟨i, k1, hi, e0⟩ := some_ok (wf := wf) (n := n) (l := l) (k := k) H rfl
  obtain ⟨ρ1, e1, H1⟩ := H.asg (wf := wf) 3 e0
  unfold b_pick
  rw [e1]
  have t0 : ev (callN prg wf (n + 1)) ρ1 (.cmp .ne (.pk 3) (.tup .nil)) (HW l k1) = .ok (.bl (!(sub i).isEmpty), false, HW l k1) := by
    have f2 : fits 0 = true := rfl
    simp only [ev_cmp, ev_pk, H1.p 3 rfl, bo, ev_tup, evs_nil, List.length_nil, f2, guard_t, ne_tup0]
  have lv : (3, some (tw (sub i), true && (tw (sub i)).isOwn)) = ((3, some (tw (sub i), false)) : Nat × Sl) := rfl
  rw [lv] at H1
  obtain ⟨r, b, e, h0, h1⟩ := next_at (wf := wf) (n := n) (l := l) (k := k1) (m := 3) (by decide)
  have t1 : ev (callN prg wf (n + 1)) ρ1 (.cmp .gt (.call "_law_next" (.cons (.var 0) (.cons (.int 3) .nil))) (.int 0)) (HW l k1) = .ok (.bl (decide (0 < r)), false, HW l (k1 + 1)) := by
    simp only [ev_cmp, ev_call, evs_cons, evs_nil, ev_var, H1.v 0 rfl, bo, ev_int, e, cmp_gt]
  by_cases z : sub i = []
  · refine ⟨ρ1, 0, k1, by omega, ?_, ?_⟩
    · rw [exs_iff (k := false) (fr := false) (h' := HW l k1)]
      · simp
      · rw [ev_and, t0, bo, boolK_bl, z]
        rfl
    · rw [if_pos rfl, List.append_nil]
      exact H1.sub ⟨rfl, rfl, trivial⟩
  · have t2 : ev (callN prg wf (n + 1)) ρ1 (.and (.cmp .ne (.pk 3) (.tup .nil)) (.cmp .gt (.call "_law_next" (.cons (.var 0) (.cons (.int 3) .nil))) (.int 0))) (HW l k1) = .ok (.bl (decide (0 < r)), false, HW l (k1 + 1)) := by
      rw [ev_and, t0, bo, boolK_bl, t1]
      cases q : sub i with
      | nil => exact absurd q z
      | cons a b => rfl
    rw [exs_iff t2]
    by_cases y : 0 < r
    · rw [if_pos (decide_eq_true y)]
      have fitk : fits (row tw A).length = true := by rw [row_len]; exact fits_ok (by omega)
      refine ⟨ρ1.set 1 (some (dP (A ++ [(x, sub i)]), true)), i, k1 + 1, hi, ?_, ?_⟩
      · have : ex (callN prg wf (n + 1)) wf (.sub 1 (.pk 2) (.var 3)) ⟨ρ1, HW l (k1 + 1)⟩ = .ok (.next, ⟨ρ1.set 1 (some (dP (A ++ [(x, sub i)]), true)), HW l (k1 + 1)⟩) := by
          have hd : held ρ1 1 = true := by unfold held; rw [H1.at (i := 1) rfl]
          have pl : place ρ1 (HW l (k1 + 1)) 1 = some (true, 1, dP A) := place_own (H1.at (i := 1) rfl)
          have pt : Mi.putAt (dP A) (.str x) (tw (sub i)) = .ok (dP (A ++ [(x, sub i)])) := by
            unfold dP kv
            show (match D.key? (.str x) with | some k => guard' (fits (row tw A).length) (Res.ok (D.dct (put (row tw A) k (tw (sub i))))) | none => Res.stuck) = _
            simp only [D.key?, fitk, guard_t, put_row, putA_new hx]
          unfold ex
          simp only [ev_var, H1.v 3 rfl, bo, hd, guard_t, ev_pk, H1.p 2 rfl, pl, pt]
          rfl
        rw [exs_step this, exs_nil, bo]
        simp
      · rw [if_neg (sub_ne i z)]
        exact (H1.set (i := 1) (x := some (dP (A ++ [(x, sub i)]), true)) (by decide)).sub ⟨rfl, rfl, trivial⟩
    · rw [if_neg (by simp [y])]
      refine ⟨ρ1, 0, k1 + 1, by omega, by simp, ?_⟩
      rw [if_pos rfl, List.append_nil]
      exact H1.sub ⟨rfl, rfl, trivial⟩
theorem zone_app : ¬ ("zone" : Str) = "app" := by decide
theorem r_picks {l : List Int} {k : Nat} : ∃ (i j k' : Nat), i < 8 ∧ j < 8 ∧ callN prg wf (n + 2) "_law_picks" [.ref 0] (HW l k) = .ok (dP (pk i j), true, HW l k') := by
  suffices q : ∀ ρ0 : Rho, Live 5 ρ0 [(0, some (.ref 0, false))] → ∃ (i j k' : Nat), i < 8 ∧ j < 8 ∧ ∃ ρ', exs (callN prg wf (n + 1)) wf b__law_picks ⟨ρ0, HW l k⟩ = .ok (.ret (dP (pk i j)) true, ⟨ρ', HW l k'⟩) by
    obtain ⟨i, j, k', hi, hj, ρ', e⟩ := q (Mi.start ⟨1, 5, b__law_picks⟩ [.ref 0]) (Live.of rfl (by simp [Mi.start]))
    exact ⟨i, j, k', hi, hj, by rw [show n + 2 = (n + 1) + 1 from rfl, c__law_picks]; exact runF_ret rfl ⟨_, e, rfl⟩⟩
  intro ρ0 H0
  rw [b_picks_eq]
  obtain ⟨ρ1, e1, H1⟩ := H0.asg (cf := callN prg wf (n + 1)) (h := HW l k) (h' := HW l k) (wf := wf) (e := E.dct .nil) (d := dP []) (b := true) 1 (by simp [rows?, merge, guard', dP, kv, row])
  rw [e1]
  have src : evi (callN prg wf (n + 1)) ρ1 (.over (.lst (.cons (.str "app") (.cons (.str "zone") .nil)))) (HW l k) = .ok ([.str "app", .str "zone"], HW l k) := by
    have f2 : fits 2 = true := rfl
    simp only [evi_over, ev_lst, evs_cons, evs_nil, ev_str, bo, List.length_cons, List.length_nil, Nat.zero_add, Nat.reduceAdd, f2, guard_t, items_lst]
  obtain ⟨s2, e2, h2⟩ := exs_fr (wf := wf) (body := b_pick) (r := (.cons (.ret (.pk 1)) .nil)) (t := 2) src (fun m s => ∃ k', s.h = HW l k' ∧ ∃ i j, i < 8 ∧ j < 8 ∧ ∃ A : List (Str × List Str), Live 5 s.ρ [(1, some (dP A, true)), (0, some (.ref 0, false))] ∧ (m = 0 → A = []) ∧ (m = 1 → A = pa i) ∧ (m = 2 → A = pk i j))
    (fun _ s ⟨_, _, _, _, _, _, _, hs, _⟩ => by rw [hs.1]; decide) ⟨k, rfl, 0, 0, by decide, by decide, [], H1.sub ⟨rfl, rfl, trivial⟩, fun _ => rfl, (fun q => by cases q), (fun q => by cases q)⟩ (fun m x hx s ⟨k', hs, i, j, hi, hj, A, HL, a0, a1, a2⟩ => by
      obtain ⟨ρs, hh⟩ := s
      subst hs
      match m, hx with
      | 0, hx =>
        cases hx
        rw [a0 rfl] at HL
        obtain ⟨ρ', i, k2, hi, e, H2⟩ := pick_ok (wf := wf) (n := n) (l := l) (k := k') (A := []) ((HL.set (i := 2) (x := some (D.str "app", false)) (by decide)).sub ⟨rfl, rfl, rfl, trivial⟩) (by decide) (by decide)
        exact ⟨_, e, k2, rfl, i, 0, hi, by decide, _, H2, (fun q => by cases q), fun _ => rfl, (fun q => by cases q)⟩
      | 1, hx =>
        cases hx
        rw [a1 rfl] at HL
        obtain ⟨ρ', j, k2, hj, e, H2⟩ := pick_ok (wf := wf) (n := n) (l := l) (k := k') (A := pa i) ((HL.set (i := 2) (x := some (D.str "zone", false)) (by decide)).sub ⟨rfl, rfl, rfl, trivial⟩) (by unfold pa; split <;> simp) (by unfold pa; split <;> simp [zone_app])
        exact ⟨_, e, k2, rfl, i, j, hi, hj, _, H2, (fun q => by cases q), (fun q => by cases q), fun _ => rfl⟩
      | m + 2, hx => cases hx)
  obtain ⟨k', hs, i, j, hi, hj, A, HL, _, _, a2⟩ := h2
  rw [e2]
  obtain ⟨ρs, hh⟩ := s2
  subst hs
  rw [a2 rfl] at HL
  refine ⟨i, j, k', hi, hj, ρs, exs_ret (HL.evR 1 rfl)⟩
end K4

set_option Elab.async false
set_option linter.all false
set_option maxRecDepth 100000
set_option maxHeartbeats 8000000
/-! k04: all labels; picked, narrower. -/
namespace K4
open PySem Mi
variable {n wf : Nat} {h : AH}
/-- a value of a word, or none -/
def oD : Option Str → D
  | none => .non
  | some x => .str x
def opts : List (Option Str) := [none, some "a", some "b", some "c", some "d"]
def ext (A : List (Str × Str)) (w : Str) : Option Str → List (Str × Str)
  | none => A
  | some x => A ++ [(w, x)]
def b_val : Ss := (.cons (.asg (.name 5) (.bi .dict (.cons (.pk 3) .nil))) (.cons (.iff (.cmp .isnot (.pk 4) .non) (.cons (.sub 5 (.pk 1) (.var 4)) .nil) .nil) (.cons (.frz [5]) (.cons (.app 2 (.var 5)) .nil))))
theorem appD_at {α : Type} {cf : Calls} {ρ : Rho} {L : List (Nat × Sl)} {m i : Nat} {l : List α} {g : α → D} {e : E} {r : Ss} {x : α} {b : Bool} (H : Live m ρ L) (hl : L.lookup i = some (some (.lst (l.map g), true))) (he : ev cf ρ e h = .ok (g x, b, h)) (hi : i < m) (hk : l.length < 16777216) :
    ∃ ρ', exs cf wf (.cons (.app i e) r) ⟨ρ, h⟩ = exs cf wf r ⟨ρ', h⟩ ∧ Live m ρ' ((i, some (.lst ((l ++ [x]).map g), true)) :: L) := by
  refine ⟨ρ.set i (some (.lst ((l ++ [x]).map g), true)), exs_step ?_, H.set hi⟩
  unfold ex
  rw [H.at hl]
  simp only [he, bo]
  rw [fits_ok (by rw [List.length_map]; exact hk), guard_t, List.map_append]
  rfl
theorem sub_at {α : Type} {g : α → D} {cf : Calls} {ρ : Rho} {L : List (Nat × Sl)} {m i : Nat} {A : List (Str × α)} {e1 e2 : E} {r : Ss} {x : Str} {v : α} {b1 b2 : Bool} (H : Live m ρ L) (hl : L.lookup i = some (some (kv g A, true))) (he1 : ev cf ρ e1 h = .ok (.str x, b1, h)) (he2 : ev cf ρ e2 h = .ok (g v, b2, h)) (hi : i < m) (hk : A.length < 16777216) :
    ∃ ρ', exs cf wf (.cons (.sub i e1 e2) r) ⟨ρ, h⟩ = exs cf wf r ⟨ρ', h⟩ ∧ Live m ρ' ((i, some (kv g (putA A x v), true)) :: L) := by
  refine ⟨ρ.set i (some (kv g (putA A x v), true)), exs_step ?_, H.set hi⟩
  have hd : held ρ i = true := by unfold held; rw [H.at hl]
  have pl : place ρ h i = some (true, i, kv g A) := place_own (H.at hl)
  have fitk : fits (row g A).length = true := by rw [row_len]; exact fits_ok hk
  have pt : Mi.putAt (kv g A) (.str x) (g v) = .ok (kv g (putA A x v)) := by
    unfold kv
    show (match D.key? (.str x) with | some k => guard' (fits (row g A).length) (Res.ok (D.dct (put (row g A) k (g v)))) | none => Res.stuck) = _
    simp only [D.key?, fitk, guard_t, put_row]
  unfold ex
  simp only [he2, bo, hd, guard_t, he1, pl, pt]
  rfl
theorem exs_if0 {cf : Calls} {ρ : Rho} {c : E} {a b' r : Ss} {fr : Bool} (e : ev cf ρ c h = .ok (.bl false, fr, h)) (eb : exs cf wf b' ⟨ρ, h⟩ = .ok (.next, ⟨ρ, h⟩)) : exs cf wf (.cons (.iff c a b') r) ⟨ρ, h⟩ = exs cf wf r ⟨ρ, h⟩ := by
  rw [exs_iff e, if_neg (by simp), eb]
  rfl
theorem isn_o {o : Option Str} : cmp .isnot (oD o) .non = .ok o.isSome := by cases o <;> rfl
theorem val_ok {cf : Calls} {ρ : Rho} {A : List (Str × Str)} {w : Str} {o : Option Str} {acc : List (List (Str × Str))} {S0 : Sl} (H : Live 6 ρ [(4, some (oD o, false)), (3, some (dL A, false)), (2, some (.lst (acc.map dL), true)), (1, some (.str w, false)), (0, S0)]) (hA : A.length < 60) (hw : w ∉ A.map (·.1)) (hacc : acc.length < 16777216) :
    ∃ ρ', exs cf wf b_val ⟨ρ, h⟩ = .ok (.next, ⟨ρ', h⟩) ∧ Live 6 ρ' [(3, some (dL A, false)), (2, some (.lst ((acc ++ [ext A w o]).map dL), true)), (1, some (.str w, false)), (0, S0)] := by
  unfold b_val
  obtain ⟨ρ1, e1, H1⟩ := H.asg (cf := cf) (h := h) (h' := h) (wf := wf) (e := .bi .dict (.cons (.pk 3) .nil)) (d := dL A) (b := true) 5 (by simp only [ev_bi, evs_cons, evs_nil, ev_pk, H.p 3 rfl, bo]; rfl)
  rw [e1]
  have c : ev cf ρ1 (.cmp .isnot (.pk 4) .non) h = .ok (.bl o.isSome, false, h) := by
    simp only [ev_cmp, ev_pk, H1.p 4 rfl, bo, ev_non, isn_o]
  have mid : ∃ ρ2, exs cf wf (if o.isSome = true then (.cons (.sub 5 (.pk 1) (.var 4)) .nil) else .nil) ⟨ρ1, h⟩ = .ok (.next, ⟨ρ2, h⟩) ∧ Live 6 ρ2 [(5, some (dL (ext A w o), true)), (3, some (dL A, false)), (2, some (.lst (acc.map dL), true)), (1, some (.str w, false)), (0, S0)] := by
    cases o with
    | none => exact ⟨ρ1, by simp, H1.sub ⟨rfl, rfl, rfl, rfl, rfl, trivial⟩⟩
    | some x =>
      obtain ⟨ρ2, e2, H2⟩ := sub_at (g := D.str) (wf := wf) (cf := cf) (h := h) (r := .nil) (i := 5) (A := A) (e1 := .pk 1) (e2 := .var 4) (x := w) (v := x) H1 rfl (by rw [ev_pk, H1.p 1 rfl]) (by rw [ev_var, H1.v 4 rfl]; rfl) (by decide) (by omega)
      rw [putA_new hw] at H2
      exact ⟨ρ2, by rw [Option.isSome_some, if_pos rfl, e2, exs_nil], H2.sub ⟨rfl, rfl, rfl, rfl, rfl, trivial⟩⟩
  obtain ⟨ρ2, e2, H2⟩ := mid
  rw [exs_iff c, e2, bo]
  obtain ⟨ρ3, e3, H3⟩ := H2.frz1 (cf := cf) (h := h) (wf := wf) (is := []) 5 rfl
  show ∃ ρ', exs cf wf _ (⟨ρ2, h⟩ : Mi.St) = _ ∧ _
  rw [e3, exs_frz0]
  obtain ⟨ρ4, e4, H4⟩ := appD_at (g := dL) (wf := wf) (cf := cf) (h := h) (r := .nil) (i := 2) (e := .var 5) (x := ext A w o) (l := acc) (b := false) H3 rfl (by rw [ev_var, H3.v 5 rfl]) (by decide) hacc
  exact ⟨ρ4, by rw [e4, exs_nil], H4.sub ⟨rfl, rfl, rfl, rfl, trivial⟩⟩
def b_own : Ss := .cons (.fr (.name 4) (.over (.lst (.cons .non (.cons (.str "a") (.cons (.str "b") (.cons (.str "c") (.cons (.str "d") .nil))))))) b_val) .nil
theorem opts_src {cf : Calls} {ρ : Rho} : evi cf ρ (.over (.lst (.cons .non (.cons (.str "a") (.cons (.str "b") (.cons (.str "c") (.cons (.str "d") .nil))))))) h = .ok (opts.map oD, h) := by
  have f2 : fits 5 = true := rfl
  simp only [evi_over, ev_lst, evs_cons, evs_nil, ev_str, ev_non, bo, List.length_cons, List.length_nil, Nat.zero_add, Nat.reduceAdd, f2, guard_t, items_lst]
  rfl
theorem own_ok {cf : Calls} {ρ : Rho} {A : List (Str × Str)} {w : Str} {acc : List (List (Str × Str))} {S0 : Sl} (H : Live 6 ρ [(3, some (dL A, false)), (2, some (.lst (acc.map dL), true)), (1, some (.str w, false)), (0, S0)]) (hA : A.length < 60) (hw : w ∉ A.map (·.1)) (hacc : acc.length < 16777000) :
    ∃ ρ', exs cf wf b_own ⟨ρ, h⟩ = .ok (.next, ⟨ρ', h⟩) ∧ Live 6 ρ' [(2, some (.lst ((acc ++ opts.map (ext A w)).map dL), true)), (1, some (.str w, false)), (0, S0)] := by
  unfold b_own
  obtain ⟨s2, e2, ⟨hs, HL⟩⟩ := exs_fr (wf := wf) (cf := cf) (body := b_val) (r := .nil) (t := 4) (ρ := ρ) (opts_src (h := h)) (fun m s => s.h = h ∧ Live 6 s.ρ [(3, some (dL A, false)), (2, some (.lst ((acc ++ (opts.take m).map (ext A w)).map dL), true)), (1, some (.str w, false)), (0, S0)])
    (fun _ s hs => by rw [hs.2.1]; decide) ⟨rfl, by simpa using H⟩ (fun m x hx s ⟨hs, HL⟩ => by
      rw [List.getElem?_map] at hx
      obtain ⟨o, ho, rfl⟩ := Option.map_eq_some_iff.mp hx
      have hm : m < opts.length := (List.getElem?_eq_some_iff.mp ho).1
      obtain ⟨ρ', e, H2⟩ := val_ok (wf := wf) (cf := cf) (h := s.h) (o := o) ((HL.set (i := 4) (x := some (oD o, false)) (by decide)).sub ⟨rfl, rfl, rfl, rfl, rfl, trivial⟩) hA hw (by
        have : opts.length = 5 := rfl
        simp; omega)
      refine ⟨⟨ρ', s.h⟩, e, hs, ?_⟩
      rw [List.take_add_one, ho]
      simpa using H2)
  rw [e2]
  obtain ⟨ρ2, h2⟩ := s2
  subst hs
  refine ⟨ρ2, by rw [exs_nil], HL.sub ⟨?_, rfl, rfl, trivial⟩⟩
  have : opts.take (opts.map oD).length = opts := rfl
  rw [this]
  rfl
def b_word : Ss := (.cons (.asg (.name 2) (.lst .nil)) (.cons (.frz [0]) (.cons (.fr (.name 3) (.over (.var 0)) b_own) (.cons (.frz [2]) (.cons (.asg (.name 0) (.var 2)) .nil)))))
def exts (L : List (List (Str × Str))) (w : Str) : List (List (Str × Str)) := L.flatMap fun A => opts.map (ext A w)
theorem word_ok {cf : Calls} {ρ : Rho} {w : Str} {L : List (List (Str × Str))} {b : Bool} (H : Live 6 ρ [(1, some (.str w, false)), (0, some (.lst (L.map dL), b))]) (hA : ∀ A ∈ L, A.length < 60 ∧ w ∉ A.map (·.1)) (hl : L.length < 1000) :
    ∃ ρ', exs cf wf b_word ⟨ρ, h⟩ = .ok (.next, ⟨ρ', h⟩) ∧ Live 6 ρ' [(0, some (.lst ((exts L w).map dL), false))] := by
  unfold b_word
  obtain ⟨ρ1, e1, H1⟩ := H.asg (cf := cf) (h := h) (h' := h) (wf := wf) (e := E.lst .nil) (d := .lst (([] : List (List (Str × Str))).map dL)) (b := true) 2 (by simp [fits, big])
  rw [e1]
  obtain ⟨ρ2, e2, H2⟩ := H1.frz1 (cf := cf) (h := h) (wf := wf) (is := []) 0 rfl
  rw [e2, exs_frz0]
  have src : evi cf ρ2 (.over (.var 0)) h = .ok (L.map dL, h) := by
    simp only [evi_over, ev_var, H2.v 0 rfl, bo, items_lst]
  obtain ⟨s3, e3, ⟨hs, HL⟩⟩ := exs_fr (wf := wf) (cf := cf) (body := b_own) (r := (.cons (.frz [2]) (.cons (.asg (.name 0) (.var 2)) .nil))) (t := 3) src (fun m s => s.h = h ∧ Live 6 s.ρ [(2, some (.lst ((exts (L.take m) w).map dL), true)), (1, some (.str w, false)), (0, some (.lst (L.map dL), false))])
    (fun _ s hs => by rw [hs.2.1]; decide) ⟨rfl, H2.sub ⟨rfl, rfl, rfl, trivial⟩⟩ (fun m x hx s ⟨hs, HL⟩ => by
      rw [List.getElem?_map] at hx
      obtain ⟨A, ho, rfl⟩ := Option.map_eq_some_iff.mp hx
      have hm : m < L.length := (List.getElem?_eq_some_iff.mp ho).1
      obtain ⟨q1, q2⟩ := hA A (List.mem_of_getElem? ho)
      obtain ⟨ρ', e, H2⟩ := own_ok (wf := wf) (cf := cf) (h := s.h) ((HL.set (i := 3) (x := some (dL A, false)) (by decide)).sub ⟨rfl, rfl, rfl, rfl, trivial⟩) q1 q2 (by
        have : (exts (L.take m) w).length ≤ 5 * L.length := by
          unfold exts
          rw [List.length_flatMap]
          have : (L.take m).map (fun A => (opts.map (ext A w)).length) = (L.take m).map fun _ => 5 := by
            refine List.map_congr_left fun A _ => ?_
            rw [List.length_map]
            rfl
          rw [this, List.map_const']
          simp
          omega
        omega)
      refine ⟨⟨ρ', s.h⟩, e, hs, ?_⟩
      have : exts (L.take (m + 1)) w = exts (L.take m) w ++ opts.map (ext A w) := by
        unfold exts
        rw [List.take_add_one, ho]
        simp
      rw [this]
      exact H2)
  rw [e3]
  obtain ⟨ρ3, h3⟩ := s3
  subst hs
  rw [List.length_map, List.take_length] at HL
  obtain ⟨ρ4, e4, H4⟩ := HL.frz1 (cf := cf) (h := h3) (wf := wf) (is := []) 2 rfl
  rw [e4, exs_frz0]
  obtain ⟨ρ5, e5, H5⟩ := H4.asg (cf := cf) (h := h3) (h' := h3) (wf := wf) (e := .var 2) (d := .lst ((exts L w).map dL)) (b := false) 0 (by rw [ev_var, H4.v 2 rfl])
  exact ⟨ρ5, by rw [e5, exs_nil], H5.sub ⟨rfl, trivial⟩⟩
theorem b_labels_eq : b__law_all_labels = (.cons (.asg (.name 0) (.lst (.cons (.dct .nil) .nil))) (.cons (.fr (.name 1) (.over (.lst (.cons (.str "app") (.cons (.str "zone") .nil)))) b_word) (.cons (.ret (.pk 0)) .nil))) := rfl
/-- all labels of two words -/
def every : List (List (Str × Str)) := exts (exts [[]] "app") "zone"
theorem r_all_labels : ∃ b, callN prg wf (n + 1) "_law_all_labels" [] h = .ok (.lst (every.map dL), b, h) := by
  suffices q : ∀ ρ0 : Rho, Live 6 ρ0 [] → ∃ (b : Bool) (ρ' : Rho), exs (callN prg wf n) wf b__law_all_labels ⟨ρ0, h⟩ = .ok (.ret (.lst (every.map dL)) b, ⟨ρ', h⟩) by
    obtain ⟨b, ρ', e⟩ := q (Mi.start ⟨0, 6, b__law_all_labels⟩ []) (Live.of rfl (by simp [Mi.start]))
    exact ⟨b, by rw [c__law_all_labels]; exact runF_ret rfl ⟨_, e, rfl⟩⟩
  intro ρ0 H0
  generalize callN prg wf n = cf
  rw [b_labels_eq]
  obtain ⟨ρ1, e1, H1⟩ := H0.asg (cf := cf) (h := h) (h' := h) (wf := wf) (e := E.lst (.cons (E.dct .nil) .nil)) (d := .lst (([[]] : List (List (Str × Str))).map dL)) (b := true) 0 (by simp [fits, big, rows?, merge, guard', dL, kv, row])
  rw [e1]
  have src : evi cf ρ1 (.over (.lst (.cons (.str "app") (.cons (.str "zone") .nil)))) h = .ok ([.str "app", .str "zone"], h) := by
    have f2 : fits 2 = true := rfl
    simp only [evi_over, ev_lst, evs_cons, evs_nil, ev_str, bo, List.length_cons, List.length_nil, Nat.zero_add, Nat.reduceAdd, f2, guard_t, items_lst]
  obtain ⟨s2, e2, h2⟩ := exs_fr (wf := wf) (body := b_word) (r := (.cons (.ret (.pk 0)) .nil)) (t := 1) src (fun m s => s.h = h ∧ ∃ (A : List (List (Str × Str))) (b : Bool), Live 6 s.ρ [(0, some (.lst (A.map dL), b))] ∧ (m = 0 → A = [[]]) ∧ (m = 1 → A = exts [[]] "app") ∧ (m = 2 → A = every))
    (fun _ s ⟨_, _, _, hs, _⟩ => by rw [hs.1]; decide) ⟨rfl, [[]], true, H1.sub ⟨rfl, trivial⟩, fun _ => rfl, (fun q => by cases q), (fun q => by cases q)⟩ (fun m x hx s ⟨hs, A, b, HL, a0, a1, a2⟩ => by
      match m, hx with
      | 0, hx =>
        cases hx
        rw [a0 rfl] at HL
        obtain ⟨ρ', e, H2⟩ := word_ok (wf := wf) (cf := cf) (h := s.h) ((HL.set (i := 1) (x := some (D.str "app", false)) (by decide)).sub ⟨rfl, rfl, trivial⟩) (by decide) (by decide)
        exact ⟨_, e, hs, _, _, H2, (fun q => by cases q), fun _ => rfl, (fun q => by cases q)⟩
      | 1, hx =>
        cases hx
        rw [a1 rfl] at HL
        obtain ⟨ρ', e, H2⟩ := word_ok (wf := wf) (cf := cf) (h := s.h) ((HL.set (i := 1) (x := some (D.str "zone", false)) (by decide)).sub ⟨rfl, rfl, trivial⟩) (by decide) (by decide)
        exact ⟨_, e, hs, _, _, H2, (fun q => by cases q), (fun q => by cases q), fun _ => rfl⟩
      | m + 2, hx => cases hx)
  obtain ⟨hs, A, b, HL, _, _, a2⟩ := h2
  rw [e2]
  obtain ⟨ρs, hh⟩ := s2
  subst hs
  rw [a2 rfl] at HL
  exact ⟨b, ρs, exs_ret (HL.evR 0 rfl)⟩
end K4

set_option Elab.async false
set_option linter.all false
set_option maxRecDepth 100000
set_option maxHeartbeats 8000000
/-! k04: picked, narrower, both_picks. -/
namespace K4
open PySem Mi
variable {n wf : Nat} {h : AH}
theorem in_tw {x : Str} {l : List Str} : cmp .isin (.str x) (tw l) = .ok (decide (x ∈ l)) := by
  have e : (l.map D.str).all D.flat = true := by
    rw [List.all_map]
    exact List.all_eq_true.mpr fun _ _ => rfl
  have e2 : ((l.map D.str).any fun y => D.eqv y (.str x)) = decide (x ∈ l) := by
    rw [List.any_map]
    induction l with
    | nil => simp
    | cons a l ih =>
      rw [List.any_cons]
      have := ih (by rw [List.all_map]; exact List.all_eq_true.mpr fun _ _ => rfl)
      rw [this]
      by_cases z : a = x
      · subst z; simp [D.eqv]
      · have : x ≠ a := fun q => z q.symm
        simp [D.eqv, z, this]
  show guard' ((D.str x).flat && (l.map D.str).all D.flat) (Res.ok ((l.map D.str).any fun y => D.eqv y (.str x))) = _
  rw [e, e2]
  rfl
theorem in_non {l : List Str} : cmp .isin .non (tw l) = .ok false := by
  have e : (l.map D.str).all D.flat = true := by
    rw [List.all_map]
    exact List.all_eq_true.mpr fun _ _ => rfl
  have e2 : ((l.map D.str).any fun y => D.eqv y .non) = false := by
    rw [List.any_map]
    induction l with
    | nil => rfl
    | cons a l ih => rw [List.any_cons, ih (by rw [List.all_map]; exact List.all_eq_true.mpr fun _ _ => rfl)]; simp [D.eqv]
  show guard' (D.non.flat && (l.map D.str).all D.flat) (Res.ok ((l.map D.str).any fun y => D.eqv y .non)) = _
  rw [e, e2]
  rfl
theorem in_kv {α : Type} {g : α → D} {A : List (Str × α)} {x : Str} : cmp .isin (.str x) (kv g A) = .ok (lk A x).isSome := by
  show (match D.key? (.str x) with | some k => Res.ok (look (row g A) k).isSome | none => Res.stuck) = _
  simp only [D.key?, look_row, Option.isSome_map]
theorem nin {x y : D} {b : Bool} (e : cmp .isin x y = .ok b) : cmp .notin x y = .ok (!b) := by
  have : cmp .notin x y = (cmp .isin x y).bind fun b => .ok (!b) := rfl
  rw [this, e, bo]
theorem idx_kv {α : Type} {g : α → D} {A : List (Str × α)} {x : Str} {v : α} (e : lk A x = some v) : idx (kv g A) (.str x) = .ok (g v) := by
  unfold kv
  rw [idx_dct, look_row, e, Option.map_some, osm]
theorem deref_kv {α : Type} {g : α → D} {A : List (Str × α)} : deref h (kv g A) = kv g A := rfl
theorem deref_tw {l : List Str} : deref h (tw l) = tw l := rfl
theorem src_kv {α : Type} {g : α → D} {A : List (Str × α)} {cf : Calls} {ρ : Rho} {e : E} {b : Bool} (he : ev cf ρ e h = .ok (kv g A, b, h)) : evi cf ρ (.over e) h = .ok (A.map fun p => D.str p.1, h) := by
  simp only [evi_over, he, bo]
  unfold kv
  simp only [items_dct, row_keys]
theorem src_tw {l : List Str} {cf : Calls} {ρ : Rho} {e : E} {b : Bool} (he : ev cf ρ e h = .ok (tw l, b, h)) : evi cf ρ (.over e) h = .ok (l.map D.str, h) := by
  simp only [evi_over, he, bo]
  unfold tw
  simp only [items_tup]
/-- all rows of a comprehension -/
theorem ev_all {α : Type} {cf : Calls} {ρ : Rho} {t : Nat} {e : E} {it : It} (p : α → D) (q : α → Bool) (l : List α) (src : evi cf ρ it h = .ok (l.map p, h)) (ho : t < ρ.length) (hq : ∀ a ∈ l, ∃ b, ev cf (ρ.set t (some (p a, false))) e h = .ok (.bl (q a), b, h)) (hl : l.length < 16777216) :
    ev cf ρ (.bi .all (.cons (.lc [t] (.name t) it (.bl true) e) .nil)) h = .ok (.bl (l.all q), true, h) := by
  rw [ev_bi, evs_cons, lc_map p (fun a => D.bl (q a)) l src ho hq hl]
  simp only [bo, evs_nil, bi_all]
theorem and_t {cf : Calls} {ρ : Rho} {a b : E} {x y : Bool} {f1 f2 : Bool} (ha : ev cf ρ a h = .ok (.bl x, f1, h)) (hb : x = true → ev cf ρ b h = .ok (.bl y, f2, h)) (hy : x = false → y = false) : ev cf ρ (.and a b) h = .ok (.bl y, false, h) := by
  rw [ev_and, ha, bo, boolK_bl]
  cases x with
  | true => rw [if_pos rfl, hb rfl, bo]
  | false => rw [if_neg (by simp), hy rfl]
/-- whether labels are picked -/
def pkB (A : List (Str × List Str)) (B : List (Str × Str)) : Bool := A.all fun p => match lk B p.1 with | some v => decide (v ∈ p.2) | none => false
theorem r_picked {A : List (Str × List Str)} {B : List (Str × Str)} (nA : (A.map (·.1)).Nodup) (hl : A.length < 64) : callN prg wf (n + 1) "picked" [dP A, dL B] h = .ok (.bl (pkB A B), true, h) := by
  rw [c_picked]
  suffices q : ∀ ρ0 : Rho, Live 3 ρ0 [(0, some (dP A, false)), (1, some (dL B, false))] → exs (callN prg wf n) wf b_picked ⟨ρ0, h⟩ = .ok (.ret (.bl (pkB A B)) true, ⟨ρ0, h⟩) from runF_ret rfl ⟨_, q (Mi.start ⟨2, 3, b_picked⟩ [dP A, dL B]) (Live.of rfl (by simp [Mi.start])), rfl⟩
  intro ρ0 H0
  generalize callN prg wf n = cf
  unfold b_picked
  refine exs_ret ?_
  rw [evR_of (by intro i; simp)]
  refine ev_all (fun p : Str × List Str => D.str p.1) (fun p => match lk B p.1 with | some v => decide (v ∈ p.2) | none => false) A (src_kv (by rw [ev_var, H0.v 0 rfl]; rfl)) (by rw [H0.1]; decide) (fun p hp => ⟨false, ?_⟩) (by omega)
  have H1 := H0.set (i := 2) (x := some (D.str p.1, false)) (by decide)
  refine and_t (x := (lk B p.1).isSome) (f1 := false) (f2 := false) ?_ (fun z => ?_) (fun z => ?_)
  · simp only [ev_cmp, ev_pk, H1.p 2 rfl, H1.p 1 rfl, bo]
    unfold dL
    simp only [in_kv, bo]
  · obtain ⟨v, ev'⟩ := Option.isSome_iff_exists.mp z
    rw [ev']
    simp only [ev_cmp, ev_idx, ev_pk, H1.p 2 rfl, H1.p 1 rfl, H1.p 0 rfl, bo]
    unfold dL dP
    simp only [deref_kv, idx_kv ev', idx_kv (lk_mem nA hp), bo, in_tw]
  · have : lk B p.1 = none := by simpa using z
    rw [this]
theorem eq_strs0 {l : List Str} : cmp .eq (.lst (l.map D.str)) (.lst []) = .ok l.isEmpty := by
  cases l <;> simp [cmp, eqB, eqOK, eqAll, guard', D.eqv, eqvs]
theorem r_is_picked {A : List (Str × List Str)} {B : List (Str × Str)} (nA : (A.map (·.1)).Nodup) (hl : A.length < 64) : callN prg wf (n + 1) "_law_is_picked" [dP A, dL B] h = .ok (.bl (pkB A B), false, h) := by
  rw [c__law_is_picked]
  suffices q : ∀ ρ0 : Rho, Live 3 ρ0 [(0, some (dP A, false)), (1, some (dL B, false))] → exs (callN prg wf n) wf b__law_is_picked ⟨ρ0, h⟩ = .ok (.ret (.bl (pkB A B)) false, ⟨ρ0, h⟩) from runF_ret rfl ⟨_, q (Mi.start ⟨2, 3, b__law_is_picked⟩ [dP A, dL B]) (Live.of rfl (by simp [Mi.start])), rfl⟩
  intro ρ0 H0
  generalize callN prg wf n = cf
  unfold b__law_is_picked
  refine exs_ret ?_
  rw [evR_of (by intro i; simp), ev_cmp, lc_fil (fun p : Str × List Str => D.str p.1) (fun p => D.str p.1) (fun p => !(match lk B p.1 with | some v => decide (v ∈ p.2) | none => false)) A (src_kv (by rw [ev_var, H0.v 0 rfl]; rfl)) (by rw [H0.1]; decide) (fun p hp => ⟨false, ?_⟩) (fun p hp _ => ⟨false, by
    have H1 := H0.set (i := 2) (x := some (D.str p.1, false)) (by decide)
    rw [ev_var, H1.v 2 rfl]⟩) (by omega)]
  · rw [show (List.map (fun p : Str × List Str => D.str p.1) (A.filter fun p => !(match lk B p.1 with | some v => decide (v ∈ p.2) | none => false))) = ((A.filter fun p => !(match lk B p.1 with | some v => decide (v ∈ p.2) | none => false)).map (·.1)).map D.str by rw [List.map_map]; rfl]
    have f2 : fits 0 = true := rfl
    simp only [bo, ev_lst, evs_nil, List.length_nil, f2, guard_t, eq_strs0]
    congr 3
    rw [List.isEmpty_map]
    unfold pkB
    clear nA hl H0
    induction A with
    | nil => rfl
    | cons p A ih =>
      rw [List.filter_cons, List.all_cons, ← ih]
      cases (match lk B p.1 with | some v => decide (v ∈ p.2) | none => false) <;> simp
  · have H1 := H0.set (i := 2) (x := some (D.str p.1, false)) (by decide)
    have g : cmp .isin (((lk B p.1).map D.str).getD .non) (tw p.2) = .ok (match lk B p.1 with | some v => decide (v ∈ p.2) | none => false) := by
      cases lk B p.1 with
      | none => exact in_non
      | some v => exact in_tw
    simp only [ev_cmp, ev_idx, ev_get, evs_cons, evs_nil, ev_pk, H1.p 2 rfl, H1.p 1 rfl, H1.p 0 rfl, bo]
    unfold dL dP
    simp only [deref_kv, idx_kv (lk_mem nA hp), bo]
    unfold kv
    simp only [isDct_dct, guard_t, getD1, bo, look_row, nin g]
theorem r_within {l1 l2 : List Str} (hl : l1.length < 64) : callN prg wf (n + 1) "is_within" [tw l1, tw l2] h = .ok (.bl (l1.all fun x => decide (x ∈ l2)), true, h) := by
  rw [c_is_within]
  suffices q : ∀ ρ0 : Rho, Live 3 ρ0 [(0, some (tw l1, false)), (1, some (tw l2, false))] → exs (callN prg wf n) wf b_is_within ⟨ρ0, h⟩ = .ok (.ret (.bl (l1.all fun x => decide (x ∈ l2))) true, ⟨ρ0, h⟩) from runF_ret rfl ⟨_, q (Mi.start ⟨2, 3, b_is_within⟩ [tw l1, tw l2]) (Live.of rfl (by simp [Mi.start])), rfl⟩
  intro ρ0 H0
  generalize callN prg wf n = cf
  unfold b_is_within
  refine exs_ret ?_
  rw [evR_of (by intro i; simp)]
  refine ev_all D.str (fun x => decide (x ∈ l2)) l1 (src_tw (by rw [ev_var, H0.v 0 rfl])) (by rw [H0.1]; decide) (fun x hx => ⟨false, ?_⟩) (by omega)
  have H1 := H0.set (i := 2) (x := some (D.str x, false)) (by decide)
  simp only [ev_cmp, ev_pk, H1.p 2 rfl, H1.p 1 rfl, bo, in_tw]
/-- whether one is narrower -/
def nrB (A B : List (Str × List Str)) : Bool := B.all fun p => match lk A p.1 with | some v => v.all fun x => decide (x ∈ p.2) | none => false
theorem r_narrower {A B : List (Str × List Str)} (nA : (A.map (·.1)).Nodup) (nB : (B.map (·.1)).Nodup) (hl : B.length < 64) (hA : ∀ x v, lk A x = some v → v.length < 64) : callN prg wf (n + 2) "narrower" [dP A, dP B] h = .ok (.bl (nrB A B), true, h) := by
  rw [show n + 2 = (n + 1) + 1 from rfl, c_narrower]
  suffices q : ∀ ρ0 : Rho, Live 3 ρ0 [(0, some (dP A, false)), (1, some (dP B, false))] → exs (callN prg wf (n + 1)) wf b_narrower ⟨ρ0, h⟩ = .ok (.ret (.bl (nrB A B)) true, ⟨ρ0, h⟩) from runF_ret rfl ⟨_, q (Mi.start ⟨2, 3, b_narrower⟩ [dP A, dP B]) (Live.of rfl (by simp [Mi.start])), rfl⟩
  intro ρ0 H0
  unfold b_narrower
  refine exs_ret ?_
  rw [evR_of (by intro i; simp)]
  refine ev_all (fun p : Str × List Str => D.str p.1) (fun p => match lk A p.1 with | some v => v.all fun x => decide (x ∈ p.2) | none => false) B (src_kv (by rw [ev_var, H0.v 1 rfl]; rfl)) (by rw [H0.1]; decide) (fun p hp => ⟨false, ?_⟩) (by omega)
  have H1 := H0.set (i := 2) (x := some (D.str p.1, false)) (by decide)
  refine and_t (x := (lk A p.1).isSome) (f1 := false) (f2 := true) ?_ (fun z => ?_) (fun z => ?_)
  · simp only [ev_cmp, ev_pk, H1.p 2 rfl, H1.p 0 rfl, bo]
    unfold dP
    simp only [in_kv, bo]
  · obtain ⟨v, ev'⟩ := Option.isSome_iff_exists.mp z
    rw [ev']
    simp only [ev_call, evs_cons, evs_nil, ev_idx, ev_pk, H1.p 2 rfl, H1.p 1 rfl, H1.p 0 rfl, bo]
    unfold dP
    simp only [deref_kv, idx_kv ev', idx_kv (lk_mem nB hp), bo, r_within (wf := wf) (n := n) (h := h) (hA _ _ ev')]
  · have : lk A p.1 = none := by simpa using z
    rw [this]
/-- what both pick at a word -/
def bothW (A B : List (Str × List Str)) (w : Str) : List Str := match lk A w, lk B w with
  | some a, some b => a.filter fun x => decide (x ∈ b)
  | some a, none => a
  | none, some b => b
  | none, none => []
def bothR (A B : List (Str × List Str)) : List (Str × List Str) := (sortS (dedup (A.map (·.1) ++ B.map (·.1)))).map fun w => (w, bothW A B w)
end K4

set_option Elab.async false
set_option linter.all false
set_option maxRecDepth 100000
set_option maxHeartbeats 8000000
/-! k04: both_picks, is_picks. -/
namespace K4
open PySem Mi
variable {n wf : Nat} {h : AH}
theorem dedup_mem {α : Type} [DecidableEq α] {x : α} : ∀ {l : List α}, x ∈ dedup l ↔ x ∈ l
  | [] => by simp [dedup]
  | a :: l => by
    have ih := dedup_mem (x := x) (l := l)
    unfold dedup
    split
    · rename_i q
      rw [ih, List.mem_cons]
      exact ⟨.inr, fun z => z.elim (fun e => e ▸ q) id⟩
    · rw [List.mem_cons, List.mem_cons, ih]
theorem dedup_nd {α : Type} [DecidableEq α] : ∀ {l : List α}, (dedup l).Nodup
  | [] => by simp [dedup]
  | a :: l => by
    have ih := dedup_nd (l := l)
    unfold dedup
    split
    · exact ih
    · rename_i q
      exact List.nodup_cons.mpr ⟨fun z => q (dedup_mem.mp z), ih⟩
theorem dedup_len {α : Type} [DecidableEq α] : ∀ {l : List α}, (dedup l).length ≤ l.length
  | [] => by simp [dedup]
  | a :: l => by
    have ih := dedup_len (l := l)
    unfold dedup
    split
    · simp; omega
    · simp; omega
def wsAB (A B : List (Str × List Str)) : List Str := sortS (dedup (A.map (·.1) ++ B.map (·.1)))
theorem wsAB_nd {A B : List (Str × List Str)} : (wsAB A B).Nodup := sortS_nodup dedup_nd
theorem wsAB_len {A B : List (Str × List Str)} : (wsAB A B).length ≤ A.length + B.length := by
  unfold wsAB
  rw [sortS_len]
  refine Nat.le_trans dedup_len ?_
  simp
theorem wsAB_mem {A B : List (Str × List Str)} {x : Str} : x ∈ wsAB A B ↔ x ∈ A.map (·.1) ∨ x ∈ B.map (·.1) := by
  unfold wsAB
  rw [sortS_mem, dedup_mem, List.mem_append]
def b_both : Ss := (.cons (.iff (.and (.cmp .isin (.pk 3) (.pk 0)) (.cmp .isin (.pk 3) (.pk 1))) (.cons (.sub 2 (.pk 3) (.bi .tuple (.cons (.lc [4] (.name 4) (.over (.idx (.pk 0) (.pk 3))) (.cmp .isin (.pk 4) (.idx (.pk 1) (.pk 3))) (.var 4)) .nil))) .nil) (.cons (.sub 2 (.pk 3) (.ite (.cmp .isin (.pk 3) (.pk 0)) (.idx (.pk 0) (.pk 3)) (.idx (.pk 1) (.pk 3)))) .nil)) .nil)
theorem b_both_eq : b_both_picks = (.cons (.asg (.name 2) (.dct .nil)) (.cons (.fr (.name 3) (.over (.bi .sortset (.cons (.bin .add (.bi .list (.cons (.pk 0) .nil)) (.bi .list (.cons (.pk 1) .nil))) .nil))) b_both) (.cons (.frz [2]) (.cons (.ret (.ite (.bi .all (.cons (.lc [3] (.name 3) (.over (.var 2)) (.bl true) (.cmp .ne (.idx (.pk 2) (.pk 3)) (.tup .nil))) .nil)) (.var 2) .non)) .nil)))) := rfl
theorem exs_if1 {cf : Calls} {ρ : Rho} {c : E} {a b' r : Ss} {fr : Bool} {s' : Mi.St} (k : Bool) (e : ev cf ρ c h = .ok (.bl k, fr, h)) (eb : exs cf wf (if k then a else b') ⟨ρ, h⟩ = .ok (.next, s')) : exs cf wf (.cons (.iff c a b') r) ⟨ρ, h⟩ = exs cf wf r s' := by
  rw [exs_iff e, eb]
  rfl
theorem both_ok {cf : Calls} {ρ : Rho} {A B F : List (Str × List Str)} {w : Str} (H : Live 5 ρ [(3, some (.str w, false)), (2, some (dP F, true)), (1, some (dP B, false)), (0, some (dP A, false))]) (hF : F.length < 1000) (hw : w ∉ F.map (·.1)) (hwAB : (lk A w).isSome || (lk B w).isSome) (hA : ∀ x v, lk A x = some v → v.length < 64) :
    ∃ ρ', exs cf wf b_both ⟨ρ, h⟩ = .ok (.next, ⟨ρ', h⟩) ∧ Live 5 ρ' [(2, some (dP (F ++ [(w, bothW A B w)]), true)), (1, some (dP B, false)), (0, some (dP A, false))] := by
  unfold b_both
  have i0 : ev cf ρ (.cmp .isin (.pk 3) (.pk 0)) h = .ok (.bl (lk A w).isSome, false, h) := by
    simp only [ev_cmp, ev_pk, H.p 3 rfl, H.p 0 rfl, bo]
    unfold dP
    simp only [in_kv, bo]
  have i1 : ev cf ρ (.cmp .isin (.pk 3) (.pk 1)) h = .ok (.bl (lk B w).isSome, false, h) := by
    simp only [ev_cmp, ev_pk, H.p 3 rfl, H.p 1 rfl, bo]
    unfold dP
    simp only [in_kv, bo]
  have c : ev cf ρ (.and (.cmp .isin (.pk 3) (.pk 0)) (.cmp .isin (.pk 3) (.pk 1))) h = .ok (.bl ((lk A w).isSome && (lk B w).isSome), false, h) := by
    rw [ev_and, i0, bo, boolK_bl, i1]
    cases (lk A w).isSome <;> rfl
  have x0 : ∀ v, lk A w = some v → ev cf ρ (.idx (.pk 0) (.pk 3)) h = .ok (tw v, false, h) := fun v e => by
    simp only [ev_idx, ev_pk, H.p 3 rfl, H.p 0 rfl, bo]
    unfold dP
    simp only [deref_kv, idx_kv e, bo]
  have x1 : ∀ v, lk B w = some v → ev cf ρ (.idx (.pk 1) (.pk 3)) h = .ok (tw v, false, h) := fun v e => by
    simp only [ev_idx, ev_pk, H.p 3 rfl, H.p 1 rfl, bo]
    unfold dP
    simp only [deref_kv, idx_kv e, bo]
  have fin : ∀ (e : E) (b : Bool), ev cf ρ e h = .ok (tw (bothW A B w), b, h) → ∃ ρ', exs cf wf (.cons (.sub 2 (.pk 3) e) .nil) ⟨ρ, h⟩ = .ok (.next, ⟨ρ', h⟩) ∧ Live 5 ρ' [(2, some (dP (F ++ [(w, bothW A B w)]), true)), (1, some (dP B, false)), (0, some (dP A, false))] := fun e b he => by
    obtain ⟨ρ2, e2, H2⟩ := sub_at (g := tw) (wf := wf) (cf := cf) (h := h) (r := .nil) (i := 2) (A := F) (e1 := .pk 3) (e2 := e) (x := w) (v := bothW A B w) H rfl (by rw [ev_pk, H.p 3 rfl]) he (by decide) (by omega)
    rw [putA_new hw] at H2
    exact ⟨ρ2, by rw [e2, exs_nil], H2.sub ⟨rfl, rfl, rfl, trivial⟩⟩
  cases ea : lk A w with
  | none =>
    cases eb : lk B w with
    | none => rw [ea, eb] at hwAB; cases hwAB
    | some b =>
      obtain ⟨ρ', e, H2⟩ := fin (.ite (.cmp .isin (.pk 3) (.pk 0)) (.idx (.pk 0) (.pk 3)) (.idx (.pk 1) (.pk 3))) false (by
        rw [ev_ite, i0, bo, boolK_bl, ea, if_neg (by simp), x1 b eb]
        unfold bothW
        rw [ea, eb])
      exact ⟨ρ', by rw [exs_if1 false (by rw [c, ea]; rfl) e, exs_nil], H2⟩
  | some a =>
    cases eb : lk B w with
    | none =>
      obtain ⟨ρ', e, H2⟩ := fin (.ite (.cmp .isin (.pk 3) (.pk 0)) (.idx (.pk 0) (.pk 3)) (.idx (.pk 1) (.pk 3))) false (by
        rw [ev_ite, i0, bo, boolK_bl, ea, if_pos (by simp), x0 a ea]
        unfold bothW
        rw [ea, eb])
      exact ⟨ρ', by rw [exs_if1 false (by rw [c, ea, eb]; rfl) e, exs_nil], H2⟩
    | some b =>
      obtain ⟨ρ', e, H2⟩ := fin (.bi .tuple (.cons (.lc [4] (.name 4) (.over (.idx (.pk 0) (.pk 3))) (.cmp .isin (.pk 4) (.idx (.pk 1) (.pk 3))) (.var 4)) .nil)) true (by
        rw [ev_bi, evs_cons, lc_fil D.str D.str (fun x => decide (x ∈ b)) a (src_tw (x0 a ea)) (by rw [H.1]; decide) (fun x hx => ⟨false, by
          have H1 := H.set (i := 4) (x := some (D.str x, false)) (by decide)
          simp only [ev_cmp, ev_idx, ev_pk, H1.p 4 rfl, H1.p 3 rfl, H1.p 1 rfl, bo]
          unfold dP
          simp only [deref_kv, idx_kv eb, bo, in_tw]⟩) (fun x hx _ => ⟨false, by
          have H1 := H.set (i := 4) (x := some (D.str x, false)) (by decide)
          rw [ev_var, H1.v 4 rfl]⟩) (by have := hA _ _ ea; omega)]
        simp only [bo, evs_nil, bi_tuple]
        unfold bothW
        rw [ea, eb]
        rfl)
      exact ⟨ρ', by rw [exs_if1 true (by rw [c, ea, eb]; rfl) e, exs_nil], H2⟩
theorem bothR_keys {A B : List (Str × List Str)} : (bothR A B).map (·.1) = wsAB A B := by
  unfold bothR
  rw [List.map_map]
  exact List.map_id _
theorem r_both {A B : List (Str × List Str)} (hA0 : A.length < 10) (hB0 : B.length < 10) (hA : ∀ x v, lk A x = some v → v.length < 64) : callN prg wf (n + 1) "both_picks" [dP A, dP B] h = .ok (if (bothR A B).all (fun p => !p.2.isEmpty) then dP (bothR A B) else .non, false, h) := by
  rw [c_both_picks]
  suffices q : ∀ ρ0 : Rho, Live 5 ρ0 [(0, some (dP A, false)), (1, some (dP B, false))] → ∃ ρ', exs (callN prg wf n) wf b_both_picks ⟨ρ0, h⟩ = .ok (.ret (if (bothR A B).all (fun p => !p.2.isEmpty) then dP (bothR A B) else .non) false, ⟨ρ', h⟩) by
    obtain ⟨ρ', e⟩ := q (Mi.start ⟨2, 5, b_both_picks⟩ [dP A, dP B]) (Live.of rfl (by simp [Mi.start]))
    exact runF_ret rfl ⟨_, e, rfl⟩
  intro ρ0 H0
  generalize callN prg wf n = cf
  rw [b_both_eq]
  obtain ⟨ρ1, e1, H1⟩ := H0.asg (cf := cf) (h := h) (h' := h) (wf := wf) (e := E.dct .nil) (d := dP []) (b := true) 2 (by simp [rows?, merge, guard', dP, kv, row])
  rw [e1]
  have src : evi cf ρ1 (.over (.bi .sortset (.cons (.bin .add (.bi .list (.cons (.pk 0) .nil)) (.bi .list (.cons (.pk 1) .nil))) .nil))) h = .ok ((wsAB A B).map D.str, h) := by
    have a1 : Mi.bin .add (.lst ((A.map (·.1)).map D.str)) (.lst ((B.map (·.1)).map D.str)) = .ok (.lst ((A.map (·.1) ++ B.map (·.1)).map D.str)) := by
      unfold Mi.bin
      simp only [List.length_map]
      rw [decide_eq_true (show A.length + B.length ≤ big by unfold big; omega), guard_t, List.map_append]
    have a2 : Mi.bi .sortset [.lst ((A.map (·.1) ++ B.map (·.1)).map D.str)] = .ok (.lst ((wsAB A B).map D.str)) := by
      unfold Mi.bi sortSet?
      simp only [strs_map]
      rw [if_pos (by simp; omega)]
      rfl
    have l1 : ∀ A : List (Str × List Str), Mi.bi .list [dP A] = .ok (.lst ((A.map (·.1)).map D.str)) := fun A => by
      unfold dP kv
      rw [bi_list_dct, row_keys, List.map_map]
      rfl
    simp only [evi_over, ev_bi, evs_cons, evs_nil, ev_bin, ev_pk, H1.p 0 rfl, H1.p 1 rfl, bo, l1, a1, a2, items_lst]
  have lAB := wsAB_len (A := A) (B := B)
  obtain ⟨s2, e2, ⟨hs, HL⟩⟩ := exs_fr (wf := wf) (body := b_both) (r := (.cons (.frz [2]) (.cons (.ret (.ite (.bi .all (.cons (.lc [3] (.name 3) (.over (.var 2)) (.bl true) (.cmp .ne (.idx (.pk 2) (.pk 3)) (.tup .nil))) .nil)) (.var 2) .non)) .nil))) (t := 3) src (fun m s => s.h = h ∧ Live 5 s.ρ [(2, some (dP ((bothR A B).take m), true)), (1, some (dP B, false)), (0, some (dP A, false))])
    (fun _ s hs => by rw [hs.2.1]; decide) ⟨rfl, H1.sub ⟨rfl, rfl, rfl, trivial⟩⟩ (fun m x hx s ⟨hs, HL⟩ => by
      rw [List.getElem?_map] at hx
      obtain ⟨w, ho, rfl⟩ := Option.map_eq_some_iff.mp hx
      have hm : m < (wsAB A B).length := (List.getElem?_eq_some_iff.mp ho).1
      have hw : w ∈ wsAB A B := List.mem_of_getElem? ho
      have e0 : (bothR A B)[m]? = some (w, bothW A B w) := by
        show (List.map _ (wsAB A B))[m]? = _
        rw [List.getElem?_map, ho]
        rfl
      obtain ⟨ρ', e, H2⟩ := both_ok (wf := wf) (cf := cf) (h := s.h) (w := w) (F := (bothR A B).take m) ((HL.set (i := 3) (x := some (D.str w, false)) (by decide)).sub ⟨rfl, rfl, rfl, rfl, trivial⟩) (by
        rw [List.length_take]
        have : (bothR A B).length = (wsAB A B).length := by rw [← bothR_keys, List.length_map]
        omega) (by
        rw [List.map_take, bothR_keys]
        intro z
        obtain ⟨i, hi, e⟩ := List.mem_take_iff_getElem.mp z
        obtain ⟨_, e3⟩ := List.getElem?_eq_some_iff.mp ho
        have := (List.getElem_inj wsAB_nd).mp (e.trans e3.symm)
        omega) (by
        rcases wsAB_mem.mp hw with z | z
        · obtain ⟨v, ev'⟩ := lk_some z
          rw [ev']
          rfl
        · obtain ⟨v, ev'⟩ := lk_some z
          rw [ev']
          cases lk A w <;> rfl) hA
      refine ⟨⟨ρ', s.h⟩, e, hs, ?_⟩
      rw [List.take_add_one, e0]
      exact H2)
  rw [e2]
  obtain ⟨ρ2, h2⟩ := s2
  subst hs
  have lb : (bothR A B).length = (wsAB A B).length := by rw [← bothR_keys, List.length_map]
  rw [List.length_map, ← lb, List.take_length] at HL
  obtain ⟨ρ4, e4, H4⟩ := HL.frz1 (cf := cf) (h := h2) (wf := wf) (is := []) 2 rfl
  rw [e4, exs_frz0]
  have nb : ((bothR A B).map (·.1)).Nodup := by rw [bothR_keys]; exact wsAB_nd
  have al : ev cf ρ4 (.bi .all (.cons (.lc [3] (.name 3) (.over (.var 2)) (.bl true) (.cmp .ne (.idx (.pk 2) (.pk 3)) (.tup .nil))) .nil)) h2 = .ok (.bl ((bothR A B).all fun p => !p.2.isEmpty), true, h2) := by
    refine ev_all (fun p : Str × List Str => D.str p.1) (fun p => !p.2.isEmpty) (bothR A B) (src_kv (by rw [ev_var, H4.v 2 rfl]; rfl)) (by rw [H4.1]; decide) (fun p hp => ⟨false, ?_⟩) (by omega)
    have H1 := H4.set (i := 3) (x := some (D.str p.1, false)) (by decide)
    have f2 : fits 0 = true := rfl
    simp only [ev_cmp, ev_idx, ev_pk, H1.p 3 rfl, H1.p 2 rfl, bo]
    unfold dP
    simp only [deref_kv, idx_kv (lk_mem nb hp), bo, ev_tup, evs_nil, List.length_nil, f2, guard_t, ne_tup0]
  refine ⟨ρ4, exs_ret ?_⟩
  rw [evR_of (by intro i; simp), ev_ite, al, bo, boolK_bl]
  split
  · rw [ev_var, H4.v 2 rfl]
  · rw [ev_non]
end K4

set_option Elab.async false
set_option linter.all false
set_option maxRecDepth 100000
set_option maxHeartbeats 8000000
/-! k04: is_picks, alike. -/
namespace K4
open PySem Mi
variable {n wf : Nat} {h : AH}
def ascB (l : List Str) : Bool := (List.range (l.length - 1)).all fun k => ltStr (l.getD k "") (l.getD (k + 1) "")
theorem at_tw {l : List Str} {k : Nat} (hk : k < l.length) : idx (tw l) (.int (k : Int)) = .ok (.str (l.getD k "")) := by
  unfold tw
  rw [idx_tup, atI_nat, List.getElem?_map, List.getElem?_eq_getElem hk, Option.map_some, osm, List.getD_eq_getElem?_getD, List.getElem?_eq_getElem hk]
  rfl
theorem r_ascending {l : List Str} (hl : l.length < 64) (h0 : l ≠ []) : callN prg wf (n + 1) "is_ascending" [tw l] h = .ok (.bl (ascB l), true, h) := by
  rw [c_is_ascending]
  suffices q : ∀ ρ0 : Rho, Live 2 ρ0 [(0, some (tw l, false))] → exs (callN prg wf n) wf b_is_ascending ⟨ρ0, h⟩ = .ok (.ret (.bl (ascB l)) true, ⟨ρ0, h⟩) from runF_ret rfl ⟨_, q (Mi.start ⟨1, 2, b_is_ascending⟩ [tw l]) (Live.of rfl (by simp [Mi.start])), rfl⟩
  intro ρ0 H0
  generalize callN prg wf n = cf
  unfold b_is_ascending
  refine exs_ret ?_
  rw [evR_of (by intro i; simp)]
  have h1 : 0 < l.length := List.length_pos_iff.mpr h0
  have bl : Mi.bi .len [tw l] = .ok (.int (l.length : Int)) := by
    unfold tw
    rw [bi_len_tup, List.length_map]
  refine ev_all (fun k : Nat => D.int (k : Int)) (fun k => ltStr (l.getD k "") (l.getD (k + 1) "")) (List.range (l.length - 1)) (src_range (b := true) (by
    simp only [ev_bin, ev_bi, evs_cons, evs_nil, ev_pk, H0.p 0 rfl, bo, bl, ev_int, sub_int]
    rw [show (l.length : Int) - 1 = ((l.length - 1 : Nat) : Int) by omega]) (by omega)) (by rw [H0.1]; decide) (fun k hk => ⟨false, ?_⟩) (by simp; omega)
  have H1 := H0.set (i := 1) (x := some (D.int (k : Int), false)) (by decide)
  have hk := List.mem_range.mp hk
  have e2 : (k : Int) + 1 = ((k + 1 : Nat) : Int) := by omega
  simp only [ev_cmp, ev_idx, ev_pk, H1.p 0 rfl, H1.p 1 rfl, bo, deref_tw, at_tw (show k < l.length by omega), ev_bin, ev_int, add_int, e2, at_tw (show k + 1 < l.length by omega), cmp_ltS]
def wsB (l : List Str) : Bool := !l.isEmpty && (l.all nameB && ascB l)
def okW (l : List Str) : Prop := l.length < 64 ∧ ∀ x ∈ l, x.cps.toList.length < 16777216
theorem isi_tw {l : List Str} : Mi.bi (.isinst "tuple") [tw l] = .ok (.bl true) := rfl
theorem r_word_set {l : List Str} (ok : okW l) : ∃ fr, callN prg wf (n + 2) "is_word_set" [tw l] h = .ok (.bl (wsB l), fr, h) := by
  rw [show n + 2 = (n + 1) + 1 from rfl, c_is_word_set]
  suffices q : ∀ ρ0 : Rho, Live 2 ρ0 [(0, some (tw l, false))] → exs (callN prg wf (n + 1)) wf b_is_word_set ⟨ρ0, h⟩ = .ok (.ret (.bl (wsB l)) false, ⟨ρ0, h⟩) from ⟨false, runF_ret rfl ⟨_, q (Mi.start ⟨1, 2, b_is_word_set⟩ [tw l]) (Live.of rfl (by simp [Mi.start])), rfl⟩⟩
  intro ρ0 H0
  unfold b_is_word_set
  refine exs_ret ?_
  rw [evR_of (by intro i; simp)]
  refine and_t (x := true) (f1 := true) (f2 := false) (by simp only [ev_bi, evs_cons, evs_nil, ev_pk, H0.p 0 rfl, bo, isi_tw]) (fun _ => ?_) (fun q => by cases q)
  have f2 : fits 0 = true := rfl
  refine and_t (x := !l.isEmpty) (f1 := false) (f2 := false) (by simp only [ev_cmp, ev_pk, H0.p 0 rfl, bo, ev_tup, evs_nil, List.length_nil, f2, guard_t, ne_tup0]) (fun z => ?_) (fun z => by unfold wsB; rw [z]; rfl)
  have h0 : l ≠ [] := by
    intro q
    subst q
    cases z
  have : wsB l = (l.all nameB && ascB l) := by unfold wsB; rw [z]; rfl
  rw [this]
  refine and_t (x := l.all nameB) (f1 := true) (f2 := true) (ev_all D.str nameB l (src_tw (by rw [ev_var, H0.v 0 rfl])) (by rw [H0.1]; decide) (fun x hx => ⟨false, ?_⟩) (by have := ok.1; omega)) (fun z => ?_) (fun z => by rw [z]; rfl)
  · have H1 := H0.set (i := 1) (x := some (D.str x, false)) (by decide)
    simp only [ev_call, evs_cons, evs_nil, ev_var, H1.v 1 rfl, bo, r_is_name (ok.2 x hx) (show 1 ≤ n + 1 by omega)]
  · rw [z]
    simp only [ev_call, evs_cons, evs_nil, ev_var, H0.v 0 rfl, bo, r_ascending ok.1 h0, Bool.true_and]
def ispB (A : List (Str × List Str)) : Bool := A.all fun p => nameB p.1 && wsB p.2
theorem isi_dP {A : List (Str × List Str)} : Mi.bi (.isinst "dict") [dP A] = .ok (.bl true) := rfl
theorem r_is_picks {A : List (Str × List Str)} (nA : (A.map (·.1)).Nodup) (hl : A.length < 64) (ok : ∀ p ∈ A, p.1.cps.toList.length < 16777216 ∧ okW p.2) : ∃ fr, callN prg wf (n + 3) "is_picks" [dP A] h = .ok (.bl (ispB A), fr, h) := by
  rw [show n + 3 = (n + 2) + 1 from rfl, c_is_picks]
  suffices q : ∀ ρ0 : Rho, Live 2 ρ0 [(0, some (dP A, false))] → exs (callN prg wf (n + 2)) wf b_is_picks ⟨ρ0, h⟩ = .ok (.ret (.bl (ispB A)) false, ⟨ρ0, h⟩) from ⟨false, runF_ret rfl ⟨_, q (Mi.start ⟨1, 2, b_is_picks⟩ [dP A]) (Live.of rfl (by simp [Mi.start])), rfl⟩⟩
  intro ρ0 H0
  unfold b_is_picks
  refine exs_ret ?_
  rw [evR_of (by intro i; simp)]
  refine and_t (x := true) (f1 := true) (f2 := true) (by simp only [ev_bi, evs_cons, evs_nil, ev_pk, H0.p 0 rfl, bo, isi_dP]) (fun _ => ?_) (fun q => by cases q)
  refine ev_all (fun p : Str × List Str => D.str p.1) (fun p => nameB p.1 && wsB p.2) A (src_kv (by rw [ev_var, H0.v 0 rfl]; rfl)) (by rw [H0.1]; decide) (fun p hp => ⟨false, ?_⟩) (by omega)
  have H1 := H0.set (i := 1) (x := some (D.str p.1, false)) (by decide)
  obtain ⟨fr, e⟩ := r_word_set (wf := wf) (n := n) (h := h) (ok p hp).2
  refine and_t (x := nameB p.1) (f1 := false) (f2 := fr) (by simp only [ev_call, evs_cons, evs_nil, ev_var, H1.v 1 rfl, bo, r_is_name (ok p hp).1 (show 1 ≤ n + 2 by omega)]) (fun z => ?_) (fun z => by rw [z]; rfl)
  rw [z, Bool.true_and]
  simp only [ev_call, evs_cons, evs_nil, ev_idx, ev_pk, H1.p 0 rfl, H1.p 1 rfl, bo]
  unfold dP
  simp only [deref_kv, idx_kv (lk_mem nA hp), bo, e]
theorem r_says {a b : Bool} : callN prg wf (n + 1) "_law_says" [.bl a, .bl b] h = .ok (.bl (a == b), false, h) := by
  rw [c__law_says]
  suffices q : ∀ ρ0 : Rho, Live 2 ρ0 [(0, some (.bl a, false)), (1, some (.bl b, false))] → exs (callN prg wf n) wf b__law_says ⟨ρ0, h⟩ = .ok (.ret (.bl (a == b)) false, ⟨ρ0, h⟩) from runF_ret rfl ⟨_, q (Mi.start ⟨2, 2, b__law_says⟩ [.bl a, .bl b]) (Live.of rfl (by simp [Mi.start])), rfl⟩
  intro ρ0 H0
  unfold b__law_says
  refine exs_ret ?_
  rw [evR_of (by intro i; simp)]
  have e1 : Mi.bi (.isinst "bool") [.bl a] = .ok (.bl true) := rfl
  have e2 : cmp .eq (.bl a) (.bl b) = .ok (a == b) := by simp [cmp, eqB, eqOK, D.flat, D.eqv, guard']
  exact and_t (x := true) (f1 := true) (f2 := false) (by simp only [ev_bi, evs_cons, evs_nil, ev_pk, H0.p 0 rfl, bo, e1]) (fun _ => by simp only [ev_cmp, ev_pk, H0.p 0 rfl, H0.p 1 rfl, bo, e2]) (fun q => by cases q)
theorem eq_bl {a b : Bool} : cmp .eq (.bl a) (.bl b) = .ok (a == b) := by simp [cmp, eqB, eqOK, D.flat, D.eqv, guard']
theorem r_alike_int {i : Int} : callN prg wf (n + 1) "_law_alike" [.int i, .int i] h = .ok (.bl true, false, h) := by
  rw [c__law_alike]
  suffices q : ∀ ρ0 : Rho, Live 4 ρ0 [(0, some (.int i, false)), (1, some (.int i, false))] → exs (callN prg wf n) wf b__law_alike ⟨ρ0, h⟩ = .ok (.ret (.bl true) false, ⟨ρ0, h⟩) from runF_ret rfl ⟨_, q (Mi.start ⟨2, 4, b__law_alike⟩ [.int i, .int i]) (Live.of rfl (by simp [Mi.start])), rfl⟩
  intro ρ0 H0
  have i1 : Mi.bi (.isinst "dict") [.int i] = .ok (.bl false) := rfl
  have i2 : Mi.bi (.isinst "tuple") [.int i] = .ok (.bl false) := rfl
  have i3 : Mi.bi (.isinst "str") [.int i] = .ok (.bl false) := rfl
  have i4 : Mi.bi (.isinst "int") [.int i] = .ok (.bl true) := rfl
  have i5 : Mi.bi (.isinst "bool") [.int i] = .ok (.bl false) := rfl
  have c1 : cmp .is (.int i) .non = .ok false := rfl
  unfold b__law_alike
  rw [exs_if0 (fr := true) (by simp only [ev_bi, evs_cons, evs_nil, ev_pk, H0.p 1 rfl, bo, i1]) exs_nil]
  rw [exs_if0 (fr := true) (by simp only [ev_bi, evs_cons, evs_nil, ev_pk, H0.p 1 rfl, bo, i2]) exs_nil]
  rw [exs_if0 (fr := false) (by simp only [ev_cmp, ev_non, ev_pk, H0.p 1 rfl, bo, c1]) exs_nil]
  rw [exs_if0 (fr := true) (by simp only [ev_bi, evs_cons, evs_nil, ev_pk, H0.p 1 rfl, bo, i3]) exs_nil]
  refine exs_ret ?_
  rw [evR_of (by intro i; simp)]
  refine and_t (x := true) (f1 := true) (f2 := false) (by simp only [ev_bi, evs_cons, evs_nil, ev_pk, H0.p 0 rfl, bo, i4]) (fun _ => ?_) (fun q => by cases q)
  refine and_t (x := true) (f1 := false) (f2 := false) (by simp only [ev_cmp, ev_bi, evs_cons, evs_nil, ev_pk, H0.p 0 rfl, H0.p 1 rfl, bo, i5, eq_bl]; rfl) (fun _ => ?_) (fun q => by cases q)
  simp only [ev_cmp, ev_pk, H0.p 0 rfl, H0.p 1 rfl, bo, cmp_eqI, beq_self_eq_true]
theorem r_alike_non : callN prg wf (n + 1) "_law_alike" [.non, .non] h = .ok (.bl true, false, h) := by
  rw [c__law_alike]
  suffices q : ∀ ρ0 : Rho, Live 4 ρ0 [(0, some (.non, false)), (1, some (.non, false))] → exs (callN prg wf n) wf b__law_alike ⟨ρ0, h⟩ = .ok (.ret (.bl true) false, ⟨ρ0, h⟩) from runF_ret rfl ⟨_, q (Mi.start ⟨2, 4, b__law_alike⟩ [.non, .non]) (Live.of rfl (by simp [Mi.start])), rfl⟩
  intro ρ0 H0
  have i1 : Mi.bi (.isinst "dict") [.non] = .ok (.bl false) := rfl
  have i2 : Mi.bi (.isinst "tuple") [.non] = .ok (.bl false) := rfl
  have c1 : cmp .is .non .non = .ok true := rfl
  unfold b__law_alike
  rw [exs_if0 (fr := true) (by simp only [ev_bi, evs_cons, evs_nil, ev_pk, H0.p 1 rfl, bo, i1]) exs_nil]
  rw [exs_if0 (fr := true) (by simp only [ev_bi, evs_cons, evs_nil, ev_pk, H0.p 1 rfl, bo, i2]) exs_nil]
  have c2 : ∀ i, i = 0 ∨ i = 1 → ev (callN prg wf n) ρ0 (.cmp .is (.pk i) .non) h = .ok (.bl true, false, h) := fun i hi => by
    rcases hi with rfl | rfl
    · simp only [ev_cmp, ev_non, ev_pk, H0.p 0 rfl, bo, c1]
    · simp only [ev_cmp, ev_non, ev_pk, H0.p 1 rfl, bo, c1]
  rw [exs_iff (c2 1 (.inr rfl)), if_pos rfl, exs_ret (d := .bl true) (o := false) (h' := h) (by rw [evR_of (by intro i; simp)]; exact c2 0 (.inl rfl))]
  rfl
theorem ne_strs {l : List Str} : cmp .ne (.lst (l.map D.str)) (.lst (l.map D.str)) = .ok false := by
  have e1 : ∀ l : List Str, eqAll (eqOK 49) (l.map D.str) (l.map D.str) = true := fun l => by
    induction l with
    | nil => rfl
    | cons a l ih => rw [List.map_cons, eqAll, ih]; rfl
  have e2 : ∀ l : List Str, eqvs (l.map D.str) (l.map D.str) = true := fun l => by
    induction l with
    | nil => simp [eqvs]
    | cons a l ih => rw [List.map_cons, eqvs, ih]; simp [D.eqv]
  have : cmp .ne (.lst (l.map D.str)) (.lst (l.map D.str)) = (eqB (.lst (l.map D.str)) (.lst (l.map D.str))).bind fun b => .ok (!b) := rfl
  rw [this]
  unfold eqB
  have o : eqOK 50 (.lst (l.map D.str)) (.lst (l.map D.str)) = true := by
    unfold eqOK
    simp [e1]
  have v : D.eqv (.lst (l.map D.str)) (.lst (l.map D.str)) = true := by
    unfold D.eqv
    exact e2 l
  rw [o, v]
  rfl
theorem isi_dA {A : List (Str × Int)} {c : String} : Mi.bi (.isinst "dict") [dA A] = .ok (.bl true) := rfl
theorem r_alike {A : List (Str × Int)} (nA : (A.map (·.1)).Nodup) (hl : A.length < 64) : callN prg wf (n + 2) "_law_alike" [dA A, dA A] h = .ok (.bl true, false, h) := by
  rw [show n + 2 = (n + 1) + 1 from rfl, c__law_alike]
  suffices q : ∀ ρ0 : Rho, Live 4 ρ0 [(0, some (dA A, false)), (1, some (dA A, false))] → exs (callN prg wf (n + 1)) wf b__law_alike ⟨ρ0, h⟩ = .ok (.ret (.bl true) false, ⟨ρ0, h⟩) from runF_ret rfl ⟨_, q (Mi.start ⟨2, 4, b__law_alike⟩ [dA A, dA A]) (Live.of rfl (by simp [Mi.start])), rfl⟩
  intro ρ0 H0
  unfold b__law_alike
  have i1 : Mi.bi (.isinst "dict") [dA A] = .ok (.bl true) := rfl
  have so : Mi.bi .sorted [dA A] = .ok (.lst ((sortS (A.map (·.1))).map D.str)) := bi_sorted_kv D.int hl
  rw [exs_iff (k := true) (fr := true) (h' := h) (by simp only [ev_bi, evs_cons, evs_nil, ev_pk, H0.p 1 rfl, bo, i1]), if_pos rfl]
  rw [exs_if0 (fr := false) (by simp only [ev_or, ev_not, ev_cmp, ev_bi, evs_cons, evs_nil, ev_pk, H0.p 0 rfl, H0.p 1 rfl, bo, i1, boolK_bl, Bool.not_true, Bool.false_eq_true, if_false, so, ne_strs]) exs_nil]
  have f2 : fits 0 = true := rfl
  have z0 : cmp .eq (.lst []) (.lst []) = .ok true := by simp [cmp, eqB, eqOK, eqAll, D.flat, D.eqv, eqvs, guard']
  rw [exs_ret (d := .bl true) (o := false) (h' := h)]
  · rfl
  · rw [evR_of (by intro i; simp), ev_cmp, lc_fil (fun p : Str × Int => D.str p.1) (fun p => D.str p.1) (fun _ => false) A (src_kv (by rw [ev_var, H0.v 1 rfl]; rfl)) (by rw [H0.1]; decide) (fun p hp => ⟨false, ?_⟩) (fun p hp q => by cases q) (by omega)]
    · rw [show A.filter (fun _ => false) = [] from List.filter_eq_nil_iff.mpr (by simp)]
      simp only [bo, ev_lst, evs_nil, List.length_nil, f2, guard_t, List.map_nil, z0]
    · have H1 := H0.set (i := 2) (x := some (D.str p.1, false)) (by decide)
      simp only [ev_not, ev_call, evs_cons, evs_nil, ev_idx, ev_pk, H1.p 0 rfl, H1.p 1 rfl, H1.p 2 rfl, bo]
      unfold dA
      simp only [deref_kv, idx_kv (lk_mem nA hp), bo, r_alike_int, boolK_bl, Bool.not_true]
end K4

set_option Elab.async false
set_option linter.all false
set_option maxRecDepth 100000
set_option maxHeartbeats 8000000
/-! k04: amounts of three words; sums. -/
namespace K4
open PySem Mi PyProof.Rows L2
variable {n wf : Nat} {h : AH}
/-- nothing below nothing, nothing of other words -/
def nn (f : Str → Int) : Prop := ∀ w, 0 ≤ f w ∧ (w ∉ words → f w = 0)
theorem good.nn {f : Str → Int} (g : good f) : nn f := fun w => ⟨(g w).1, (g w).2.2⟩
theorem amF_mem {f : Str → Int} {p : Str × Int} : p ∈ amF f ↔ p.1 ∈ words ∧ 0 < f p.1 ∧ p.2 = f p.1 := by
  unfold amF
  rw [List.mem_map]
  constructor
  · rintro ⟨w, hw, rfl⟩
    rw [List.mem_filter] at hw
    exact ⟨hw.1, of_decide_eq_true hw.2, rfl⟩
  · rintro ⟨a, b, c⟩
    exact ⟨p.1, List.mem_filter.mpr ⟨a, decide_eq_true b⟩, by rw [← c]⟩
theorem lk_amF {f : Str → Int} {w : Str} : lk (amF f) w = if w ∈ words ∧ 0 < f w then some (f w) else none := by
  by_cases z : w ∈ words ∧ 0 < f w
  · rw [if_pos z]
    exact lk_mem (p := (w, f w)) (amF_nd f) (amF_mem.mpr ⟨z.1, z.2, rfl⟩)
  · rw [if_neg z]
    refine lk_none fun q => z ?_
    rw [amF_keys, List.mem_filter] at q
    exact ⟨q.1, of_decide_eq_true q.2⟩
theorem gd_amF {f : Str → Int} (g : nn f) (w : Str) : (lk (amF f) w).getD 0 = f w := by
  rw [lk_amF]
  split
  · rfl
  · rename_i z
    obtain ⟨g1, g2⟩ := g w
    by_cases hw : w ∈ words
    · have : ¬ 0 < f w := fun q => z ⟨hw, q⟩
      show (0 : Int) = _
      omega
    · exact (g2 hw).symm
theorem amF_congr {f g : Str → Int} (e : ∀ w ∈ words, 0 < f w ∨ 0 < g w → f w = g w) : amF f = amF g := by
  unfold amF
  have e1 : (words.filter fun w => decide (0 < f w)) = words.filter fun w => decide (0 < g w) := by
    refine List.filter_congr fun w hw => ?_
    by_cases a : 0 < f w
    · rw [decide_eq_true a, decide_eq_true (by rw [← e w hw (.inl a)]; exact a)]
    · rw [decide_eq_false a]
      refine (decide_eq_false fun b => a ?_).symm
      rw [e w hw (.inr b)]
      exact b
  rw [← e1]
  refine List.map_congr_left fun w hw => ?_
  rw [List.mem_filter] at hw
  rw [e w hw.1 (.inl (of_decide_eq_true hw.2))]
theorem amF_len {f : Str → Int} : (amF f).length ≤ 3 := by
  unfold amF
  rw [List.length_map]
  exact List.length_filter_le _ words
theorem words_sorted (p : Str → Bool) : sortedS (words.filter p) = true := by
  unfold words
  cases a : p "cpu" <;> cases b : p "disk" <;> cases c : p "mem" <;> simp only [List.filter_cons, List.filter_nil, a, b, c] <;> decide
theorem sortS_words {K : List Str} (nd : K.Nodup) (hK : ∀ x ∈ K, x ∈ words) : sortS K = words.filter fun w => decide (w ∈ K) := by
  refine (sortS_one ?_ (words_sorted _)).symm
  refine (List.perm_ext_iff_of_nodup (words_nd.filter _) nd).mpr fun x => ?_
  rw [List.mem_filter]
  exact ⟨fun q => of_decide_eq_true q.2, fun q => ⟨hK x q, decide_eq_true q⟩⟩
theorem ordA_eq {A : List (Str × Int)} (nd : (A.map (·.1)).Nodup) (hA : ∀ x ∈ A.map (·.1), x ∈ words) : ordA A = amF fun w => (lk A w).getD 0 := by
  unfold ordA amF
  rw [sortS_words nd hA, List.filter_filter]
  congr 1
  refine List.filter_congr fun w _ => ?_
  by_cases z : w ∈ A.map (·.1)
  · rw [decide_eq_true z, Bool.and_true]
  · have e : lk A w = none := lk_none z
    rw [decide_eq_false z, Bool.and_false]
    show false = decide (0 < (lk A w).getD 0)
    rw [e]
    rfl
theorem lk_putA {A : List (Str × Int)} {x w : Str} {v : Int} : lk (putA A x v) w = if w = x then some v else lk A w := by
  unfold putA
  by_cases hx : A.any (fun p => decide (p.1 = x)) = true
  · rw [if_pos hx]
    unfold lk
    induction A with
    | nil => cases hx
    | cons p A ih =>
      rw [List.map_cons, List.find?_cons, List.find?_cons]
      by_cases px : p.1 = x
      · rw [if_pos px]
        by_cases wx : w = x
        · rw [if_pos wx]
          have : decide (p.1 = w) = true := decide_eq_true (px.trans wx.symm)
          simp only [this]
          rfl
        · rw [if_neg wx]
          have : decide (p.1 = w) = false := decide_eq_false fun q => wx (q.symm.trans px)
          simp only [this]
          by_cases hx2 : A.any (fun p => decide (p.1 = x)) = true
          · have := ih hx2
            rw [if_neg wx] at this
            exact this
          · have e : (A.map fun p => if p.1 = x then (p.1, v) else p) = A := by
              refine (List.map_congr_left fun q hq => ?_).trans (List.map_id A)
              rw [if_neg fun z => hx2 (List.any_eq_true.mpr ⟨q, hq, decide_eq_true z⟩)]
              rfl
            rw [e]
      · rw [if_neg px]
        have hx2 : A.any (fun p => decide (p.1 = x)) = true := by
          rw [List.any_cons, decide_eq_false px, Bool.false_or] at hx
          exact hx
        by_cases pw : p.1 = w
        · have : decide (p.1 = w) = true := decide_eq_true pw
          simp only [this]
          rw [if_neg fun z => px (pw.trans z)]
        · have : decide (p.1 = w) = false := decide_eq_false pw
          simp only [this]
          exact ih hx2
  · rw [if_neg hx]
    have hx' : ∀ p ∈ A, p.1 ≠ x := fun p hp q => hx (List.any_eq_true.mpr ⟨p, hp, decide_eq_true q⟩)
    unfold lk
    rw [List.find?_append]
    by_cases wx : w = x
    · subst wx
      rw [if_pos rfl, List.find?_eq_none.mpr fun p hp q => hx' p hp (of_decide_eq_true q)]
      simp
    · rw [if_neg wx]
      have : (([(x, v)] : List (Str × Int)).find? fun p => decide (p.1 = w)) = none := by
        rw [List.find?_cons, decide_eq_false fun q => wx q.symm]
        rfl
      rw [this, Option.or_none]
theorem lk_plusR : ∀ (B A : List (Str × Int)) (w : Str), (B.map (·.1)).Nodup → (lk (plusR A B) w).getD 0 = (lk A w).getD 0 + (lk B w).getD 0
  | [], A, w, _ => by simp [plusR, lk]
  | p :: B, A, w, nd => by
    rw [List.map_cons, List.nodup_cons] at nd
    have e : plusR A (p :: B) = plusR (putA A p.1 ((lk A p.1).getD 0 + p.2)) B := rfl
    rw [e, lk_plusR B _ w nd.2, lk_putA]
    have c : lk (p :: B) w = if p.1 = w then some p.2 else lk B w := by
      unfold lk
      rw [List.find?_cons]
      by_cases z : p.1 = w
      · rw [if_pos z, decide_eq_true z]; rfl
      · rw [if_neg z, decide_eq_false z]
    rw [c]
    by_cases z : w = p.1
    · subst z
      rw [if_pos rfl, if_pos rfl, lk_none nd.1]
      simp
    · rw [if_neg z, if_neg fun q => z q.symm]
theorem plusR_keys : ∀ (B A : List (Str × Int)) (x : Str), x ∈ (plusR A B).map (·.1) → x ∈ A.map (·.1) ∨ x ∈ B.map (·.1)
  | [], A, x, h => .inl h
  | p :: B, A, x, h => by
    have e : plusR A (p :: B) = plusR (putA A p.1 ((lk A p.1).getD 0 + p.2)) B := rfl
    rw [e] at h
    rcases plusR_keys B _ x h with q | q
    · rw [putA_keys] at q
      split at q
      · exact .inl q
      · rw [List.mem_append, List.mem_singleton] at q
        rcases q with q | q
        · exact .inl q
        · exact .inr (by rw [q]; exact List.mem_cons_self)
    · exact .inr (List.mem_cons_of_mem _ q)
theorem amF_words {f : Str → Int} {x : Str} (h : x ∈ (amF f).map (·.1)) : x ∈ words := by
  rw [amF_keys, List.mem_filter] at h
  exact h.1
theorem plus_eq {f g : Str → Int} (hf : nn f) (hg : nn g) : ordA (plusR (amF f) (amF g)) = amF fun w => f w + g w := by
  rw [ordA_eq (plusR_ok (amF g) (amF f) (amF_nd f)).1 (fun x hx => (plusR_keys _ _ x hx).elim amF_words amF_words)]
  refine amF_congr fun w _ _ => ?_
  rw [lk_plusR _ _ _ (amF_nd g), gd_amF hf, gd_amF hg]
theorem nn_add {f g : Str → Int} (hf : nn f) (hg : nn g) : nn fun w => f w + g w := fun w => by
  obtain ⟨a, b⟩ := hf w
  obtain ⟨c, d⟩ := hg w
  exact ⟨by show 0 ≤ f w + g w; omega, fun q => by show f w + g w = 0; rw [b q, d q]; rfl⟩
theorem r_plusF {f g : Str → Int} (hf : nn f) (hg : nn g) (hn : 2 ≤ n) : callN prg wf n "plus_amounts" [dA (amF f), dA (amF g)] h = .ok (dA (amF fun w => f w + g w), true, h) := by
  rw [r_plus (amF_nd f) (amF_nd g) (by have := amF_len (f := f); have := amF_len (f := g); omega) hn, plus_eq hf hg]
theorem lk_lessR {A B : List (Str × Int)} {w : Str} : lk (lessR A B) w = (lk A w).map fun v => v - (lk B w).getD 0 := by
  unfold lk lessR
  induction A with
  | nil => rfl
  | cons p A ih =>
    rw [List.map_cons, List.find?_cons, List.find?_cons]
    by_cases z : p.1 = w
    · have : decide (p.1 = w) = true := decide_eq_true z
      simp only [this]
      rw [Option.map_some, Option.map_some, Option.map_some, z]
      rfl
    · have : decide (p.1 = w) = false := decide_eq_false z
      simp only [this]
      exact ih
theorem less_eq {f g : Str → Int} (hf : nn f) (hg : nn g) : ordA (lessR (amF f) (amF g)) = amF fun w => f w - g w := by
  rw [ordA_eq (by rw [lessR_keys]; exact amF_nd f) (by rw [lessR_keys]; exact fun x hx => amF_words hx)]
  refine amF_congr fun w hw q => ?_
  obtain ⟨a, _⟩ := hf w
  obtain ⟨c, _⟩ := hg w
  rw [lk_lessR, gd_amF hg, lk_amF] at *
  split at q
  · rename_i z
    rw [if_pos z]
    rfl
  · rename_i z
    have z2 : ¬ 0 < f w := fun y => z ⟨hw, y⟩
    simp at q
    omega
/-- within -/
def fitF (f g : Str → Int) : Bool := (amF f).all fun p => decide (p.2 ≤ g p.1)
theorem fitsA_eq {f g : Str → Int} (hg : nn g) : fitsA (amF f) (amF g) = fitF f g := by
  unfold fitsA fitF
  congr 1
  funext p
  rw [gd_amF hg]
theorem r_fitsF {f g : Str → Int} (hg : nn g) (hn : 1 ≤ n) : callN prg wf n "fits_in" [dA (amF f), dA (amF g)] h = .ok (.bl (fitF f g), true, h) := by
  rw [r_fits (amF_nd f) (by have := amF_len (f := f); omega) hn, fitsA_eq hg]
theorem r_minusF {f g : Str → Int} (hf : nn f) (hg : nn g) (hn : 2 ≤ n) : callN prg wf n "minus_amounts" [dA (amF f), dA (amF g)] h = .ok (if fitF g f then (dA (amF fun w => f w - g w), true, h) else (.non, false, h)) := by
  rw [r_minus (amF_nd f) (amF_nd g) (by have := amF_len (f := f); omega) (by have := amF_len (f := g); omega) hn, fitsA_eq hf, less_eq hf hg]
theorem r_lackF {f g : Str → Int} (hf : nn f) (hg : nn g) (hn : 2 ≤ n) : callN prg wf n "lack" [dA (amF f), dA (amF g)] h = .ok (dA (amF fun w => f w - g w), true, h) := by
  rw [r_lack (amF_nd f) (by have := amF_len (f := f); omega) hn, less_eq hf hg]
/-- the sums of some rows -/
def sumF (fs : List (Str → Int)) (w : Str) : Int := (fs.map fun f => f w).sum
theorem sumF_nn : ∀ {fs : List (Str → Int)}, (∀ f ∈ fs, nn f) → nn (sumF fs)
  | [], _ => fun w => ⟨Int.le_refl 0, fun _ => rfl⟩
  | f :: fs, h => by
    have e : sumF (f :: fs) = fun w => f w + sumF fs w := by
      funext w
      unfold sumF
      rw [List.map_cons, List.sum_cons]
    rw [e]
    exact nn_add (h f List.mem_cons_self) (sumF_nn fun g hg => h g (List.mem_cons_of_mem _ hg))
theorem sumF_snoc {fs : List (Str → Int)} {f : Str → Int} : sumF (fs ++ [f]) = fun w => sumF fs w + f w := by
  funext w
  unfold sumF
  rw [List.map_append, List.sum_append]
  simp
theorem amF_0 : amF (sumF []) = [] := by
  unfold amF
  rw [List.filter_eq_nil_iff.mpr fun w _ => by simp [sumF]]
  rfl
theorem r_sum {fs : List (Str → Int)} (hf : ∀ f ∈ fs, nn f) : ∃ fr, callN prg wf (n + 3) "sum_amounts" [.lst (fs.map fun f => dA (amF f))] h = .ok (dA (amF (sumF fs)), fr, h) := by
  rw [show n + 3 = (n + 2) + 1 from rfl, c_sum_amounts]
  suffices q : ∀ ρ0 : Rho, Live 3 ρ0 [(0, some (.lst (fs.map fun f => dA (amF f)), false))] → ∃ fr ρ', exs (callN prg wf (n + 2)) wf b_sum_amounts ⟨ρ0, h⟩ = .ok (.ret (dA (amF (sumF fs))) fr, ⟨ρ', h⟩) by
    obtain ⟨fr, ρ', e⟩ := q (Mi.start ⟨1, 3, b_sum_amounts⟩ [.lst (fs.map fun f => dA (amF f))]) (Live.of rfl (by simp [Mi.start]))
    exact ⟨fr, runF_ret rfl ⟨_, e, rfl⟩⟩
  intro ρ0 H0
  unfold b_sum_amounts
  obtain ⟨ρ1, e1, H1⟩ := H0.asg (cf := callN prg wf (n + 2)) (h := h) (h' := h) (wf := wf) (e := E.dct .nil) (d := dA (amF (sumF []))) (b := true) 1 (by rw [amF_0]; simp [rows?, merge, guard', dA, kv, row])
  rw [e1]
  have src : evi (callN prg wf (n + 2)) ρ1 (.over (.var 0)) h = .ok (fs.map fun f => dA (amF f), h) := by
    simp only [evi_over, ev_var, H1.v 0 rfl, bo, items_lst]
  obtain ⟨s2, e2, ⟨hs, HL⟩⟩ := exs_fr (wf := wf) (body := (.cons (.frz [1]) (.cons (.asg (.name 1) (.call "plus_amounts" (.cons (.var 1) (.cons (.var 2) .nil)))) .nil))) (r := (.cons (.ret (.pk 1)) .nil)) (t := 2) src (fun m s => s.h = h ∧ Live 3 s.ρ [(1, some (dA (amF (sumF (fs.take m))), true)), (0, some (.lst (fs.map fun f => dA (amF f)), false))])
    (fun _ s hs => by rw [hs.2.1]; decide) ⟨rfl, H1.sub ⟨rfl, rfl, trivial⟩⟩ (fun m x hx s ⟨hs, HL⟩ => by
      rw [List.getElem?_map] at hx
      obtain ⟨f, ho, rfl⟩ := Option.map_eq_some_iff.mp hx
      have H2 := HL.set (i := 2) (x := some (dA (amF f), false)) (by decide)
      obtain ⟨ρ3, e3, H3⟩ := H2.frz1 (cf := callN prg wf (n + 2)) (h := s.h) (wf := wf) (is := []) 1 rfl
      obtain ⟨ρ4, e4, H4⟩ := H3.asg (cf := callN prg wf (n + 2)) (h := s.h) (h' := s.h) (wf := wf) (r := .nil) (e := .call "plus_amounts" (.cons (.var 1) (.cons (.var 2) .nil))) (d := dA (amF (sumF (fs.take (m + 1))))) (b := true) 1 (by
        simp only [ev_call, evs_cons, evs_nil, ev_var, H3.v 1 rfl, H3.v 2 rfl, bo]
        rw [r_plusF (sumF_nn fun g hg => hf g (List.mem_of_mem_take hg)) (hf f (List.mem_of_getElem? ho)) (by omega), List.take_add_one, ho]
        show Res.ok (dA (amF _), true, s.h) = Res.ok (dA (amF (sumF (fs.take m ++ [f]))), true, s.h)
        rw [sumF_snoc])
      exact ⟨⟨ρ4, s.h⟩, by rw [e3, exs_frz0, e4, exs_nil], hs, H4.sub ⟨rfl, rfl, trivial⟩⟩)
  rw [e2]
  obtain ⟨ρ2, h2⟩ := s2
  subst hs
  rw [List.length_map, List.take_length] at HL
  exact ⟨true, ρ2, exs_ret (HL.evR 1 rfl)⟩
end K4

set_option Elab.async false
set_option linter.all false
set_option maxRecDepth 100000
set_option maxHeartbeats 8000000
/-! k04: numbers, the law's own look. -/
namespace K4
open PySem Mi
variable {n wf : Nat} {h : AH}
theorem ne_int {i j : Int} : cmp .ne (.int i) (.int j) = .ok (!(i == j)) := cmp_neI
theorem r_is_one {s0 s1 up lo : Int} (hm : s0 * lo = up * s1) (h1 : 1 ≤ s1) (b1 : s1 < 100000) (bl : lo.natAbs < 1000000000) (hk : ∀ k : Int, 2 ≤ k → k ≤ s1 → ¬ (s1 - s1.fdiv k * k = 0 ∧ s0 - s0.fdiv k * k = 0)) :
    callN prg wf (n + 1) "_law_is_one" [.tup [.int s0, .int s1], .int up, .int lo] h = .ok (.bl true, false, h) := by
  rw [c__law_is_one]
  suffices q : ∀ ρ0 : Rho, Live 4 ρ0 [(0, some (.tup [.int s0, .int s1], false)), (1, some (.int up, false)), (2, some (.int lo, false))] → exs (callN prg wf n) wf b__law_is_one ⟨ρ0, h⟩ = .ok (.ret (.bl true) false, ⟨ρ0, h⟩) from runF_ret rfl ⟨_, q (Mi.start ⟨3, 4, b__law_is_one⟩ [.tup [.int s0, .int s1], .int up, .int lo]) (Live.of rfl (by simp [Mi.start])), rfl⟩
  intro ρ0 H0
  generalize callN prg wf n = cf
  unfold b__law_is_one
  have i0 : L2.atI [D.int s0, D.int s1] 0 = some (.int s0) := rfl
  have i1 : L2.atI [D.int s0, D.int s1] 1 = some (.int s1) := rfl
  have x0 : ∀ ρ, pAt ρ 0 h = .ok (.tup [.int s0, .int s1], false, h) → ev cf ρ (.idx (.pk 0) (.int 0)) h = .ok (.int s0, false, h) := fun ρ e => by
    simp only [ev_idx, ev_pk, e, bo, ev_int, deref_tup, idx_tup, i0, osm]
  have x1 : ∀ ρ, pAt ρ 0 h = .ok (.tup [.int s0, .int s1], false, h) → ev cf ρ (.idx (.pk 0) (.int 1)) h = .ok (.int s1, false, h) := fun ρ e => by
    simp only [ev_idx, ev_pk, e, bo, ev_int, deref_tup, idx_tup, i1, osm]
  have t0 : Mi.bi (.isinst "tuple") [.tup [.int s0, .int s1]] = .ok (.bl true) := rfl
  have m0 : Mi.bin .mul (.int s0) (.int lo) = .ok (.int (s0 * lo)) := bin_mulR bl
  have m1 : Mi.bin .mul (.int up) (.int s1) = .ok (.int (s0 * lo)) := by rw [hm]; exact bin_mulR (by omega)
  have l2 : cmp .ne (.int (([D.int s0, D.int s1].length : Nat) : Int)) (.int 2) = .ok false := by rw [ne_int]; rfl
  have n0 : cmp .ne (.int (s0 * lo)) (.int (s0 * lo)) = .ok false := by rw [ne_int]; simp
  have lt1 : cmp .lt (.int s1) (.int 1) = .ok false := by rw [cmp_lt, decide_eq_false (by omega)]
  rw [exs_if0 (fr := false) (by
    simp only [ev_or, ev_not, ev_bi, evs_cons, evs_nil, ev_pk, H0.p 0 rfl, bo, t0, boolK_bl, Bool.not_true, Bool.false_eq_true, if_false]
    rw [ev_cmp]
    simp only [ev_bi, evs_cons, evs_nil, ev_pk, H0.p 0 rfl, bo, bi_len_tup, ev_int, l2, boolK_bl, Bool.false_eq_true, if_false]
    simp only [ev_cmp, ev_bin, x0 ρ0 (H0.p 0 rfl), x1 ρ0 (H0.p 0 rfl), ev_pk, H0.p 1 rfl, H0.p 2 rfl, bo, m0, m1, n0, boolK_bl, Bool.false_eq_true, if_false, ev_int, lt1]) exs_nil]
  refine exs_ret ?_
  have src : evi cf ρ0 (.range (.cons (.int 2) (.cons (.bin .add (.idx (.pk 0) (.int 1)) (.int 1)) .nil))) h = .ok ((List.range (s1 - 1).toNat).map fun k : Nat => D.int (2 + (k : Int)), h) := by
    simp only [evi_range, evs_cons, evs_nil, ev_bin, x1 ρ0 (H0.p 0 rfl), ev_int, bo, add_int]
    have : rng [.int 2, .int (s1 + 1)] = .ok ((List.range (s1 - 1).toNat).map fun k : Nat => D.int (2 + (k : Int))) := by
      have d : (decide (-(2 ^ 62) ≤ (2 : Int) ∧ (2 : Int) < 2 ^ 62 ∧ -(2 ^ 62) ≤ s1 + 1 ∧ s1 + 1 < 2 ^ 62)) = true := decide_eq_true (by omega)
      unfold rng
      simp only [d, guard_t]
      unfold rangeL
      rw [show (s1 + 1 - 2).toNat = (s1 - 1).toNat by omega]
    rw [this]
    rfl
  rw [evR_of (by intro i; simp), ev_cmp, lc_fil (fun k : Nat => D.int (2 + (k : Int))) (fun k : Nat => D.int (2 + (k : Int))) (fun _ => false) (List.range (s1 - 1).toNat) src (by rw [H0.1]; decide) (fun k hk' => ⟨false, ?_⟩) (fun p hp q => by cases q) (by simp; omega)]
  · have f2 : fits 0 = true := rfl
    have z0 : cmp .eq (.lst []) (.lst []) = .ok true := by simp [cmp, eqB, eqOK, eqAll, D.flat, D.eqv, eqvs, guard']
    rw [show (List.range (s1 - 1).toNat).filter (fun _ => false) = [] from List.filter_eq_nil_iff.mpr (by simp)]
    simp only [bo, ev_lst, evs_nil, List.length_nil, f2, guard_t, List.map_nil, z0]
  · have hk2 := List.mem_range.mp hk'
    have kb : (2 : Int) + (k : Int) ≤ s1 := by omega
    have k2 : (2 : Int) ≤ 2 + (k : Int) := by omega
    generalize (2 : Int) + (k : Int) = K at kb k2 ⊢
    have H1 := H0.set (i := 3) (x := some (D.int K, false)) (by decide)
    have d1 : Mi.bin .fdiv (.int s1) (.int K) = .ok (.int (s1.fdiv K)) := bin_fdiv (by omega) (by omega)
    have d0 : Mi.bin .fdiv (.int s0) (.int K) = .ok (.int (s0.fdiv K)) := bin_fdiv (by omega) (by omega)
    have u1 : Mi.bin .mul (.int (s1.fdiv K)) (.int K) = .ok (.int (s1.fdiv K * K)) := bin_mulR (by omega)
    have u0 : Mi.bin .mul (.int (s0.fdiv K)) (.int K) = .ok (.int (s0.fdiv K * K)) := bin_mulR (by omega)
    have hkK := hk K k2 kb
    refine and_t (x := s1 - s1.fdiv K * K == 0) (f1 := false) (f2 := false) ?_ (fun z => ?_) (fun _ => rfl)
    · simp only [ev_cmp, ev_bin, x1 _ (H1.p 0 rfl), ev_pk, H1.p 3 rfl, bo, d1, u1, sub_int, ev_int, cmp_eqI]
    · simp only [ev_cmp, ev_bin, x0 _ (H1.p 0 rfl), ev_pk, H1.p 3 rfl, bo, d0, u0, sub_int, ev_int, cmp_eqI]
      have z : s1 - s1.fdiv K * K = 0 := by simpa using z
      have : (s0 - s0.fdiv K * K == 0) = false := by
        rw [beq_eq_false_iff_ne]
        exact fun y => hkK ⟨z, y⟩
      rw [this]
/-- a fraction in lowest terms is one -/
theorem frac_one {a b : Nat} (hb : 0 < b) (hb2 : b < 100000) {up lo : Int} (ea : (a : Int) = up) (eb : (b : Int) = lo) {s0 s1 : Int} (e0 : ((a / Nat.gcd b a : Nat) : Int) = s0) (e1 : ((b / Nat.gcd b a : Nat) : Int) = s1) : callN prg wf (n + 1) "_law_is_one" [.tup [.int s0, .int s1], .int up, .int lo] h = .ok (.bl true, false, h) := by
  have g0 : 0 < Nat.gcd b a := Nat.gcd_pos_of_pos_left a hb
  have ga : Nat.gcd b a ∣ a := Nat.gcd_dvd_right b a
  have gb : Nat.gcd b a ∣ b := Nat.gcd_dvd_left b a
  have cop : Nat.Coprime (b / Nat.gcd b a) (a / Nat.gcd b a) := Nat.coprime_div_gcd_div_gcd g0
  have b1 : b / Nat.gcd b a ≤ b := Nat.div_le_self _ _
  have b0 : 0 < b / Nat.gcd b a := Nat.div_pos (Nat.le_of_dvd hb gb) g0
  have hm : a / Nat.gcd b a * b = a * (b / Nat.gcd b a) := by
    rw [← Nat.mul_div_assoc _ gb, Nat.div_mul_right_comm ga]
  refine r_is_one ?_ (by omega) (by omega) (by omega) fun k k2 _ => ?_
  · rw [← e0, ← e1, ← ea, ← eb]
    exact_mod_cast hm
  · rintro ⟨q1, q2⟩
    have d : ∀ s : Int, s - s.fdiv k * k = 0 → k ∣ s := fun s q => ⟨s.fdiv k, by rw [Int.mul_comm]; omega⟩
    have d1 := d _ q1
    have d2 := d _ q2
    rw [← e1] at d1
    rw [← e0] at d2
    have kn : ((k.toNat : Nat) : Int) = k := by omega
    rw [← kn] at d1 d2
    have d1 := Int.natCast_dvd_natCast.mp d1
    have d2 := Int.natCast_dvd_natCast.mp d2
    have d := Nat.dvd_gcd d1 d2
    have c1 : Nat.gcd (b / Nat.gcd b a) (a / Nat.gcd b a) = 1 := cop
    rw [c1] at d
    have := Nat.le_of_dvd (by decide) d
    omega
theorem sortI_mem {l : List Int} {x : Int} : x ∈ sortI l ↔ x ∈ l := (sortBy_perm l).mem_iff
theorem sortI_sorted (l : List Int) : (sortI l).Pairwise (· ≤ ·) := by
  refine (sortBy_sorted (le := fun a b : Int => decide (a ≤ b)) (fun a b => ?_) (fun a b c h1 h2 => ?_) l).imp fun q => of_decide_eq_true q
  · rcases Int.le_total a b with q | q
    · exact .inl (decide_eq_true q)
    · exact .inr (decide_eq_true q)
  · exact decide_eq_true (Int.le_trans (of_decide_eq_true h1) (of_decide_eq_true h2))
theorem sorted_get {S : List Int} (s : S.Pairwise (· ≤ ·)) {i j : Nat} (hij : i ≤ j) (hj : j < S.length) : S[i]'(by omega) ≤ S[j] := by
  rcases Nat.lt_or_ge i j with q | q
  · exact List.pairwise_iff_getElem.mp s i j (by omega) hj q
  · have : i = j := by omega
    subst this
    exact Int.le_refl _
theorem sort_max {x : Int} {r : List Int} : (sortI (x :: r))[(x :: r).length - 1]'(by rw [sortI_len]; simp) = maxI x r := by
  obtain ⟨a, b, c⟩ := maxI_ge r x
  have m1 : maxI x r ∈ x :: r := by
    rcases c with q | q
    · rw [q]; exact List.mem_cons_self
    · exact List.mem_cons_of_mem _ q
  obtain ⟨i, hi, ei⟩ := List.getElem_of_mem (sortI_mem.mpr m1)
  have hi' := hi
  rw [sortI_len] at hi'
  have le := sorted_get (sortI_sorted (x :: r)) (i := i) (j := (x :: r).length - 1) (by omega) (by rw [sortI_len]; simp)
  have m2 : (sortI (x :: r))[(x :: r).length - 1]'(by rw [sortI_len]; simp) ∈ x :: r := sortI_mem.mp (List.getElem_mem _)
  rw [ei] at le
  refine Int.le_antisymm ?_ le
  rcases List.mem_cons.mp m2 with q | q
  · rw [q]; exact a
  · exact b _ q
theorem sort_min {x : Int} {r : List Int} : (sortI (x :: r))[0]'(by rw [sortI_len]; simp) = minI x r := by
  obtain ⟨a, b, c⟩ := minI_le r x
  have m1 : minI x r ∈ x :: r := by
    rcases c with q | q
    · rw [q]; exact List.mem_cons_self
    · exact List.mem_cons_of_mem _ q
  obtain ⟨i, hi, ei⟩ := List.getElem_of_mem (sortI_mem.mpr m1)
  have le := sorted_get (sortI_sorted (x :: r)) (i := 0) (j := i) (by omega) hi
  have m2 : (sortI (x :: r))[0]'(by rw [sortI_len]; simp) ∈ x :: r := sortI_mem.mp (List.getElem_mem _)
  rw [ei] at le
  refine Int.le_antisymm le ?_
  rcases List.mem_cons.mp m2 with q | q
  · rw [q]; exact a
  · exact b _ q
theorem cnt_iff : ∀ {S : List Int}, S.Pairwise (· ≤ ·) → ∀ (v : Int) (i : Nat) (hi : i < S.length), S[i] ≤ v ↔ i < (S.filter fun x => decide (x ≤ v)).length
  | [], _, v, i, hi => by simp at hi
  | a :: S, s, v, i, hi => by
    rw [List.pairwise_cons] at s
    rw [List.filter_cons]
    by_cases q : a ≤ v
    · rw [if_pos (decide_eq_true q)]
      cases i with
      | zero => simp [q]
      | succ i =>
        have := cnt_iff s.2 v i (by simpa using hi)
        simp only [List.getElem_cons_succ, List.length_cons]
        omega
    · rw [if_neg (by simpa using q)]
      have e : (S.filter fun x => decide (x ≤ v)) = [] := List.filter_eq_nil_iff.mpr fun y hy z => q (Int.le_trans (s.1 y hy) (of_decide_eq_true z))
      rw [e]
      simp only [List.length_nil, Nat.not_lt_zero, iff_false]
      cases i with
      | zero => exact q
      | succ i => exact fun z => q (Int.le_trans (s.1 _ (List.getElem_mem (by simpa using hi))) z)
theorem least {p : Nat → Prop} [DecidablePred p] : ∀ m, p m → ∃ k, k ≤ m ∧ p k ∧ ∀ j, j < k → ¬ p j
  | 0, h => ⟨0, Nat.le_refl _, h, fun j hj => absurd hj (Nat.not_lt_zero _)⟩
  | m + 1, h => by
    by_cases q : ∃ j, j ≤ m ∧ p j
    · obtain ⟨j, hj, hp⟩ := q
      have : ∀ m, (∃ j, j ≤ m ∧ p j) → ∃ k, k ≤ m ∧ p k ∧ ∀ j, j < k → ¬ p j := by
        intro m
        induction m with
        | zero =>
          rintro ⟨j, hj, hp⟩
          have : j = 0 := by omega
          subst this
          exact ⟨0, Nat.le_refl _, hp, fun j hj => absurd hj (Nat.not_lt_zero _)⟩
        | succ m ih =>
          rintro ⟨j, hj, hp⟩
          by_cases q : ∃ j, j ≤ m ∧ p j
          · obtain ⟨k, a, b, c⟩ := ih q
            exact ⟨k, by omega, b, c⟩
          · have : j = m + 1 := by
              rcases Nat.lt_or_ge m j with z | z
              · omega
              · exact absurd ⟨j, z, hp⟩ q
            subst this
            exact ⟨m + 1, Nat.le_refl _, hp, fun i hi hpi => q ⟨i, by omega, hpi⟩⟩
      obtain ⟨k, a, b, c⟩ := this m ⟨j, hj, hp⟩
      exact ⟨k, by omega, b, c⟩
    · exact ⟨m + 1, Nat.le_refl _, h, fun j hj hp => q ⟨j, by omega, hp⟩⟩
/-- the first of the numbers at which so great a part is reached -/
theorem able_first {l : List Int} {u w m : Int} (hm : (l.length : Int) = m) (h0 : 0 < l.length) (hu : 1 ≤ u) (huw : u ≤ w) :
    ∃ (k : Nat) (hk : k < l.length), (∀ j : Nat, j < k → ¬ u * m ≤ ((j : Int) + 1) * w) ∧ u * m ≤ ((k : Int) + 1) * w ∧ ((sortI l).filter fun n => decide (u * m ≤ ((l.filter fun own => decide (own ≤ n)).length : Int) * w)).head? = some ((sortI l)[k]'(by rw [sortI_len]; exact hk)) := by
  have top : u * m ≤ (((l.length - 1 : Nat) : Int) + 1) * w := by
    rw [show (((l.length - 1 : Nat) : Int) + 1) = m by omega, Int.mul_comm u m]
    exact Int.mul_le_mul_of_nonneg_left huw (by omega)
  obtain ⟨k, hk, hk1, hk2⟩ := least (p := fun k : Nat => u * m ≤ ((k : Int) + 1) * w) (l.length - 1) top
  have hkl : k < l.length := by omega
  refine ⟨k, hkl, hk2, hk1, ?_⟩
  have sS := sortI_sorted l
  have pl := sortBy_perm (le := fun a b : Int => decide (a ≤ b)) l
  have lenS := sortI_len (l := l)
  have cnt : ∀ v, (l.filter fun own => decide (own ≤ v)).length = ((sortI l).filter fun own => decide (own ≤ v)).length := fun v => ((pl.filter _).length_eq).symm
  have hw : 0 ≤ w := by omega
  have tk : ∀ (i : Nat) (hi : i < (sortI l).length), u * m ≤ ((l.filter fun own => decide (own ≤ (sortI l)[i])).length : Int) * w ↔ (sortI l)[k]'(by omega) ≤ (sortI l)[i] := fun i hi => by
    rw [cnt, cnt_iff sS _ k (by omega)]
    generalize ((sortI l).filter fun own => decide (own ≤ (sortI l)[i])).length = c
    constructor
    · intro q
      rcases Nat.lt_or_ge k c with z | z
      · exact z
      · exfalso
        cases c with
        | zero =>
          rw [show ((0 : Nat) : Int) = 0 from rfl, Int.zero_mul] at q
          have := Int.mul_pos (show 0 < u by omega) (show 0 < m by omega)
          omega
        | succ c =>
          exact hk2 c (by omega) (by exact_mod_cast q)
    · intro q
      refine Int.le_trans hk1 (Int.mul_le_mul_of_nonneg_right ?_ hw)
      omega
  have tk' : ((sortI l)[k]'(by omega)) ∈ (sortI l).filter fun n => decide (u * m ≤ ((l.filter fun own => decide (own ≤ n)).length : Int) * w) :=
    List.mem_filter.mpr ⟨List.getElem_mem _, decide_eq_true ((tk k (by omega)).mpr (Int.le_refl _))⟩
  have sf := sS.filter fun n => decide (u * m ≤ ((l.filter fun own => decide (own ≤ n)).length : Int) * w)
  cases e : (sortI l).filter fun n => decide (u * m ≤ ((l.filter fun own => decide (own ≤ n)).length : Int) * w) with
  | nil => rw [e] at tk'; cases tk'
  | cons x r =>
    rw [e] at tk' sf
    have hx : x ∈ (sortI l).filter fun n => decide (u * m ≤ ((l.filter fun own => decide (own ≤ n)).length : Int) * w) := by rw [e]; exact List.mem_cons_self
    rw [List.mem_filter] at hx
    obtain ⟨i, hi, ei⟩ := List.getElem_of_mem hx.1
    have q := of_decide_eq_true hx.2
    rw [← ei] at q
    have q := (tk i hi).mp q
    rw [ei] at q
    have q2 : x ≤ (sortI l)[k]'(by omega) := by
      rcases List.mem_cons.mp tk' with z | z
      · rw [z]; exact Int.le_refl _
      · exact (List.pairwise_cons.mp sf).1 _ z
    rw [List.head?_cons, Int.le_antisymm q2 q]
end K4

set_option Elab.async false
set_option Elab.async false
set_option linter.all false
set_option maxRecDepth 100000
set_option maxHeartbeats 8000000
/-! k04: picks of two words and three values, all of them. -/
namespace K4
open PySem Mi PyProof.Rows L2
def okN (i x : Nat) : Bool := i == 0 || (1 ≤ x && x ≤ 3 && i / 2 ^ (x - 1) % 2 == 1)
def lb (x y : Nat) : List (Str × Str) := ext (ext [] "app" (opts.getD x none)) "zone" (opts.getD y none)
def c25 : List (Nat × Nat) := (List.range 5).flatMap fun x => (List.range 5).map fun y => (x, y)
theorem every_eq : every = c25.map fun p => lb p.1 p.2 := by decide +kernel
theorem pkB_code : ∀ i, i < 8 → ∀ j, j < 8 → (c25.all fun p => pkB (pk i j) (lb p.1 p.2) == (okN i p.1 && okN j p.2)) = true := by decide +kernel
def nrN (i i' : Nat) : Bool := i' == 0 || (i != 0 && Nat.land i i' == i)
theorem nrB_code : ∀ i, i < 8 → ∀ j, j < 8 → ∀ i', i' < 8 → ∀ j', j' < 8 → nrB (pk i j) (pk i' j') = (nrN i i' && nrN j j') := by decide +kernel
def bN (i i' : Nat) : Nat := if i = 0 then i' else if i' = 0 then i else Nat.land i i'
def eN (i i' : Nat) : Bool := i != 0 && i' != 0 && Nat.land i i' == 0
theorem both_code : ∀ i, i < 8 → ∀ j, j < 8 → ∀ i', i' < 8 → ∀ j', j' < 8 → (if (bothR (pk i j) (pk i' j')).all (fun p => !p.2.isEmpty) then bothR (pk i j) (pk i' j') == pk (bN i i') (bN j j') && !(eN i i' || eN j j') else (eN i i' || eN j j')) = true := by decide +kernel
theorem laws_code : ∀ i, i < 8 → ∀ j, j < 8 → ∀ i', i' < 8 → ∀ j', j' < 8 → 
   ((c25.filter fun p => (okN i p.1 && okN j p.2) && !(okN i' p.1 && okN j' p.2)).isEmpty == (nrN i i' && nrN j j') &&
   (let c := c25.filter fun p => (okN i p.1 && okN j p.2) && (okN i' p.1 && okN j' p.2); c.isEmpty == (eN i i' || eN j j') && ((eN i i' || eN j j') || (c25.filter fun p => (okN (bN i i') p.1 && okN (bN j j') p.2)) == c))) = true := by decide +kernel
theorem isp_code : ∀ i, i < 8 → ∀ j, j < 8 → ispB (pk i j) = true := by decide +kernel
end K4

set_option Elab.async false
set_option linter.all false
set_option maxRecDepth 100000
set_option maxHeartbeats 8000000
/-! k04: what is none. -/
namespace K4
open PySem Mi
variable {n wf : Nat} {h : AH}
/-- a judge says no -/
def No (n wf : Nat) (h : AH) (f : String) (d : D) : Prop := ∃ fr, callN prg wf n f [d] h = .ok (.bl false, fr, h)
theorem isi_other (c : String) {d : D} {t : String} (e : typeOf d = some t) (hc : isClass c = true) : Mi.bi (.isinst c) [d] = .ok (.bl (isA t c)) := by
  unfold Mi.bi
  simp only [e, hc, guard_t]
theorem name_no {d : D} {t : String} (e : typeOf d = some t) (ht : isA t "str" = false) : No (n + 1) wf h "is_name" d := by
  refine ⟨false, ?_⟩
  rw [c_is_name]
  suffices q : ∀ ρ0 : Rho, Live 2 ρ0 [(0, some (d, false))] → exs (callN prg wf n) wf b_is_name ⟨ρ0, h⟩ = .ok (.ret (.bl false) false, ⟨ρ0, h⟩) from runF_ret rfl ⟨_, q (Mi.start ⟨1, 2, b_is_name⟩ [d]) (Live.of rfl (by simp [Mi.start])), rfl⟩
  intro ρ0 H0
  unfold b_is_name
  refine exs_ret ?_
  rw [evR_of (by intro i; simp)]
  exact and_t (x := false) (y := false) (f1 := true) (f2 := false) (by simp only [ev_bi, evs_cons, evs_nil, ev_pk, H0.p 0 rfl, bo, isi_other "str" e (by decide), ht]) (fun q => by cases q) (fun _ => rfl)
/-- what no dict is -/
theorem nodict {d : D} {t : String} (e : typeOf d = some t) (ht : isA t "dict" = false) : No (n + 1) wf h "is_amounts" d ∧ No (n + 1) wf h "is_labels" d ∧ No (n + 1) wf h "is_picks" d := by
  have main : ∀ (cf : Calls) (x : E) (ρ0 : Rho), Live 2 ρ0 [(0, some (d, false))] → exs cf wf (.cons (.ret (.and (.bi (.isinst "dict") (.cons (.pk 0) .nil)) x)) .nil) ⟨ρ0, h⟩ = .ok (.ret (.bl false) false, ⟨ρ0, h⟩) := by
    intro cf x ρ0 H0
    refine exs_ret ?_
    rw [evR_of (by intro i; simp)]
    exact and_t (x := false) (y := false) (f1 := true) (f2 := false) (by simp only [ev_bi, evs_cons, evs_nil, ev_pk, H0.p 0 rfl, bo, isi_other "dict" e (by decide), ht]) (fun q => by cases q) (fun _ => rfl)
  refine ⟨⟨false, ?_⟩, ⟨false, ?_⟩, ⟨false, ?_⟩⟩
  · rw [c_is_amounts]
    exact runF_ret rfl ⟨_, main _ _ (Mi.start ⟨1, 2, b_is_amounts⟩ [d]) (Live.of rfl (by simp [Mi.start])), rfl⟩
  · rw [c_is_labels]
    exact runF_ret rfl ⟨_, main _ _ (Mi.start ⟨1, 2, b_is_labels⟩ [d]) (Live.of rfl (by simp [Mi.start])), rfl⟩
  · rw [c_is_picks]
    exact runF_ret rfl ⟨_, main _ _ (Mi.start ⟨1, 2, b_is_picks⟩ [d]) (Live.of rfl (by simp [Mi.start])), rfl⟩
/-- a dict of one row, by what is asked of it -/
theorem one_row {cf : Calls} {ρ0 : Rho} {k : L2.Key} {v : D} {x : E} {b fr : Bool} (H0 : Live 2 ρ0 [(0, some (.dct [(k, v)], false))]) (hx : ev cf (ρ0.set 1 (some (keyD k, false))) x h = .ok (.bl b, fr, h)) :
    exs cf wf (.cons (.ret (.and (.bi (.isinst "dict") (.cons (.pk 0) .nil)) (.bi .all (.cons (.lc [1] (.name 1) (.over (.var 0)) (.bl true) x) .nil)))) .nil) ⟨ρ0, h⟩ = .ok (.ret (.bl b) false, ⟨ρ0, h⟩) := by
  refine exs_ret ?_
  rw [evR_of (by intro i; simp)]
  have i1 : Mi.bi (.isinst "dict") [.dct [(k, v)]] = .ok (.bl true) := rfl
  refine and_t (x := true) (f1 := true) (f2 := true) (by simp only [ev_bi, evs_cons, evs_nil, ev_pk, H0.p 0 rfl, bo, i1]) (fun _ => ?_) (fun q => by cases q)
  rw [ev_all (fun k => keyD k) (fun _ => b) [k] (by simp only [evi_over, ev_var, H0.v 0 rfl, bo, items_dct]; rfl) (by rw [H0.1]; decide) (fun a ha => ⟨fr, by rw [List.mem_singleton] at ha; rw [ha]; exact hx⟩) (by simp)]
  simp
theorem name_str {x : Str} (hx : x.cps.toList.length < 16777216) : callN prg wf (n + 1) "is_name" [.str x] h = .ok (.bl (nameB x), false, h) := r_is_name hx (by omega)
theorem and_f {cf : Calls} {ρ : Rho} {a b : E} {f1 : Bool} (ha : ev cf ρ a h = .ok (.bl false, f1, h)) : ev cf ρ (.and a b) h = .ok (.bl false, false, h) := by
  rw [ev_and, ha, bo, boolK_bl]
  rfl
/-- what a key no word is -/
theorem badkey {k : L2.Key} {v : D} (e : ∀ n, ∃ fr, callN prg wf (n + 1) "is_name" [keyD k] h = .ok (.bl false, fr, h)) : No (n + 2) wf h "is_amounts" (.dct [(k, v)]) ∧ No (n + 2) wf h "is_labels" (.dct [(k, v)]) ∧ No (n + 2) wf h "is_picks" (.dct [(k, v)]) := by
  have c : ∀ (ρ0 : Rho) (y : E), Live 2 ρ0 [(0, some (.dct [(k, v)], false))] → ev (callN prg wf (n + 1)) (ρ0.set 1 (some (keyD k, false))) (.and (.call "is_name" (.cons (.var 1) .nil)) y) h = .ok (.bl false, false, h) := fun ρ0 y H0 => by
    have H1 := H0.set (i := 1) (x := some (keyD k, false)) (by decide)
    obtain ⟨fr, e⟩ := e n
    exact and_f (f1 := fr) (by simp only [ev_call, evs_cons, evs_nil, ev_var, H1.v 1 rfl, bo, e])
  have go : ∀ f : Fn, Live 2 (Mi.start ⟨1, 2, f.body⟩ [.dct [(k, v)]]) [(0, some (.dct [(k, v)], false))] := fun f => Live.of rfl (by simp [Mi.start])
  refine ⟨⟨false, ?_⟩, ⟨false, ?_⟩, ⟨false, ?_⟩⟩
  · rw [show n + 2 = (n + 1) + 1 from rfl, c_is_amounts]
    exact runF_ret rfl ⟨_, one_row (go ⟨1, 2, b_is_amounts⟩) (c _ _ (go ⟨1, 2, b_is_amounts⟩)), rfl⟩
  · rw [show n + 2 = (n + 1) + 1 from rfl, c_is_labels]
    exact runF_ret rfl ⟨_, one_row (go ⟨1, 2, b_is_labels⟩) (c _ _ (go ⟨1, 2, b_is_labels⟩)), rfl⟩
  · rw [show n + 2 = (n + 1) + 1 from rfl, c_is_picks]
    exact runF_ret rfl ⟨_, one_row (go ⟨1, 2, b_is_picks⟩) (c _ _ (go ⟨1, 2, b_is_picks⟩)), rfl⟩
theorem num_no {d : D} {t : String} (e : typeOf d = some t) (ht : isA t "int" = false ∨ isA t "bool" = true) : No (n + 1) wf h "is_number" d := by
  refine ⟨false, ?_⟩
  rw [c_is_number]
  suffices q : ∀ ρ0 : Rho, Live 1 ρ0 [(0, some (d, false))] → exs (callN prg wf n) wf b_is_number ⟨ρ0, h⟩ = .ok (.ret (.bl false) false, ⟨ρ0, h⟩) from runF_ret rfl ⟨_, q (Mi.start ⟨1, 1, b_is_number⟩ [d]) (Live.of rfl (by simp [Mi.start])), rfl⟩
  intro ρ0 H0
  unfold b_is_number
  refine exs_ret ?_
  rw [evR_of (by intro i; simp)]
  refine and_t (x := isA t "int") (y := false) (f1 := true) (f2 := false) (by simp only [ev_bi, evs_cons, evs_nil, ev_pk, H0.p 0 rfl, bo, isi_other "int" e (by decide)]) (fun q => ?_) (fun _ => rfl)
  rcases ht with ht | ht
  · rw [ht] at q; cases q
  · simp only [ev_not, ev_bi, evs_cons, evs_nil, ev_pk, H0.p 0 rfl, bo, isi_other "bool" e (by decide), ht, boolK_bl, Bool.not_true]
theorem from_no {d : D} {i : Int} {t : String} (e : typeOf d = some t) (ht : isA t "int" = false ∨ isA t "bool" = true) : ∃ fr, callN prg wf (n + 2) "is_from" [d, .int i] h = .ok (.bl false, fr, h) := by
  refine ⟨false, ?_⟩
  rw [show n + 2 = (n + 1) + 1 from rfl, c_is_from]
  suffices q : ∀ ρ0 : Rho, Live 2 ρ0 [(0, some (d, false))] → exs (callN prg wf (n + 1)) wf b_is_from ⟨ρ0, h⟩ = .ok (.ret (.bl false) false, ⟨ρ0, h⟩) from runF_ret rfl ⟨_, q (Mi.start ⟨2, 2, b_is_from⟩ [d, .int i]) (Live.of rfl (by simp [Mi.start])), rfl⟩
  intro ρ0 H0
  unfold b_is_from
  refine exs_ret ?_
  rw [evR_of (by intro i; simp)]
  obtain ⟨fr, e⟩ := num_no (n := n) (wf := wf) (h := h) e ht
  exact and_f (f1 := fr) (by simp only [ev_call, evs_cons, evs_nil, ev_var, H0.v 0 rfl, bo, e])
theorem set_no {d : D} {t : String} (e : typeOf d = some t) (ht : isA t "tuple" = false) : No (n + 1) wf h "is_word_set" d := by
  refine ⟨false, ?_⟩
  rw [c_is_word_set]
  suffices q : ∀ ρ0 : Rho, Live 2 ρ0 [(0, some (d, false))] → exs (callN prg wf n) wf b_is_word_set ⟨ρ0, h⟩ = .ok (.ret (.bl false) false, ⟨ρ0, h⟩) from runF_ret rfl ⟨_, q (Mi.start ⟨1, 2, b_is_word_set⟩ [d]) (Live.of rfl (by simp [Mi.start])), rfl⟩
  intro ρ0 H0
  unfold b_is_word_set
  refine exs_ret ?_
  rw [evR_of (by intro i; simp)]
  exact and_f (f1 := true) (by simp only [ev_bi, evs_cons, evs_nil, ev_pk, H0.p 0 rfl, bo, isi_other "tuple" e (by decide), ht])
theorem look1 {k : Str} {v : D} : idx (.dct [(.inr k, v)]) (.str k) = .ok v := by
  rw [idx_dct]
  unfold look
  rw [List.find?_cons, decide_eq_true rfl]
  rfl
theorem app_name : nameB "app" = true := by decide +kernel
theorem cpu_name : nameB "cpu" = true := by decide +kernel
/-- a word's value that is none -/
theorem bad_lab {v : D} {b : Bool} (e : ∃ fr, callN prg wf (n + 1) "is_name" [v] h = .ok (.bl b, fr, h)) : ∃ fr, callN prg wf (n + 2) "is_labels" [.dct [(.inr "app", v)]] h = .ok (.bl b, fr, h) := by
  refine ⟨false, ?_⟩
  rw [show n + 2 = (n + 1) + 1 from rfl, c_is_labels]
  have H0 : Live 2 (Mi.start ⟨1, 2, b_is_labels⟩ [.dct [(.inr "app", v)]]) [(0, some (.dct [(.inr "app", v)], false))] := Live.of rfl (by simp [Mi.start])
  refine runF_ret rfl ⟨_, one_row (fr := false) H0 ?_, rfl⟩
  have H1 := H0.set (i := 1) (x := some (keyD (.inr "app"), false)) (by decide)
  rw [keyD_inr] at H1 ⊢
  obtain ⟨fr, e⟩ := e
  refine and_t (x := true) (f1 := false) (f2 := fr) (by simp only [ev_call, evs_cons, evs_nil, ev_var, H1.v 1 rfl, bo]; rw [name_str (by decide), app_name]) (fun _ => ?_) (fun q => by cases q)
  simp only [ev_call, evs_cons, evs_nil, ev_idx, ev_pk, H1.p 0 rfl, H1.p 1 rfl, bo, deref_dct, look1, e]
theorem bad_pick {v : D} {b : Bool} (e : ∃ fr, callN prg wf (n + 1) "is_word_set" [v] h = .ok (.bl b, fr, h)) : ∃ fr, callN prg wf (n + 2) "is_picks" [.dct [(.inr "app", v)]] h = .ok (.bl b, fr, h) := by
  refine ⟨false, ?_⟩
  rw [show n + 2 = (n + 1) + 1 from rfl, c_is_picks]
  have H0 : Live 2 (Mi.start ⟨1, 2, b_is_picks⟩ [.dct [(.inr "app", v)]]) [(0, some (.dct [(.inr "app", v)], false))] := Live.of rfl (by simp [Mi.start])
  refine runF_ret rfl ⟨_, one_row (fr := false) H0 ?_, rfl⟩
  have H1 := H0.set (i := 1) (x := some (keyD (.inr "app"), false)) (by decide)
  rw [keyD_inr] at H1 ⊢
  obtain ⟨fr, e⟩ := e
  refine and_t (x := true) (f1 := false) (f2 := fr) (by simp only [ev_call, evs_cons, evs_nil, ev_var, H1.v 1 rfl, bo]; rw [name_str (by decide), app_name]) (fun _ => ?_) (fun q => by cases q)
  simp only [ev_call, evs_cons, evs_nil, ev_idx, ev_pk, H1.p 0 rfl, H1.p 1 rfl, bo, deref_dct, look1, e]
theorem bad_am {v : D} (e : ∃ fr, callN prg wf (n + 1) "is_from" [v, .int 1] h = .ok (.bl false, fr, h)) : No (n + 2) wf h "is_amounts" (.dct [(.inr "cpu", v)]) := by
  refine ⟨false, ?_⟩
  rw [show n + 2 = (n + 1) + 1 from rfl, c_is_amounts]
  have H0 : Live 2 (Mi.start ⟨1, 2, b_is_amounts⟩ [.dct [(.inr "cpu", v)]]) [(0, some (.dct [(.inr "cpu", v)], false))] := Live.of rfl (by simp [Mi.start])
  refine runF_ret rfl ⟨_, one_row (fr := false) H0 ?_, rfl⟩
  have H1 := H0.set (i := 1) (x := some (keyD (.inr "cpu"), false)) (by decide)
  rw [keyD_inr] at H1 ⊢
  obtain ⟨fr, e⟩ := e
  refine and_t (x := true) (f1 := false) (f2 := fr) (by simp only [ev_call, evs_cons, evs_nil, ev_var, H1.v 1 rfl, bo]; rw [name_str (by decide), cpu_name]) (fun _ => ?_) (fun q => by cases q)
  simp only [ev_call, evs_cons, evs_nil, ev_idx, ev_pk, ev_int, H1.p 0 rfl, H1.p 1 rfl, bo, deref_dct, look1, e]
/-- a tuple of no words -/
theorem set_int {d : D} {t : String} (e : typeOf d = some t) (ht : isA t "str" = false) (hf : D.flat d = true) : No (n + 2) wf h "is_word_set" (.tup [d]) := by
  refine ⟨false, ?_⟩
  rw [show n + 2 = (n + 1) + 1 from rfl, c_is_word_set]
  suffices q : ∀ ρ0 : Rho, Live 2 ρ0 [(0, some (.tup [d], false))] → exs (callN prg wf (n + 1)) wf b_is_word_set ⟨ρ0, h⟩ = .ok (.ret (.bl false) false, ⟨ρ0, h⟩) from runF_ret rfl ⟨_, q (Mi.start ⟨1, 2, b_is_word_set⟩ [.tup [d]]) (Live.of rfl (by simp [Mi.start])), rfl⟩
  intro ρ0 H0
  unfold b_is_word_set
  refine exs_ret ?_
  rw [evR_of (by intro i; simp)]
  have i1 : Mi.bi (.isinst "tuple") [.tup [d]] = .ok (.bl true) := rfl
  refine and_t (x := true) (f1 := true) (f2 := false) (by simp only [ev_bi, evs_cons, evs_nil, ev_pk, H0.p 0 rfl, bo, i1]) (fun _ => ?_) (fun q => by cases q)
  have f2 : fits 0 = true := rfl
  have nt : cmp .ne (.tup [d]) (.tup []) = .ok true := by simp [cmp, eqB, eqOK, eqAll, guard', D.eqv, eqvs]
  refine and_t (x := true) (f1 := false) (f2 := false) (by simp only [ev_cmp, ev_pk, H0.p 0 rfl, bo, ev_tup, evs_nil, List.length_nil, f2, guard_t, nt]) (fun z => ?_) (fun z => by cases z)
  obtain ⟨fr, en⟩ := name_no (n := n) (wf := wf) (h := h) e ht
  refine and_f (f1 := true) ?_
  rw [ev_all (fun _ : Unit => d) (fun _ => false) [()] (by simp only [evi_over, ev_var, H0.v 0 rfl, bo, items_tup]; rfl) (by rw [H0.1]; decide) (fun a ha => ⟨fr, by
    have H1 := H0.set (i := 1) (x := some (d, false)) (by decide)
    simp only [ev_call, evs_cons, evs_nil, ev_var, H1.v 1 rfl, bo, en]⟩) (by decide)]
  rfl
end K4

set_option Elab.async false
set_option linter.all false
set_option maxRecDepth 100000
set_option maxHeartbeats 8000000
/-! k04: the law's statements, one by one (printed by slice.py from K4Text). -/
namespace K4
open PySem Mi
def s0 : S := (.asg (.tup [4, 5]) (.tup (.cons (.call "_law_amounts" (.cons (.var 1) .nil)) (.cons (.call "_law_amounts" (.cons (.var 1) .nil)) .nil))))
def s1 : S := (.iff (.cmp .isnot (.call "is_amounts" (.cons (.bi .dict (.cons (.pk 4) .nil)) .nil)) (.bl true)) (.cons (.ret (.bl false)) .nil) .nil)
def s2 : S := (.frz [2])
def s3 : S := (.asg (.name 6) (.bi .dict (.cons (.lc [27] (.name 27) (.over (.var 2)) (.or (.cmp .isin (.pk 27) (.pk 4)) (.cmp .isin (.pk 27) (.pk 5))) (.tup (.cons (.var 27) (.cons (.bin .add (.get (.pk 4) (.cons (.pk 27) (.cons (.int 0) .nil))) (.get (.pk 5) (.cons (.pk 27) (.cons (.int 0) .nil)))) .nil)))) .nil)))
def s4 : S := (.asg (.name 7) (.cmp .eq (.lc [27] (.name 27) (.over (.var 4)) (.cmp .gt (.idx (.pk 4) (.pk 27)) (.get (.pk 5) (.cons (.pk 27) (.cons (.int 0) .nil)))) (.var 27)) (.lst .nil)))
def s5 : S := (.frz [6])
def s6 : S := (.iff (.or (.not (.call "_law_alike" (.cons (.call "plus_amounts" (.cons (.bi .dict (.cons (.pk 4) .nil)) (.cons (.bi .dict (.cons (.pk 5) .nil)) .nil))) (.cons (.var 6) .nil)))) (.not (.call "_law_says" (.cons (.call "fits_in" (.cons (.bi .dict (.cons (.pk 4) .nil)) (.cons (.bi .dict (.cons (.pk 5) .nil)) .nil))) (.cons (.var 7) .nil))))) (.cons (.ret (.bl false)) .nil) .nil)
def s7 : S := (.asg (.name 8) (.bi .dict (.cons (.lc [27] (.name 27) (.over (.var 5)) (.cmp .gt (.idx (.pk 5) (.pk 27)) (.get (.pk 4) (.cons (.pk 27) (.cons (.int 0) .nil)))) (.tup (.cons (.var 27) (.cons (.bin .sub (.idx (.pk 5) (.pk 27)) (.get (.pk 4) (.cons (.pk 27) (.cons (.int 0) .nil)))) .nil)))) .nil)))
def s8 : S := (.frz [8])
def s9 : S := (.iff (.not (.call "_law_alike" (.cons (.call "minus_amounts" (.cons (.bi .dict (.cons (.pk 5) .nil)) (.cons (.bi .dict (.cons (.pk 4) .nil)) .nil))) (.cons (.ite (.pk 7) (.var 8) .non) .nil)))) (.cons (.ret (.bl false)) .nil) .nil)
def s10 : S := (.asg (.name 9) (.bi .dict (.cons (.lc [27] (.name 27) (.over (.var 4)) (.cmp .gt (.idx (.pk 4) (.pk 27)) (.get (.pk 5) (.cons (.pk 27) (.cons (.int 0) .nil)))) (.tup (.cons (.var 27) (.cons (.bin .sub (.idx (.pk 4) (.pk 27)) (.get (.pk 5) (.cons (.pk 27) (.cons (.int 0) .nil)))) .nil)))) .nil)))
def s11 : S := (.frz [9])
def s12 : S := (.iff (.not (.call "_law_alike" (.cons (.call "lack" (.cons (.bi .dict (.cons (.pk 4) .nil)) (.cons (.bi .dict (.cons (.pk 5) .nil)) .nil))) (.cons (.var 9) .nil)))) (.cons (.ret (.bl false)) .nil) .nil)
def s13 : S := (.asg (.name 10) (.lc [28] (.name 28) (.range (.cons (.int 12) .nil)) (.cmp .eq (.lc [27] (.name 27) (.over (.var 4)) (.cmp .gt (.bin .mul (.idx (.pk 4) (.pk 27)) (.pk 28)) (.get (.pk 5) (.cons (.pk 27) (.cons (.int 0) .nil)))) (.var 27)) (.lst .nil)) (.var 28)))
def s14 : S := (.iff (.cmp .ne (.call "times_in" (.cons (.bi .dict (.cons (.pk 4) .nil)) (.cons (.bi .dict (.cons (.pk 5) .nil)) .nil))) (.ite (.cmp .ne (.pk 4) (.dct .nil)) (.idx (.pk 10) (.bin .sub (.bi .len (.cons (.pk 10) .nil)) (.int 1))) .non)) (.cons (.ret (.bl false)) .nil) .nil)
def s15 : S := (.asg (.name 11) (.lc [28] (.name 28) (.range (.cons (.call "_law_next" (.cons (.var 1) (.cons (.int 4) .nil))) .nil)) (.bl true) (.call "_law_amounts" (.cons (.var 1) .nil))))
def s16 : S := (.frz [2, 11])
def s17 : S := (.asg (.name 12) (.bi .dict (.cons (.lc [27] (.name 27) (.over (.var 2)) (.cmp .ne (.lc [29] (.name 29) (.over (.var 11)) (.cmp .isin (.pk 27) (.pk 29)) (.var 29)) (.lst .nil)) (.tup (.cons (.var 27) (.cons (.bi .sum (.cons (.lc [29] (.name 29) (.over (.var 11)) (.bl true) (.get (.pk 29) (.cons (.pk 27) (.cons (.int 0) .nil)))) .nil)) .nil)))) .nil)))
def s18 : S := (.frz [11, 12])
def s19 : S := (.iff (.not (.call "_law_alike" (.cons (.call "sum_amounts" (.cons (.lc [29] (.name 29) (.over (.var 11)) (.bl true) (.bi .dict (.cons (.pk 29) .nil))) .nil)) (.cons (.var 12) .nil)))) (.cons (.ret (.bl false)) .nil) .nil)
def s20 : S := (.asg (.tup [13, 14]) (.tup (.cons (.call "_law_picks" (.cons (.var 1) .nil)) (.cons (.call "_law_picks" (.cons (.var 1) .nil)) .nil))))
def s21 : S := (.asg (.name 15) (.call "_law_all_labels" .nil))
def s22 : S := (.frz [15])
def s23 : S := (.fr (.name 16) (.over (.var 15)) (.cons (.iff (.not (.call "_law_says" (.cons (.call "picked" (.cons (.bi .dict (.cons (.pk 13) .nil)) (.cons (.bi .dict (.cons (.pk 16) .nil)) .nil))) (.cons (.call "_law_is_picked" (.cons (.var 13) (.cons (.var 16) .nil))) .nil)))) (.cons (.ret (.bl false)) .nil) .nil) .nil))
def s24 : S := (.frz [15])
def s25 : S := (.iff (.not (.call "_law_says" (.cons (.call "narrower" (.cons (.bi .dict (.cons (.pk 13) .nil)) (.cons (.bi .dict (.cons (.pk 14) .nil)) .nil))) (.cons (.cmp .eq (.lc [30] (.name 30) (.over (.var 15)) (.and (.call "_law_is_picked" (.cons (.var 13) (.cons (.var 30) .nil))) (.not (.call "_law_is_picked" (.cons (.var 14) (.cons (.var 30) .nil))))) (.var 30)) (.lst .nil)) .nil)))) (.cons (.ret (.bl false)) .nil) .nil)
def s26 : S := (.frz [15])
def s27 : S := (.asg (.name 17) (.lc [30] (.name 30) (.over (.var 15)) (.and (.call "_law_is_picked" (.cons (.var 13) (.cons (.var 30) .nil))) (.call "_law_is_picked" (.cons (.var 14) (.cons (.var 30) .nil)))) (.var 30)))
def s28 : S := (.asg (.name 18) (.call "both_picks" (.cons (.bi .dict (.cons (.pk 13) .nil)) (.cons (.bi .dict (.cons (.pk 14) .nil)) .nil))))
def s29 : S := (.frz [15])
def s30 : S := (.iff (.or (.cmp .ne (.cmp .is (.pk 18) .non) (.cmp .eq (.pk 17) (.lst .nil))) (.and (.cmp .isnot (.pk 18) .non) (.or (.cmp .isnot (.call "is_picks" (.cons (.var 18) .nil)) (.bl true)) (.cmp .ne (.lc [30] (.name 30) (.over (.var 15)) (.call "_law_is_picked" (.cons (.var 18) (.cons (.var 30) .nil))) (.var 30)) (.pk 17))))) (.cons (.ret (.bl false)) .nil) .nil)
def s31 : S := (.asg (.name 19) (.lc [28] (.name 28) (.range (.cons (.bin .add (.int 1) (.call "_law_next" (.cons (.var 1) (.cons (.int 7) .nil)))) .nil)) (.bl true) (.call "_law_next" (.cons (.var 1) (.cons (.int 12) .nil)))))
def s32 : S := (.asg (.tup [20, 21]) (.tup (.cons (.bi .sorted (.cons (.pk 19) .nil)) (.cons (.bi .len (.cons (.pk 19) .nil)) .nil))))
def s33 : S := (.iff (.or (.cmp .ne (.call "middle" (.cons (.bi .list (.cons (.pk 19) .nil)) .nil)) (.idx (.pk 20) (.bin .fdiv (.bin .sub (.pk 21) (.int 1)) (.int 2)))) (.or (.cmp .ne (.call "spread_of" (.cons (.bi .list (.cons (.pk 19) .nil)) .nil)) (.bin .sub (.idx (.pk 20) (.bin .sub (.pk 21) (.int 1))) (.idx (.pk 20) (.int 0)))) (.not (.call "_law_is_one" (.cons (.call "mean" (.cons (.bi .list (.cons (.pk 19) .nil)) .nil)) (.cons (.bi .sum (.cons (.pk 19) .nil)) (.cons (.var 21) .nil))))))) (.cons (.ret (.bl false)) .nil) .nil)
def s34 : S := (.asg (.name 22) (.bin .add (.int 1) (.call "_law_next" (.cons (.var 1) (.cons (.int 6) .nil)))))
def s35 : S := (.asg (.name 23) (.bin .add (.int 1) (.call "_law_next" (.cons (.var 1) (.cons (.var 22) .nil)))))
def s36 : S := (.frz [19])
def s37 : S := (.asg (.name 24) (.lc [31] (.name 31) (.over (.var 20)) (.cmp .ge (.bin .mul (.bi .len (.cons (.lc [30] (.name 30) (.over (.var 19)) (.cmp .le (.pk 30) (.pk 31)) (.var 30)) .nil)) (.pk 22)) (.bin .mul (.pk 23) (.pk 21))) (.var 31)))
def s38 : S := (.iff (.cmp .ne (.call "at_part" (.cons (.bi .list (.cons (.pk 19) .nil)) (.cons (.tup (.cons (.var 23) (.cons (.var 22) .nil))) .nil))) (.idx (.pk 24) (.int 0))) (.cons (.ret (.bl false)) .nil) .nil)
def s39 : S := (.frz [19])
def s40 : S := (.asg (.name 25) (.bi .sum (.cons (.lc [31] (.name 31) (.over (.var 19)) (.bl true) (.bin .mul (.pk 31) (.pk 31))) .nil)))
def s41 : S := (.iff (.or (.and (.not (.call "_law_is_one" (.cons (.call "evenness" (.cons (.bi .list (.cons (.pk 19) .nil)) .nil)) (.cons (.bin .mul (.bi .sum (.cons (.pk 19) .nil)) (.bi .sum (.cons (.pk 19) .nil))) (.cons (.bin .mul (.pk 21) (.pk 25)) .nil))))) (.cmp .gt (.pk 25) (.int 0))) (.and (.cmp .eq (.pk 25) (.int 0)) (.cmp .ne (.call "evenness" (.cons (.bi .list (.cons (.pk 19) .nil)) .nil)) (.tup (.cons (.int 1) (.cons (.int 1) .nil)))))) (.cons (.ret (.bl false)) .nil) .nil)
def b_turn : Ss := (.cons s0 (.cons s1 (.cons s2 (.cons s3 (.cons s4 (.cons s5 (.cons s6 (.cons s7 (.cons s8 (.cons s9 (.cons s10 (.cons s11 (.cons s12 (.cons s13 (.cons s14 (.cons s15 (.cons s16 (.cons s17 (.cons s18 (.cons s19 (.cons s20 (.cons s21 (.cons s22 (.cons s23 (.cons s24 (.cons s25 (.cons s26 (.cons s27 (.cons s28 (.cons s29 (.cons s30 (.cons s31 (.cons s32 (.cons s33 (.cons s34 (.cons s35 (.cons s36 (.cons s37 (.cons s38 (.cons s39 (.cons s40 (.cons s41 .nil))))))))))))))))))))))))))))))))))))))))))
def t0 : S := (.box 1 (.dct (.cons (.str "draws") (.cons (.call "_law_draws" (.cons (.var 0) (.cons (.int 500) .nil))) (.cons (.str "at") (.cons (.int 0) .nil))))))
def t1 : S := (.asg (.name 2) (.lst (.cons (.str "cpu") (.cons (.str "disk") (.cons (.str "mem") .nil)))))
def t2 : S := (.fr (.name 3) (.range (.cons (.int 10) .nil)) b_turn)
def t3 : S := (.fr (.name 26) (.over (.lst (.cons .non (.cons (.dct (.cons (.str "cpu") (.cons (.int 0) .nil))) (.cons (.dct (.cons (.str "cpu") (.cons (.bl true) .nil))) (.cons (.dct (.cons (.str "CPU") (.cons (.int 1) .nil))) (.cons (.dct (.cons (.int 1) (.cons (.int 1) .nil))) (.cons (.lst (.cons (.tup (.cons (.str "cpu") (.cons (.int 1) .nil))) .nil)) (.cons (.dct (.cons (.str "cpu") (.cons (.str "1") .nil))) (.cons (.dct (.cons (.str "") (.cons (.int 1) .nil))) .nil)))))))))) (.cons (.iff (.cmp .isnot (.call "is_amounts" (.cons (.var 26) .nil)) (.bl false)) (.cons (.ret (.bl false)) .nil) .nil) .nil))
def t4 : S := (.fr (.name 26) (.over (.lst (.cons .non (.cons (.dct (.cons (.str "app") (.cons (.str "Web") .nil))) (.cons (.dct (.cons (.str "app") (.cons (.int 1) .nil))) (.cons (.dct (.cons (.str "") (.cons (.str "a") .nil))) (.cons (.lst (.cons (.tup (.cons (.str "app") (.cons (.str "web") .nil))) .nil)) (.cons (.dct (.cons (.str "app") (.cons (.tup (.cons (.str "web") .nil)) .nil))) .nil)))))))) (.cons (.iff (.cmp .isnot (.call "is_labels" (.cons (.var 26) .nil)) (.bl false)) (.cons (.ret (.bl false)) .nil) .nil) .nil))
def t5 : S := (.fr (.name 26) (.over (.lst (.cons .non (.cons (.dct (.cons (.str "app") (.cons (.tup .nil) .nil))) (.cons (.dct (.cons (.str "app") (.cons (.str "web") .nil))) (.cons (.dct (.cons (.str "app") (.cons (.tup (.cons (.str "b") (.cons (.str "a") .nil))) .nil))) (.cons (.dct (.cons (.str "app") (.cons (.tup (.cons (.str "a") (.cons (.str "a") .nil))) .nil))) (.cons (.dct (.cons (.str "app") (.cons (.lst (.cons (.str "a") .nil)) .nil))) (.cons (.dct (.cons (.str "app") (.cons (.tup (.cons (.int 1) .nil)) .nil))) .nil))))))))) (.cons (.iff (.cmp .isnot (.call "is_picks" (.cons (.var 26) .nil)) (.bl false)) (.cons (.ret (.bl false)) .nil) .nil) .nil))
def t6 : S := (.ret (.and (.cmp .is (.call "is_amounts" (.cons (.dct .nil) .nil)) (.bl true)) (.and (.cmp .is (.call "is_labels" (.cons (.dct (.cons (.str "app") (.cons (.str "web") .nil))) .nil)) (.bl true)) (.and (.cmp .is (.call "is_labels" (.cons (.dct .nil) .nil)) (.bl true)) (.and (.cmp .is (.call "is_picks" (.cons (.dct .nil) .nil)) (.bl true)) (.cmp .is (.call "is_picks" (.cons (.dct (.cons (.str "app") (.cons (.tup (.cons (.str "a") (.cons (.str "b") .nil))) .nil))) .nil)) (.bl true)))))))
theorem b_law_eq : b_law = (.cons t0 (.cons t1 (.cons t2 (.cons t3 (.cons t4 (.cons t5 (.cons t6 .nil))))))) := rfl
end K4

set_option Elab.async false
set_option linter.all false
set_option maxRecDepth 100000
set_option maxHeartbeats 8000000
/-! k04: a turn of the law, amounts. -/
namespace K4
open PySem Mi
variable {n wf : Nat} {h : AH} {cf : Calls} {ρ : Rho} {r : Ss}
def dW : D := .lst (words.map D.str)
theorem is_dct_dA {A : List (Str × Int)} : (dA A).isDct = true := rfl
theorem get_dA {A : List (Str × Int)} {w : Str} : Mi.getD (dA A) [.str w, .int 0] = .ok (.int ((lk A w).getD 0)) := by
  unfold dA kv
  rw [getD2, look_row]
  cases lk A w <;> rfl
theorem ev_get0 {A : List (Str × Int)} {w : Str} {i j : Nat} (hi : pAt ρ i h = .ok (dA A, false, h)) (hj : pAt ρ j h = .ok (.str w, false, h)) : ev cf ρ (.get (.pk i) (.cons (.pk j) (.cons (.int 0) .nil))) h = .ok (.int ((lk A w).getD 0), false, h) := by
  simp only [ev_get, ev_pk, hi, hj, bo, is_dct_dA, guard_t, evs_cons, evs_nil, ev_int, get_dA]
theorem ev_idxA {A : List (Str × Int)} {w : Str} {v : Int} {i j : Nat} (hi : pAt ρ i h = .ok (dA A, false, h)) (hj : pAt ρ j h = .ok (.str w, false, h)) (e : lk A w = some v) : ev cf ρ (.idx (.pk i) (.pk j)) h = .ok (.int v, false, h) := by
  simp only [ev_idx, ev_pk, hi, hj, bo]
  unfold dA
  simp only [deref_kv, idx_kv e, bo]
theorem ev_inA {A : List (Str × Int)} {w : Str} {i j : Nat} (hi : pAt ρ i h = .ok (dA A, false, h)) (hj : pAt ρ j h = .ok (.str w, false, h)) : ev cf ρ (.cmp .isin (.pk j) (.pk i)) h = .ok (.bl (lk A w).isSome, false, h) := by
  simp only [ev_cmp, ev_pk, hi, hj, bo]
  unfold dA
  simp only [in_kv, bo]
theorem ev_or2 {a b : E} {x y f1 f2 : Bool} (ha : ev cf ρ a h = .ok (.bl x, f1, h)) (hb : ev cf ρ b h = .ok (.bl y, f2, h)) : ev cf ρ (.or a b) h = .ok (.bl (x || y), false, h) := by
  rw [ev_or, ha, bo, boolK_bl, hb]
  cases x <;> rfl
theorem ev_not1 {a : E} {x f1 : Bool} (ha : ev cf ρ a h = .ok (.bl x, f1, h)) : ev cf ρ (.not a) h = .ok (.bl (!x), false, h) := by
  rw [ev_not, ha, bo, boolK_bl]
theorem ev_call1 {f : String} {a : E} {x y : D} {f1 f2 : Bool} (ha : ev cf ρ a h = .ok (x, f1, h)) (e : cf f [x] h = .ok (y, f2, h)) : ev cf ρ (.call f (.cons a .nil)) h = .ok (y, f2, h) := by
  simp only [ev_call, evs_cons, evs_nil, ha, bo, e]
theorem ev_call2 {f : String} {a b : E} {x y z : D} {f1 f2 f3 : Bool} (ha : ev cf ρ a h = .ok (x, f1, h)) (hb : ev cf ρ b h = .ok (y, f2, h)) (e : cf f [x, y] h = .ok (z, f3, h)) : ev cf ρ (.call f (.cons a (.cons b .nil))) h = .ok (z, f3, h) := by
  simp only [ev_call, evs_cons, evs_nil, ha, hb, bo, e]
theorem ev_bi1 {f : Bi} {a : E} {x y : D} {f1 : Bool} (ha : ev cf ρ a h = .ok (x, f1, h)) (e : Mi.bi f [x] = .ok y) : ev cf ρ (.bi f (.cons a .nil)) h = .ok (y, true, h) := by
  simp only [ev_bi, evs_cons, evs_nil, ha, bo, e]
theorem ev_cmp2 {o : OpC} {a b : E} {x y : D} {z f1 f2 : Bool} (ha : ev cf ρ a h = .ok (x, f1, h)) (hb : ev cf ρ b h = .ok (y, f2, h)) (e : cmp o x y = .ok z) : ev cf ρ (.cmp o a b) h = .ok (.bl z, false, h) := by
  simp only [ev_cmp, ha, hb, bo, e]
theorem ev_bin2 {o : Op2} {a b : E} {x y z : D} {f1 f2 : Bool} (ha : ev cf ρ a h = .ok (x, f1, h)) (hb : ev cf ρ b h = .ok (y, f2, h)) (e : Mi.bin o x y = .ok z) : ev cf ρ (.bin o a b) h = .ok (z, true, h) := by
  simp only [ev_bin, ha, hb, bo, e]
theorem ev_pkv {i : Nat} {d : D} (hi : pAt ρ i h = .ok (d, false, h)) : ev cf ρ (.pk i) h = .ok (d, false, h) := by rw [ev_pk, hi]
theorem ev_varv {i : Nat} {d : D} (hi : vAt ρ i h = .ok (d, false, h)) : ev cf ρ (.var i) h = .ok (d, false, h) := by rw [ev_var, hi]
theorem ev_tup2 {a b : E} {x y : D} {f1 f2 : Bool} (ha : ev cf ρ a h = .ok (x, f1, h)) (hb : ev cf ρ b h = .ok (y, f2, h)) : ev cf ρ (.tup (.cons a (.cons b .nil))) h = .ok (.tup [x, y], false, h) := by
  have f2 : fits 2 = true := rfl
  simp only [ev_tup, evs_cons, evs_nil, ha, hb, bo, List.length_cons, List.length_nil, Nat.zero_add, Nat.reduceAdd, f2, guard_t]
theorem ev_nil : ev cf ρ (.lst .nil) h = .ok (.lst [], true, h) := by
  have f2 : fits 0 = true := rfl
  simp only [ev_lst, evs_nil, bo, List.length_nil, f2, guard_t]
theorem ev_dictA {A : List (Str × Int)} {i : Nat} (hi : pAt ρ i h = .ok (dA A, false, h)) : ev cf ρ (.bi .dict (.cons (.pk i) .nil)) h = .ok (dA A, true, h) := ev_bi1 (ev_pkv hi) rfl
/-- a dict of the words, as amounts -/
theorem dict_words {F : Str → Int} {tst : Str → Bool} {q : Str → D} (ht : ∀ w ∈ words, tst w = decide (0 < F w)) (hq : ∀ w, q w = .tup [.str w, .int (F w)]) : Mi.bi .dict [.lst ((words.filter tst).map q)] = .ok (dA (amF F)) := by
  have e : ((words.filter tst).map q) = (amF F).map fun p => D.tup [.str p.1, .int p.2] := by
    unfold amF
    rw [List.map_map, List.filter_congr ht]
    exact List.map_congr_left fun w _ => hq w
  rw [e, bi_dict_rows D.int (amF_nd F)]
  rfl
theorem dict_less {f g : Str → Int} (hg : nn g) : Mi.bi .dict [.lst (((amF f).filter fun p => decide (g p.1 < p.2)).map fun p => D.tup [.str p.1, .int (p.2 - g p.1)])] = .ok (dA (amF fun w => f w - g w)) := by
  have e : (((amF f).filter fun p => decide (g p.1 < p.2)).map fun p => D.tup [.str p.1, .int (p.2 - g p.1)]) = (words.filter fun w => decide (g w < f w) && decide (0 < f w)).map fun w => D.tup [.str w, .int (f w - g w)] := by
    unfold amF
    rw [List.filter_map, List.map_map, List.filter_filter]
    rfl
  rw [e]
  refine dict_words (F := fun w => f w - g w) (fun w _ => ?_) fun w => rfl
  obtain ⟨a, _⟩ := hg w
  by_cases z : g w < f w
  · rw [decide_eq_true z, decide_eq_true (show 0 < f w by omega), decide_eq_true (show 0 < f w - g w by omega)]
    rfl
  · rw [decide_eq_false z, decide_eq_false (show ¬ 0 < f w - g w by omega)]
    rfl
theorem word_name : ∀ w ∈ words, nameB w = true := by decide +kernel
theorem word_len : ∀ w ∈ words, w.cps.toList.length < 16777216 := by decide +kernel
theorem am_is {f : Str → Int} : ((amF f).all fun p => nameB p.1 && decide (1 ≤ p.2)) = true := by
  rw [List.all_eq_true]
  intro p hp
  obtain ⟨a, b, c⟩ := amF_mem.mp hp
  rw [word_name _ a, decide_eq_true (show 1 ≤ p.2 by omega)]
  rfl
theorem sec1 {l : List Int} {k : Nat} {b : Bool} (H : Live 32 ρ [(1, some (.ref 0, false)), (2, some (dW, b))]) : ∃ (f g : Str → Int) (ρ' : Rho) (k' : Nat), good f ∧ good g ∧ exs (callN prg wf (n + 10)) wf (.cons s0 (.cons s1 (.cons s2 r))) ⟨ρ, HW l k⟩ = exs (callN prg wf (n + 10)) wf r ⟨ρ', HW l k'⟩ ∧
    Live 32 ρ' [(4, some (dA (amF f), false)), (5, some (dA (amF g), false)), (1, some (.ref 0, false)), (2, some (dW, false))] := by
  obtain ⟨f, k1, gf, e1⟩ := r_amounts (wf := wf) (n := n + 8) (l := l) (k := k)
  obtain ⟨g, k2, gg, e2⟩ := r_amounts (wf := wf) (n := n + 8) (l := l) (k := k1)
  unfold s0 s1 s2
  have e0 : ev (callN prg wf (n + 10)) ρ (.tup (.cons (.call "_law_amounts" (.cons (.var 1) .nil)) (.cons (.call "_law_amounts" (.cons (.var 1) .nil)) .nil))) (HW l k) = .ok (.tup [dA (amF f), dA (amF g)], false, HW l k2) := by
    have f2 : fits 2 = true := rfl
    simp only [ev_tup, evs_cons, evs_nil, ev_call, ev_var, H.v 1 rfl, bo, e1, e2, List.length_cons, List.length_nil, Nat.zero_add, Nat.reduceAdd, f2, guard_t]
  obtain ⟨ρ1, q1, H1⟩ := H.asg2 (wf := wf) 4 5 e0
  rw [q1]
  have c1 : ev (callN prg wf (n + 10)) ρ1 (.cmp .isnot (.call "is_amounts" (.cons (.bi .dict (.cons (.pk 4) .nil)) .nil)) (.bl true)) (HW l k2) = .ok (.bl false, false, HW l k2) := by
    refine ev_cmp2 (ev_call1 (ev_dictA (H1.p 4 rfl)) (r_is_amounts (fun p hp => word_len _ (amF_mem.mp hp).1) (fun p hp => lk_mem (amF_nd f) hp) (by have := amF_len (f := f); omega) (by omega))) ev_bl ?_
    rw [am_is]
    rfl
  rw [exs_chk c1]
  obtain ⟨ρ2, q2, H2⟩ := H1.frz1 (cf := callN prg wf (n + 10)) (wf := wf) (h := HW l k2) (is := []) 2 rfl
  rw [q2, exs_frz0]
  exact ⟨f, g, ρ2, k2, gf, gg, rfl, H2.sub ⟨rfl, rfl, rfl, rfl, trivial⟩⟩
theorem fit_empty {f g : Str → Int} : (((amF f).filter fun p => decide (g p.1 < p.2)).map fun p => D.str p.1) = (((amF f).filter fun p => decide (g p.1 < p.2)).map (·.1)).map D.str ∧ (((amF f).filter fun p => decide (g p.1 < p.2)).map (·.1)).isEmpty = fitF f g := by
  refine ⟨by rw [List.map_map]; rfl, ?_⟩
  rw [List.isEmpty_map]
  unfold fitF
  induction amF f with
  | nil => rfl
  | cons p A ih =>
    rw [List.filter_cons, List.all_cons, ← ih]
    by_cases z : g p.1 < p.2
    · rw [decide_eq_true z, decide_eq_false (show ¬ p.2 ≤ g p.1 by omega)]; rfl
    · rw [decide_eq_false z, decide_eq_true (show p.2 ≤ g p.1 by omega)]; rfl
theorem src_A {f : Str → Int} {i : Nat} (hi : vAt ρ i h = .ok (dA (amF f), false, h)) : evi cf ρ (.over (.var i)) h = .ok ((amF f).map fun p => D.str p.1, h) := src_kv (b := false) (by rw [ev_var, hi]; rfl)
/-- the test of one.word > other.get(word, 0) -/
theorem gt_A {f g : Str → Int} (hg : nn g) {L : List (Nat × Sl)} (H : Live 32 ρ L) {i j : Nat} (hi : L.lookup i = some (some (dA (amF f), false))) (hj : L.lookup j = some (some (dA (amF g), false))) (n1 : 27 ≠ i) (n2 : 27 ≠ j) {p : Str × Int} (hp : p ∈ amF f) :
    ev cf (ρ.set 27 (some (D.str p.1, false))) (.cmp .gt (.idx (.pk i) (.pk 27)) (.get (.pk j) (.cons (.pk 27) (.cons (.int 0) .nil)))) h = .ok (.bl (decide (g p.1 < p.2)), false, h) := by
  have h27 : pAt (ρ.set 27 (some (D.str p.1, false))) 27 h = .ok (.str p.1, false, h) := pAt_eq (by rw [H.1]; decide)
  have hpi : pAt (ρ.set 27 (some (D.str p.1, false))) i h = .ok (dA (amF f), false, h) := by rw [pAt_ne n1]; exact H.p i hi
  have hpj : pAt (ρ.set 27 (some (D.str p.1, false))) j h = .ok (dA (amF g), false, h) := by rw [pAt_ne n2]; exact H.p j hj
  refine ev_cmp2 (ev_idxA hpi h27 (lk_mem (amF_nd f) hp)) (ev_get0 hpj h27) ?_
  rw [gd_amF hg, cmp_gt]
theorem sub_A {f g : Str → Int} (hg : nn g) {L : List (Nat × Sl)} (H : Live 32 ρ L) {i j : Nat} (hi : L.lookup i = some (some (dA (amF f), false))) (hj : L.lookup j = some (some (dA (amF g), false))) (n1 : 27 ≠ i) (n2 : 27 ≠ j) {p : Str × Int} (hp : p ∈ amF f) :
    ev cf (ρ.set 27 (some (D.str p.1, false))) (.tup (.cons (.var 27) (.cons (.bin .sub (.idx (.pk i) (.pk 27)) (.get (.pk j) (.cons (.pk 27) (.cons (.int 0) .nil)))) .nil))) h = .ok (.tup [.str p.1, .int (p.2 - g p.1)], false, h) := by
  have h27 : pAt (ρ.set 27 (some (D.str p.1, false))) 27 h = .ok (.str p.1, false, h) := pAt_eq (by rw [H.1]; decide)
  have hpi : pAt (ρ.set 27 (some (D.str p.1, false))) i h = .ok (dA (amF f), false, h) := by rw [pAt_ne n1]; exact H.p i hi
  have hpj : pAt (ρ.set 27 (some (D.str p.1, false))) j h = .ok (dA (amF g), false, h) := by rw [pAt_ne n2]; exact H.p j hj
  refine ev_tup2 (ev_varv (vAt_eq (by rw [H.1]; decide))) (ev_bin2 (ev_idxA hpi h27 (lk_mem (amF_nd f) hp)) (ev_get0 hpj h27) ?_)
  rw [gd_amF hg, sub_int]
/-- a dict of what is more -/
theorem lc_less {f g : Str → Int} (hg : nn g) {L : List (Nat × Sl)} (H : Live 32 ρ L) {i j : Nat} (hi : L.lookup i = some (some (dA (amF f), false))) (hj : L.lookup j = some (some (dA (amF g), false))) (n1 : 27 ≠ i) (n2 : 27 ≠ j) :
    ev cf ρ (.bi .dict (.cons (.lc [27] (.name 27) (.over (.var i)) (.cmp .gt (.idx (.pk i) (.pk 27)) (.get (.pk j) (.cons (.pk 27) (.cons (.int 0) .nil)))) (.tup (.cons (.var 27) (.cons (.bin .sub (.idx (.pk i) (.pk 27)) (.get (.pk j) (.cons (.pk 27) (.cons (.int 0) .nil)))) .nil)))) .nil)) h = .ok (dA (amF fun w => f w - g w), true, h) :=
  ev_bi1 (lc_fil (fun p : Str × Int => D.str p.1) (fun p => D.tup [.str p.1, .int (p.2 - g p.1)]) (fun p => decide (g p.1 < p.2)) (amF f) (src_A (H.v i hi)) (by rw [H.1]; decide) (fun p hp => ⟨false, gt_A hg H hi hj n1 n2 hp⟩) (fun p hp _ => ⟨false, sub_A hg H hi hj n1 n2 hp⟩) (by have := amF_len (f := f); omega)) (dict_less hg)
theorem sec2 {l : List Int} {k : Nat} {f g : Str → Int} (gf : nn f) (gg : nn g) (H : Live 32 ρ [(4, some (dA (amF f), false)), (5, some (dA (amF g), false)), (1, some (.ref 0, false)), (2, some (dW, false))]) : ∃ (ρ' : Rho), exs (callN prg wf (n + 10)) wf (.cons s3 (.cons s4 (.cons s5 (.cons s6 r)))) ⟨ρ, h⟩ = exs (callN prg wf (n + 10)) wf r ⟨ρ', h⟩ ∧
    Live 32 ρ' [(7, some (.bl (fitF f g), false)), (4, some (dA (amF f), false)), (5, some (dA (amF g), false)), (1, some (.ref 0, false)), (2, some (dW, false))] := by
  unfold s3 s4 s5 s6
  have e3 : ev (callN prg wf (n + 10)) ρ (.bi .dict (.cons (.lc [27] (.name 27) (.over (.var 2)) (.or (.cmp .isin (.pk 27) (.pk 4)) (.cmp .isin (.pk 27) (.pk 5))) (.tup (.cons (.var 27) (.cons (.bin .add (.get (.pk 4) (.cons (.pk 27) (.cons (.int 0) .nil))) (.get (.pk 5) (.cons (.pk 27) (.cons (.int 0) .nil)))) .nil)))) .nil)) h = .ok (dA (amF fun w => f w + g w), true, h) := by
    refine ev_bi1 (lc_fil D.str (fun w => D.tup [.str w, .int (f w + g w)]) (fun w => (lk (amF f) w).isSome || (lk (amF g) w).isSome) words (by simp only [evi_over, ev_var, H.v 2 rfl, bo]; rfl) (by rw [H.1]; decide) (fun w hw => ⟨false, ?_⟩) (fun w hw _ => ⟨false, ?_⟩) (by decide)) (dict_words (F := fun w => f w + g w) (fun w hw => ?_) fun w => rfl)
    · have H1 := H.set (i := 27) (x := some (D.str w, false)) (by decide)
      exact ev_or2 (ev_inA (H1.p 4 rfl) (H1.p 27 rfl)) (ev_inA (H1.p 5 rfl) (H1.p 27 rfl))
    · have H1 := H.set (i := 27) (x := some (D.str w, false)) (by decide)
      refine ev_tup2 (ev_varv (H1.v 27 rfl)) (ev_bin2 (ev_get0 (H1.p 4 rfl) (H1.p 27 rfl)) (ev_get0 (H1.p 5 rfl) (H1.p 27 rfl)) ?_)
      rw [gd_amF gf, gd_amF gg, add_int]
    · rw [lk_amF, lk_amF]
      obtain ⟨a, _⟩ := gf w
      obtain ⟨b, _⟩ := gg w
      by_cases x : 0 < f w <;> by_cases y : 0 < g w
      · rw [if_pos ⟨hw, x⟩, if_pos ⟨hw, y⟩, decide_eq_true (by omega)]; rfl
      · rw [if_pos ⟨hw, x⟩, decide_eq_true (by omega)]; rfl
      · rw [if_pos (⟨hw, y⟩ : w ∈ words ∧ 0 < g w), decide_eq_true (by omega), Bool.or_comm]; rfl
      · rw [if_neg (fun z => x z.2), if_neg (fun z => y z.2), decide_eq_false (by omega)]; rfl
  obtain ⟨ρ1, q1, H1⟩ := H.asg (wf := wf) 6 e3
  rw [q1]
  have e4 : ev (callN prg wf (n + 10)) ρ1 (.cmp .eq (.lc [27] (.name 27) (.over (.var 4)) (.cmp .gt (.idx (.pk 4) (.pk 27)) (.get (.pk 5) (.cons (.pk 27) (.cons (.int 0) .nil)))) (.var 27)) (.lst .nil)) h = .ok (.bl (fitF f g), false, h) := by
    refine ev_cmp2 (lc_fil (fun p : Str × Int => D.str p.1) (fun p => D.str p.1) (fun p => decide (g p.1 < p.2)) (amF f) (src_A (H1.v 4 rfl)) (by rw [H1.1]; decide) (fun p hp => ⟨false, gt_A gg H1 (i := 4) (j := 5) rfl rfl (by decide) (by decide) hp⟩) (fun p hp _ => ⟨false, ev_varv (vAt_eq (by rw [H1.1]; decide))⟩) (by have := amF_len (f := f); omega)) ev_nil ?_
    rw [fit_empty.1, eq_strs0, fit_empty.2]
  obtain ⟨ρ2, q2, H2⟩ := H1.asg (wf := wf) 7 e4
  rw [q2]
  obtain ⟨ρ3, q3, H3⟩ := H2.frz1 (cf := callN prg wf (n + 10)) (wf := wf) (h := h) (is := []) 6 rfl
  rw [q3, exs_frz0]
  have c6 : ev (callN prg wf (n + 10)) ρ3 (.or (.not (.call "_law_alike" (.cons (.call "plus_amounts" (.cons (.bi .dict (.cons (.pk 4) .nil)) (.cons (.bi .dict (.cons (.pk 5) .nil)) .nil))) (.cons (.var 6) .nil)))) (.not (.call "_law_says" (.cons (.call "fits_in" (.cons (.bi .dict (.cons (.pk 4) .nil)) (.cons (.bi .dict (.cons (.pk 5) .nil)) .nil))) (.cons (.var 7) .nil))))) h = .ok (.bl false, false, h) := by
    refine ev_or2 (x := false) (y := false) (f2 := false) (ev_not1 (ev_call2 (ev_call2 (ev_dictA (H3.p 4 rfl)) (ev_dictA (H3.p 5 rfl)) (r_plusF gf gg (by omega))) (ev_varv (H3.v 6 rfl)) (r_alike (n := n + 8) (amF_nd _) (by have := amF_len (f := fun w => f w + g w); omega)))) ?_
    have := ev_not1 (x := fitF f g == fitF f g) (ev_call2 (f := "_law_says") (ev_call2 (ev_dictA (H3.p 4 rfl)) (ev_dictA (H3.p 5 rfl)) (r_fitsF (f := f) (n := n + 10) (wf := wf) (h := h) gg (by omega))) (ev_varv (H3.v 7 rfl)) (r_says (n := n + 9)))
    rw [this]
    simp
  rw [exs_chk c6]
  exact ⟨ρ3, rfl, H3.sub ⟨rfl, rfl, rfl, rfl, rfl, trivial⟩⟩
theorem sec3 {f g : Str → Int} (gf : nn f) (gg : nn g) (H : Live 32 ρ [(7, some (.bl (fitF f g), false)), (4, some (dA (amF f), false)), (5, some (dA (amF g), false)), (1, some (.ref 0, false)), (2, some (dW, false))]) : ∃ (ρ' : Rho), exs (callN prg wf (n + 10)) wf (.cons s7 (.cons s8 (.cons s9 r))) ⟨ρ, h⟩ = exs (callN prg wf (n + 10)) wf r ⟨ρ', h⟩ ∧
    Live 32 ρ' [(4, some (dA (amF f), false)), (5, some (dA (amF g), false)), (1, some (.ref 0, false)), (2, some (dW, false))] := by
  unfold s7 s8 s9
  obtain ⟨ρ1, q1, H1⟩ := H.asg (cf := callN prg wf (n + 10)) (h := h) (wf := wf) 8 (lc_less (f := g) (g := f) gf H (i := 5) (j := 4) rfl rfl (by decide) (by decide))
  rw [q1]
  obtain ⟨ρ3, q3, H3⟩ := H1.frz1 (cf := callN prg wf (n + 10)) (wf := wf) (h := h) (is := []) 8 rfl
  rw [q3, exs_frz0]
  have c9 : ev (callN prg wf (n + 10)) ρ3 (.not (.call "_law_alike" (.cons (.call "minus_amounts" (.cons (.bi .dict (.cons (.pk 5) .nil)) (.cons (.bi .dict (.cons (.pk 4) .nil)) .nil))) (.cons (.ite (.pk 7) (.var 8) .non) .nil)))) h = .ok (.bl false, false, h) := by
    refine ev_not1 (x := true) (f1 := false) ?_
    have m := r_minusF (n := n + 10) (wf := wf) (h := h) (f := g) (g := f) gg gf (by omega)
    cases z : fitF f g with
    | true =>
      rw [z] at m H3
      exact ev_call2 (ev_call2 (ev_dictA (H3.p 5 rfl)) (ev_dictA (H3.p 4 rfl)) m) (by rw [ev_ite, ev_pk, H3.p 7 rfl, bo, boolK_bl, if_pos rfl]; exact ev_varv (H3.v 8 rfl)) (r_alike (n := n + 8) (amF_nd _) (by have := amF_len (f := fun w => g w - f w); omega))
    | false =>
      rw [z] at m H3
      exact ev_call2 (ev_call2 (ev_dictA (H3.p 5 rfl)) (ev_dictA (H3.p 4 rfl)) m) (by rw [ev_ite, ev_pk, H3.p 7 rfl, bo, boolK_bl, if_neg (by simp)]; exact ev_non) (r_alike_non (n := n + 9))
  rw [exs_chk c9]
  exact ⟨ρ3, rfl, H3.sub ⟨rfl, rfl, rfl, rfl, trivial⟩⟩
theorem sec4 {f g : Str → Int} (gf : nn f) (gg : nn g) (H : Live 32 ρ [(4, some (dA (amF f), false)), (5, some (dA (amF g), false)), (1, some (.ref 0, false)), (2, some (dW, false))]) : ∃ (ρ' : Rho), exs (callN prg wf (n + 10)) wf (.cons s10 (.cons s11 (.cons s12 r))) ⟨ρ, h⟩ = exs (callN prg wf (n + 10)) wf r ⟨ρ', h⟩ ∧
    Live 32 ρ' [(4, some (dA (amF f), false)), (5, some (dA (amF g), false)), (1, some (.ref 0, false)), (2, some (dW, false))] := by
  unfold s10 s11 s12
  obtain ⟨ρ1, q1, H1⟩ := H.asg (cf := callN prg wf (n + 10)) (h := h) (wf := wf) 9 (lc_less (f := f) (g := g) gg H (i := 4) (j := 5) rfl rfl (by decide) (by decide))
  rw [q1]
  obtain ⟨ρ3, q3, H3⟩ := H1.frz1 (cf := callN prg wf (n + 10)) (wf := wf) (h := h) (is := []) 9 rfl
  rw [q3, exs_frz0]
  have c9 : ev (callN prg wf (n + 10)) ρ3 (.not (.call "_law_alike" (.cons (.call "lack" (.cons (.bi .dict (.cons (.pk 4) .nil)) (.cons (.bi .dict (.cons (.pk 5) .nil)) .nil))) (.cons (.var 9) .nil)))) h = .ok (.bl false, false, h) :=
    ev_not1 (x := true) (f1 := false) (ev_call2 (ev_call2 (ev_dictA (H3.p 4 rfl)) (ev_dictA (H3.p 5 rfl)) (r_lackF gf gg (by omega))) (ev_varv (H3.v 9 rfl)) (r_alike (n := n + 8) (amF_nd _) (by have := amF_len (f := fun w => f w - g w); omega)))
  rw [exs_chk c9]
  exact ⟨ρ3, rfl, H3.sub ⟨rfl, rfl, rfl, rfl, trivial⟩⟩
end K4

set_option Elab.async false
set_option linter.all false
set_option maxRecDepth 100000
set_option maxHeartbeats 8000000
/-! k04: a turn of the law, how often, rows. -/
namespace K4
open PySem Mi
variable {n wf : Nat} {h : AH} {cf : Calls} {ρ : Rho} {r : Ss}
theorem ev_dct0 : ev cf ρ (.dct .nil) h = .ok (.dct [], true, h) := by simp [rows?, merge, guard']
theorem upto : ∀ m, m < 12 → (List.range 12).filter (fun k => decide (k ≤ m)) = List.range (m + 1) := by decide
theorem ne_non : cmp .ne .non .non = .ok false := by simp [cmp, eqB, eqOK, D.flat, guard', D.eqv]
/-- how often one fits in the other: as often as the word that is short first -/
theorem times_law {f g : Str → Int} {p : Str × Int} {A : List (Str × Int)} (gf : good f) (gg : good g) (e : amF f = p :: A) : ∃ m : Nat, m < 12 ∧ (minI ((g p.1).fdiv p.2) (A.map fun p => (g p.1).fdiv p.2)) = (m : Int) ∧ ∀ k : Nat, ((amF f).all fun p => decide (p.2 * (k : Int) ≤ g p.1)) = decide (k ≤ m) := by
  obtain ⟨a, b, c⟩ := minI_le (A.map fun p => (g p.1).fdiv p.2) ((g p.1).fdiv p.2)
  generalize hM : minI ((g p.1).fdiv p.2) (A.map fun p => (g p.1).fdiv p.2) = M at a b c
  have pos : ∀ q ∈ amF f, 0 < q.2 := fun q hq => by
    obtain ⟨_, x, y⟩ := amF_mem.mp hq
    omega
  have hd : ∀ q ∈ amF f, (g q.1).fdiv q.2 = g q.1 / q.2 := fun q hq => Int.fdiv_eq_ediv_of_nonneg _ (Int.le_of_lt (pos q hq))
  have all : ∀ q ∈ amF f, M ≤ g q.1 / q.2 := fun q hq => by
    rw [← hd q hq]
    rw [e] at hq
    rcases List.mem_cons.mp hq with z | z
    · rw [z]; exact a
    · exact b _ (List.mem_map.mpr ⟨q, z, rfl⟩)
  have one : ∃ q ∈ amF f, M = g q.1 / q.2 := by
    rcases c with z | z
    · exact ⟨p, by rw [e]; exact List.mem_cons_self, by rw [← hd p (by rw [e]; exact List.mem_cons_self)]; exact z⟩
    · obtain ⟨q, hq, eq⟩ := List.mem_map.mp z
      have hq' : q ∈ amF f := by rw [e]; exact List.mem_cons_of_mem _ hq
      exact ⟨q, hq', by rw [← hd q hq']; exact eq.symm⟩
  obtain ⟨q, hq, eq⟩ := one
  obtain ⟨g0, g5, _⟩ := gg q.1
  have M0 : 0 ≤ M := by rw [eq]; exact Int.ediv_nonneg g0 (Int.le_of_lt (pos q hq))
  have M5 : M ≤ 5 := by
    rw [eq]
    exact Int.le_trans (Int.ediv_le_self _ g0) g5
  refine ⟨M.toNat, by omega, by omega, fun k => ?_⟩
  by_cases z : k ≤ M.toNat
  · rw [decide_eq_true z, List.all_eq_true]
    intro q hq
    refine decide_eq_true ?_
    have := all q hq
    have h2 : (k : Int) ≤ g q.1 / q.2 := by omega
    rw [Int.mul_comm]
    exact (Int.le_ediv_iff_mul_le (pos q hq)).mp h2
  · rw [decide_eq_false z]
    rw [List.all_eq_false]
    refine ⟨q, hq, fun y => z ?_⟩
    have y := of_decide_eq_true y
    rw [Int.mul_comm] at y
    have := (Int.le_ediv_iff_mul_le (pos q hq)).mpr y
    omega
theorem all_empty {A : List (Str × Int)} (t : Str × Int → Bool) : ((A.filter fun p => !t p).map fun p => D.str p.1) = ((A.filter fun p => !t p).map (·.1)).map D.str ∧ ((A.filter fun p => !t p).map (·.1)).isEmpty = A.all t := by
  refine ⟨by rw [List.map_map]; rfl, ?_⟩
  rw [List.isEmpty_map]
  induction A with
  | nil => rfl
  | cons p A ih =>
    rw [List.filter_cons, List.all_cons, ← ih]
    cases t p <;> simp
theorem sec5 {f g : Str → Int} (gf : good f) (gg : good g) (H : Live 32 ρ [(4, some (dA (amF f), false)), (5, some (dA (amF g), false)), (1, some (.ref 0, false)), (2, some (dW, false))]) : ∃ (ρ' : Rho), exs (callN prg wf (n + 10)) wf (.cons s13 (.cons s14 r)) ⟨ρ, h⟩ = exs (callN prg wf (n + 10)) wf r ⟨ρ', h⟩ ∧
    Live 32 ρ' [(1, some (.ref 0, false)), (2, some (dW, false))] := by
  unfold s13 s14
  have e13 : ev (callN prg wf (n + 10)) ρ (.lc [28] (.name 28) (.range (.cons (.int 12) .nil)) (.cmp .eq (.lc [27] (.name 27) (.over (.var 4)) (.cmp .gt (.bin .mul (.idx (.pk 4) (.pk 27)) (.pk 28)) (.get (.pk 5) (.cons (.pk 27) (.cons (.int 0) .nil)))) (.var 27)) (.lst .nil)) (.var 28)) h = .ok (.lst (((List.range 12).filter fun k : Nat => (amF f).all fun p => decide (p.2 * (k : Int) ≤ g p.1)).map fun k : Nat => D.int (k : Int)), true, h) := by
    refine lc_fil (fun k : Nat => D.int (k : Int)) (fun k : Nat => D.int (k : Int)) (fun k : Nat => (amF f).all fun p => decide (p.2 * (k : Int) ≤ g p.1)) (List.range 12) (src_range (m := 12) (b := false) ev_int (by decide)) (by rw [H.1]; decide) (fun k hk => ⟨false, ?_⟩) (fun k hk _ => ⟨false, ev_varv (vAt_eq (by rw [H.1]; decide))⟩) (by simp)
    have hk := List.mem_range.mp hk
    have H1 := H.set (i := 28) (x := some (D.int (k : Int), false)) (by decide)
    refine ev_cmp2 (lc_fil (fun p : Str × Int => D.str p.1) (fun p => D.str p.1) (fun p => !decide (p.2 * (k : Int) ≤ g p.1)) (amF f) (src_A (H1.v 4 rfl)) (by rw [H1.1]; decide) (fun p hp => ⟨false, ?_⟩) (fun p hp _ => ⟨false, ev_varv (vAt_eq (by rw [H1.1]; decide))⟩) (by have := amF_len (f := f); omega)) ev_nil ?_
    · have H2 := H1.set (i := 27) (x := some (D.str p.1, false)) (by decide)
      refine ev_cmp2 (ev_bin2 (ev_idxA (H2.p 4 rfl) (H2.p 27 rfl) (lk_mem (amF_nd f) hp)) (ev_pkv (H2.p 28 rfl)) (bin_mulR (by omega))) (ev_get0 (H2.p 5 rfl) (H2.p 27 rfl)) ?_
      rw [gd_amF gg.nn, cmp_gt]
      congr 1
      by_cases z : p.2 * (k : Int) ≤ g p.1
      · rw [decide_eq_true z, decide_eq_false (by omega)]; rfl
      · rw [decide_eq_false z, decide_eq_true (by omega)]; rfl
    · rw [(all_empty _).1, eq_strs0, (all_empty _).2]
  obtain ⟨ρ1, q1, H1⟩ := H.asg (wf := wf) 10 e13
  rw [q1]
  have ti := r_times (n := n + 10) (wf := wf) (h := h) (A := amF f) (B := amF g) (amF_nd f) (by have := amF_len (f := f); omega) (fun p hp => by
    obtain ⟨_, x, y⟩ := amF_mem.mp hp
    have := (gf p.1).2.1
    omega) (by omega)
  have mq : minQ (amF f) (amF g) = (amF f).map fun p => (g p.1).fdiv p.2 := by
    unfold minQ
    refine List.map_congr_left fun p _ => ?_
    rw [gd_amF gg.nn]
  rw [mq] at ti
  have ne4 : ev (callN prg wf (n + 10)) ρ1 (.cmp .ne (.pk 4) (.dct .nil)) h = .ok (.bl (!(amF f).isEmpty), false, h) := ev_cmp2 (ev_pkv (H1.p 4 rfl)) ev_dct0 (ne_empty (amF_nd f))
  have c14 : ev (callN prg wf (n + 10)) ρ1 (.cmp .ne (.call "times_in" (.cons (.bi .dict (.cons (.pk 4) .nil)) (.cons (.bi .dict (.cons (.pk 5) .nil)) .nil))) (.ite (.cmp .ne (.pk 4) (.dct .nil)) (.idx (.pk 10) (.bin .sub (.bi .len (.cons (.pk 10) .nil)) (.int 1))) .non)) h = .ok (.bl false, false, h) := by
    cases e : amF f with
    | nil =>
      rw [e] at ti ne4
      have ite : ev (callN prg wf (n + 10)) ρ1 (.ite (.cmp .ne (.pk 4) (.dct .nil)) (.idx (.pk 10) (.bin .sub (.bi .len (.cons (.pk 10) .nil)) (.int 1))) .non) h = .ok (.non, false, h) := by
        rw [ev_ite, ne4, bo, boolK_bl, if_neg (by simp)]
        exact ev_non
      refine ev_cmp2 (f1 := false) (ev_call2 (ev_dictA (H1.p 4 rfl)) (ev_dictA (H1.p 5 rfl)) ?_) ite ne_non
      rw [e]
      exact ti
    | cons p A =>
      obtain ⟨m, hm, em, et⟩ := times_law gf gg e
      rw [e] at ti ne4
      simp only [List.map_cons, em] at ti
      have el : ((List.range 12).filter fun k : Nat => (amF f).all fun p => decide (p.2 * (k : Int) ≤ g p.1)) = List.range (m + 1) := by
        rw [← upto m hm]
        exact List.filter_congr fun k _ => et k
      have h10 : pAt ρ1 10 h = .ok (.lst ((List.range (m + 1)).map fun k : Nat => D.int (k : Int)), false, h) := by
        rw [← el]
        exact H1.p 10 rfl
      have ite : ev (callN prg wf (n + 10)) ρ1 (.ite (.cmp .ne (.pk 4) (.dct .nil)) (.idx (.pk 10) (.bin .sub (.bi .len (.cons (.pk 10) .nil)) (.int 1))) .non) h = .ok (.int (m : Int), false, h) := by
        rw [ev_ite, ne4, bo, boolK_bl, if_pos (by simp), ev_idx, ev_pkv h10, bo]
        have : ev (callN prg wf (n + 10)) ρ1 (.bin .sub (.bi .len (.cons (.pk 10) .nil)) (.int 1)) h = .ok (.int (m : Int), true, h) := by
          refine ev_bin2 (ev_bi1 (ev_pkv h10) bi_len_lst) ev_int ?_
          rw [sub_int, List.length_map, List.length_range]
          congr 2
          omega
        simp only [this, bo, deref_lst, idx_lst]
        rw [atI_nat, List.getElem?_map, List.getElem?_range (by omega), Option.map_some, osm, bo]
      refine ev_cmp2 (x := .int (m : Int)) (f1 := true) (ev_call2 (ev_dictA (H1.p 4 rfl)) (ev_dictA (H1.p 5 rfl)) ?_) ite ?_
      · rw [e]
        exact ti
      · rw [ne_int]
        simp
  rw [exs_chk c14]
  exact ⟨ρ1, rfl, H1.sub ⟨rfl, rfl, trivial⟩⟩
theorem ne_lst0 {l : List D} : cmp .ne (.lst l) (.lst []) = .ok (!l.isEmpty) := by
  cases l <;> simp [cmp, eqB, eqOK, eqAll, guard', D.eqv, eqvs]
theorem eq_lst0 {l : List D} : cmp .eq (.lst l) (.lst []) = .ok l.isEmpty := by
  cases l <;> simp [cmp, eqB, eqOK, eqAll, guard', D.eqv, eqvs]
theorem sum_pos {fs : List (Str → Int)} (hf : ∀ f ∈ fs, nn f) (w : Str) : (!(fs.filter fun f => decide (0 < f w)).isEmpty) = decide (0 < sumF fs w) := by
  induction fs with
  | nil => rfl
  | cons f fs ih =>
    have ih := ih fun g hg => hf g (List.mem_cons_of_mem _ hg)
    have e : sumF (f :: fs) w = f w + sumF fs w := by
      unfold sumF
      rw [List.map_cons, List.sum_cons]
    obtain ⟨a, _⟩ := hf f List.mem_cons_self w
    obtain ⟨b, _⟩ := sumF_nn (fun g hg => hf g (List.mem_cons_of_mem _ hg)) w
    rw [e, List.filter_cons]
    by_cases z : 0 < f w
    · rw [decide_eq_true z, decide_eq_true (show 0 < f w + sumF fs w by omega)]
      rfl
    · rw [decide_eq_false z, show f w + sumF fs w = sumF fs w by omega, ← ih]
      rfl
def dR (f : Str → Int) : D := dA (amF f)
theorem sec6b {fs : List (Str → Int)} (nf : ∀ f ∈ fs, nn f) (lfs : fs.length < 4) (H : Live 32 ρ [(11, some (.lst (fs.map dR), false)), (1, some (.ref 0, false)), (2, some (dW, false))]) : ∃ (ρ' : Rho), exs (callN prg wf (n + 10)) wf (.cons s17 (.cons s18 (.cons s19 r))) ⟨ρ, h⟩ = exs (callN prg wf (n + 10)) wf r ⟨ρ', h⟩ ∧
    Live 32 ρ' [(1, some (.ref 0, false)), (2, some (dW, false))] := by
  unfold s17 s18 s19
  have e17 : ev (callN prg wf (n + 10)) ρ (.bi .dict (.cons (.lc [27] (.name 27) (.over (.var 2)) (.cmp .ne (.lc [29] (.name 29) (.over (.var 11)) (.cmp .isin (.pk 27) (.pk 29)) (.var 29)) (.lst .nil)) (.tup (.cons (.var 27) (.cons (.bi .sum (.cons (.lc [29] (.name 29) (.over (.var 11)) (.bl true) (.get (.pk 29) (.cons (.pk 27) (.cons (.int 0) .nil)))) .nil)) .nil)))) .nil)) h = .ok (dA (amF (sumF fs)), true, h) := by
    refine ev_bi1 (lc_fil D.str (fun w => D.tup [.str w, .int (sumF fs w)]) (fun w => !(fs.filter fun f => decide (0 < f w)).isEmpty) words (by simp only [evi_over, ev_var, H.v 2 rfl, bo]; rfl) (by rw [H.1]; decide) (fun w hw => ⟨false, ?_⟩) (fun w hw _ => ⟨false, ?_⟩) (by decide)) (dict_words (F := sumF fs) (fun w hw => sum_pos nf w) fun w => rfl)
    · have H4 := H.set (i := 27) (x := some (D.str w, false)) (by decide)
      refine ev_cmp2 (lc_fil dR dR (fun f => decide (0 < f w)) fs (by simp only [evi_over, ev_var, H4.v 11 rfl, bo, items_lst]) (by rw [H4.1]; decide) (fun f hf => ⟨false, ?_⟩) (fun f hf _ => ⟨false, ev_varv (vAt_eq (by rw [H4.1]; decide))⟩) (by omega)) ev_nil ?_
      · have H5 := H4.set (i := 29) (x := some (dR f, false)) (by decide)
        have := ev_inA (cf := callN prg wf (n + 10)) (H5.p (h := h) 29 rfl) (H5.p 27 rfl)
        rw [this, lk_amF]
        by_cases z : 0 < f w
        · rw [if_pos ⟨hw, z⟩, decide_eq_true z]; rfl
        · rw [if_neg (fun y => z y.2), decide_eq_false z]; rfl
      · rw [ne_lst0, List.isEmpty_map]
    · have H4 := H.set (i := 27) (x := some (D.str w, false)) (by decide)
      refine ev_tup2 (ev_varv (H4.v 27 rfl)) (ev_bi1 (lc_map dR (fun f => D.int (f w)) fs (by simp only [evi_over, ev_var, H4.v 11 rfl, bo, items_lst]) (by rw [H4.1]; decide) (fun f hf => ⟨false, ?_⟩) (by omega)) ?_)
      · have H5 := H4.set (i := 29) (x := some (dR f, false)) (by decide)
        have := ev_get0 (cf := callN prg wf (n + 10)) (H5.p (h := h) 29 rfl) (H5.p 27 rfl)
        rw [this, gd_amF (nf f hf)]
      · rw [show (fs.map fun f => D.int (f w)) = (fs.map fun f => f w).map D.int by rw [List.map_map]; rfl, bi_sum]
        rfl
  obtain ⟨ρ4, q4, H4⟩ := H.asg (wf := wf) 12 e17
  rw [q4]
  obtain ⟨ρ5, q5, H5⟩ := H4.frz1 (cf := callN prg wf (n + 10)) (wf := wf) (h := h) (is := [12]) 11 rfl
  obtain ⟨ρ6, q6, H6⟩ := H5.frz1 (cf := callN prg wf (n + 10)) (wf := wf) (h := h) (is := []) 12 rfl
  rw [q5, q6, exs_frz0]
  obtain ⟨fr, es⟩ := r_sum (n := n + 7) (wf := wf) (h := h) nf
  have c19 : ev (callN prg wf (n + 10)) ρ6 (.not (.call "_law_alike" (.cons (.call "sum_amounts" (.cons (.lc [29] (.name 29) (.over (.var 11)) (.bl true) (.bi .dict (.cons (.pk 29) .nil))) .nil)) (.cons (.var 12) .nil)))) h = .ok (.bl false, false, h) := by
    refine ev_not1 (x := true) (f1 := false) (ev_call2 (ev_call1 (lc_map dR dR fs (by simp only [evi_over, ev_var, H6.v 11 rfl, bo, items_lst]) (by rw [H6.1]; decide) (fun f hf => ⟨true, ?_⟩) (by omega)) es) (ev_varv (H6.v 12 rfl)) (r_alike (n := n + 8) (amF_nd _) (by have := amF_len (f := sumF fs); omega)))
    have H7 := H6.set (i := 29) (x := some (dR f, false)) (by decide)
    exact ev_dictA (H7.p 29 rfl)
  rw [exs_chk c19]
  exact ⟨ρ6, rfl, H6.sub ⟨rfl, rfl, trivial⟩⟩
theorem sec6 {l : List Int} {k : Nat} (H : Live 32 ρ [(1, some (.ref 0, false)), (2, some (dW, false))]) : ∃ (ρ' : Rho) (k' : Nat), exs (callN prg wf (n + 10)) wf (.cons s15 (.cons s16 (.cons s17 (.cons s18 (.cons s19 r))))) ⟨ρ, HW l k⟩ = exs (callN prg wf (n + 10)) wf r ⟨ρ', HW l k'⟩ ∧
    Live 32 ρ' [(1, some (.ref 0, false)), (2, some (dW, false))] := by
  unfold s15 s16
  obtain ⟨x, b, ex, x0, x3⟩ := next_at (wf := wf) (n := n + 9) (l := l) (k := k) (m := 4) (by decide)
  have xm : x = ((x.toNat : Nat) : Int) := by omega
  have src : evi (callN prg wf (n + 10)) ρ (.range (.cons (.call "_law_next" (.cons (.var 1) (.cons (.int 4) .nil))) .nil)) (HW l k) = .ok ((List.range x.toNat).map fun k : Nat => D.int (k : Int), HW l (k + 1)) := by
    simp only [evi_range, evs_cons, evs_nil, ev_call, ev_var, H.v 1 rfl, bo, ev_int, ex]
    rw [rng_nat (m := x.toNat) xm.symm (by omega) (by omega)]
    rfl
  obtain ⟨fs, h1, e1, ⟨k1, rfl⟩, len, gs⟩ := lcGo_each (f := fun x h => (setTg (.name 28) x (wipeR ρ [28])).bind fun ρ' => (ev (callN prg wf (n + 10)) ρ' (.bl true) h).bind (boolK fun k h =>
      if k then (ev (callN prg wf (n + 10)) ρ' (.call "_law_amounts" (.cons (.var 1) .nil)) h).bind fun r => .ok (some r.1, r.2.2) else .ok (none, h))) dR good (fun h => ∃ k, h = HW l k) ((List.range x.toNat).map fun k : Nat => D.int (k : Int)) [] (HW l (k + 1)) ⟨_, rfl⟩ (fun y _ h ⟨k0, hk⟩ => by
      subst hk
      obtain ⟨f, k', gf, ef⟩ := r_amounts (wf := wf) (n := n + 8) (l := l) (k := k0)
      refine ⟨f, HW l k', ?_, ⟨k', rfl⟩, gf⟩
      have lt : decide (28 < (ρ.set 28 none).length) = true := by simp [H.1]
      have H1 := H.set (i := 28) (x := some (y, false)) (by decide)
      simp only [wipe1, wipe0, setTg_name, lt, guard_t, bo, List.set_set, ev_bl, boolK_bl, if_true, ev_call, evs_cons, evs_nil, ev_var, H1.v 1 rfl, ef]
      rfl) (by simp; omega)
  have e15 : ev (callN prg wf (n + 10)) ρ (.lc [28] (.name 28) (.range (.cons (.call "_law_next" (.cons (.var 1) (.cons (.int 4) .nil))) .nil)) (.bl true) (.call "_law_amounts" (.cons (.var 1) .nil))) (HW l k) = .ok (.lst (fs.map dR), true, HW l k1) := by
    rw [ev_lc, src, bo, e1, quiet_ok, bo]
    rfl
  have lfs : fs.length < 4 := by rw [len]; simp; omega
  have nf : ∀ f ∈ fs, nn f := fun f hf => (gs f hf).nn
  obtain ⟨ρ1, q1, H1⟩ := H.asg (wf := wf) 11 e15
  rw [q1]
  obtain ⟨ρ2, q2, H2⟩ := H1.frz1 (cf := callN prg wf (n + 10)) (wf := wf) (h := HW l k1) (is := [11]) 2 rfl
  obtain ⟨ρ3, q3, H3⟩ := H2.frz1 (cf := callN prg wf (n + 10)) (wf := wf) (h := HW l k1) (is := []) 11 rfl
  rw [q2, q3, exs_frz0]
  obtain ⟨ρ', e', H'⟩ := sec6b (n := n) (wf := wf) (r := r) (h := HW l k1) nf lfs (H3.sub ⟨rfl, rfl, rfl, trivial⟩)
  exact ⟨ρ', k1, e', H'⟩
end K4

set_option Elab.async false
set_option linter.all false
set_option maxRecDepth 100000
set_option maxHeartbeats 8000000
/-! k04: a turn of the law, picks. -/
namespace K4
open PySem Mi
variable {n wf : Nat} {h : AH} {cf : Calls} {ρ : Rho} {r : Ss}
theorem pk_at {i j : Nat} (hi : i < 8) (hj : j < 8) {p : Nat × Nat} (hp : p ∈ c25) : pkB (pk i j) (lb p.1 p.2) = (okN i p.1 && okN j p.2) := by
  have := List.all_eq_true.mp (pkB_code i hi j hj) p hp
  simpa using this
theorem every_fil (tst : List (Str × Str) → Bool) (code : Nat × Nat → Bool) (e : ∀ p ∈ c25, tst (lb p.1 p.2) = code p) : every.filter tst = (c25.filter code).map fun p => lb p.1 p.2 := by
  rw [every_eq, List.filter_map]
  congr 1
  exact List.filter_congr e
theorem pk_nd : ∀ i, i < 8 → ∀ j, j < 8 → ((pk i j).map (·.1)).Nodup := by decide +kernel
theorem pk_len : ∀ i, i < 8 → ∀ j, j < 8 → (pk i j).length < 10 := by decide +kernel
theorem pk_ok : ∀ i, i < 8 → ∀ j, j < 8 → ∀ p ∈ pk i j, p.1.cps.toList.length < 16777216 ∧ (p.2.length < 64 ∧ ∀ x ∈ p.2, x.cps.toList.length < 16777216) := by decide +kernel
theorem pk_vals {i j : Nat} (hi : i < 8) (hj : j < 8) (x : Str) (v : List Str) (e : lk (pk i j) x = some v) : v.length < 64 := by
  unfold lk at e
  obtain ⟨p, hp, rfl⟩ := Option.map_eq_some_iff.mp e
  exact (pk_ok i hi j hj p (List.mem_of_find?_eq_some hp)).2.1
theorem bN_lt : ∀ i, i < 8 → ∀ j, j < 8 → bN i j < 8 := by decide +kernel
theorem every_nd : ∀ L ∈ every, (L.map (·.1)).Nodup := by decide +kernel
theorem every_len : every.length = 25 := by decide +kernel
theorem nr_law {i j i' j' : Nat} (hi : i < 8) (hj : j < 8) (hi' : i' < 8) (hj' : j' < 8) : nrB (pk i j) (pk i' j') = (every.filter fun L => pkB (pk i j) L && !pkB (pk i' j') L).isEmpty := by
  rw [nrB_code i hi j hj i' hi' j' hj', every_fil _ (fun p => (okN i p.1 && okN j p.2) && !(okN i' p.1 && okN j' p.2)) (fun p hp => by rw [pk_at hi hj hp, pk_at hi' hj' hp]), List.isEmpty_map]
  have := laws_code i hi j hj i' hi' j' hj'
  simp only [Bool.and_eq_true, beq_iff_eq] at this
  exact this.1.symm
theorem both_law {i j i' j' : Nat} (hi : i < 8) (hj : j < 8) (hi' : i' < 8) (hj' : j' < 8) :
    if (bothR (pk i j) (pk i' j')).all (fun p => !p.2.isEmpty) then bothR (pk i j) (pk i' j') = pk (bN i i') (bN j j') ∧ (every.filter fun L => pkB (pk i j) L && pkB (pk i' j') L).isEmpty = false ∧ (every.filter fun L => pkB (pk (bN i i') (bN j j')) L) = every.filter fun L => pkB (pk i j) L && pkB (pk i' j') L
    else (every.filter fun L => pkB (pk i j) L && pkB (pk i' j') L).isEmpty = true := by
  have a := both_code i hi j hj i' hi' j' hj'
  have b := laws_code i hi j hj i' hi' j' hj'
  simp only [Bool.and_eq_true, beq_iff_eq] at b
  obtain ⟨_, b1, b2⟩ := b
  have e1 : (every.filter fun L => pkB (pk i j) L && pkB (pk i' j') L) = (c25.filter fun p => (okN i p.1 && okN j p.2) && (okN i' p.1 && okN j' p.2)).map fun p => lb p.1 p.2 := every_fil _ _ (fun p hp => by rw [pk_at hi hj hp, pk_at hi' hj' hp])
  have e2 : (every.filter fun L => pkB (pk (bN i i') (bN j j')) L) = (c25.filter fun p => okN (bN i i') p.1 && okN (bN j j') p.2).map fun p => lb p.1 p.2 := every_fil _ _ (fun p hp => pk_at (bN_lt i hi i' hi') (bN_lt j hj j' hj') hp)
  rw [e1, e2, List.isEmpty_map, b1]
  split
  · rename_i z
    rw [if_pos z] at a
    simp only [Bool.and_eq_true, beq_iff_eq, Bool.not_eq_true'] at a
    refine ⟨a.1, a.2, ?_⟩
    rw [a.2] at b2
    simp only [Bool.false_or, beq_iff_eq] at b2
    rw [b2]
  · rename_i z
    rw [if_neg z] at a
    exact a
theorem dL_ok {L : List (Str × Str)} (nd : (L.map (·.1)).Nodup) (m : Nat) : eqOK (m + 2) (dL L) (dL L) = true ∧ D.eqv (dL L) (dL L) = true := by
  have lkL : ∀ p ∈ L, look (row D.str L) (.inr p.1) = some (.str p.2) := fun p hp => by
    rw [look_row, lk_mem nd hp]
    rfl
  have ndk : ((row D.str L).map (·.1)).Nodup := by
    unfold row
    rw [List.map_map]
    unfold List.Nodup at nd ⊢
    rw [List.pairwise_map] at nd ⊢
    exact nd.imp fun hne q => hne (Sum.inr.inj q)
  have k : ∀ l : List (Str × Str), (∀ p ∈ l, p ∈ L) → eqKey (eqOK (m + 1)) (row D.str L) (row D.str l) = true := by
    intro l
    induction l with
    | nil => intro _; rfl
    | cons p l ih =>
      intro hl
      show ((match look (row D.str L) (.inr p.1) with | some u => eqOK (m + 1) (.str p.2) u | none => true) && eqKey (eqOK (m + 1)) (row D.str L) (row D.str l)) = true
      rw [lkL p (hl p List.mem_cons_self), ih fun q hq => hl q (List.mem_cons_of_mem _ hq)]
      rfl
  have v : ∀ l : List (Str × Str), (∀ p ∈ l, p ∈ L) → eqvd (row D.str l) (row D.str L) = true := by
    intro l
    induction l with
    | nil => intro _; simp [row, eqvd]
    | cons p l ih =>
      intro hl
      show eqvd ((Sum.inr p.1, D.str p.2) :: row D.str l) (row D.str L) = true
      unfold eqvd
      rw [lkL p (hl p List.mem_cons_self), ih fun q hq => hl q (List.mem_cons_of_mem _ hq)]
      simp [D.eqv]
  constructor
  · unfold dL kv eqOK
    simp only
    rw [decide_eq_true ndk, k L fun p hp => hp]
    simp
  · unfold dL kv D.eqv
    rw [v L fun p hp => hp]
    simp
theorem ne_labels {X : List (List (Str × Str))} (h : ∀ L ∈ X, (L.map (·.1)).Nodup) : cmp .ne (.lst (X.map dL)) (.lst (X.map dL)) = .ok false := by
  have a : ∀ X : List (List (Str × Str)), (∀ L ∈ X, (L.map (·.1)).Nodup) → eqAll (eqOK 49) (X.map dL) (X.map dL) = true ∧ eqvs (X.map dL) (X.map dL) = true := by
    intro X
    induction X with
    | nil => intro _; exact ⟨rfl, by simp [eqvs]⟩
    | cons L X ih =>
      intro hX
      obtain ⟨i1, i2⟩ := ih fun q hq => hX q (List.mem_cons_of_mem _ hq)
      obtain ⟨d1, d2⟩ := dL_ok (hX L List.mem_cons_self) 47
      rw [List.map_cons]
      constructor
      · show (eqOK 49 (dL L) (dL L) && eqAll (eqOK 49) (X.map dL) (X.map dL)) = true
        rw [d1, i1]; rfl
      · unfold eqvs
        rw [d2, i2]; rfl
  obtain ⟨a1, a2⟩ := a X h
  have e1 : eqOK 50 (.lst (X.map dL)) (.lst (X.map dL)) = true := by
    unfold eqOK
    simp only
    rw [a1]
    simp
  have e2 : D.eqv (.lst (X.map dL)) (.lst (X.map dL)) = true := by
    unfold D.eqv
    exact a2
  show (eqB (.lst (X.map dL)) (.lst (X.map dL))).bind (fun b => .ok (!b)) = _
  unfold eqB
  rw [e1, e2]
  rfl
theorem ev_dictP {A : List (Str × List Str)} {i : Nat} (hi : pAt ρ i h = .ok (dP A, false, h)) : ev cf ρ (.bi .dict (.cons (.pk i) .nil)) h = .ok (dP A, true, h) := ev_bi1 (ev_pkv hi) rfl
theorem ev_dictL {A : List (Str × Str)} {i : Nat} (hi : pAt ρ i h = .ok (dL A, false, h)) : ev cf ρ (.bi .dict (.cons (.pk i) .nil)) h = .ok (dL A, true, h) := ev_bi1 (ev_pkv hi) rfl
def Lp (i j i' j' : Nat) : List (Nat × Sl) := [(15, some (.lst (every.map dL), false)), (13, some (dP (pk i j), false)), (14, some (dP (pk i' j'), false)), (1, some (.ref 0, false)), (2, some (dW, false))]
theorem sec7a {l : List Int} {k : Nat} (H : Live 32 ρ [(1, some (.ref 0, false)), (2, some (dW, false))]) : ∃ (i j i' j' : Nat) (ρ' : Rho) (k' : Nat), (i < 8 ∧ j < 8 ∧ i' < 8 ∧ j' < 8) ∧ exs (callN prg wf (n + 10)) wf (.cons s20 (.cons s21 (.cons s22 r))) ⟨ρ, HW l k⟩ = exs (callN prg wf (n + 10)) wf r ⟨ρ', HW l k'⟩ ∧ Live 32 ρ' (Lp i j i' j') := by
  obtain ⟨i, j, k1, hi, hj, e1⟩ := r_picks (wf := wf) (n := n + 8) (l := l) (k := k)
  obtain ⟨i', j', k2, hi', hj', e2⟩ := r_picks (wf := wf) (n := n + 8) (l := l) (k := k1)
  unfold s20 s21 s22
  have e0 : ev (callN prg wf (n + 10)) ρ (.tup (.cons (.call "_law_picks" (.cons (.var 1) .nil)) (.cons (.call "_law_picks" (.cons (.var 1) .nil)) .nil))) (HW l k) = .ok (.tup [dP (pk i j), dP (pk i' j')], false, HW l k2) := by
    have f2 : fits 2 = true := rfl
    simp only [ev_tup, evs_cons, evs_nil, ev_call, ev_var, H.v 1 rfl, bo, e1, e2, List.length_cons, List.length_nil, Nat.zero_add, Nat.reduceAdd, f2, guard_t]
  obtain ⟨ρ1, q1, H1⟩ := H.asg2 (wf := wf) 13 14 e0
  rw [q1]
  obtain ⟨b, e3⟩ := r_all_labels (wf := wf) (n := n + 9) (h := HW l k2)
  have e4 : ev (callN prg wf (n + 10)) ρ1 (.call "_law_all_labels" .nil) (HW l k2) = .ok (.lst (every.map dL), b, HW l k2) := by
    simp only [ev_call, evs_nil, bo, e3]
  obtain ⟨ρ2, q2, H2⟩ := H1.asg (wf := wf) 15 e4
  rw [q2]
  obtain ⟨ρ3, q3, H3⟩ := H2.frz1 (cf := callN prg wf (n + 10)) (wf := wf) (h := HW l k2) (is := []) 15 rfl
  rw [q3, exs_frz0]
  exact ⟨i, j, i', j', ρ3, k2, ⟨hi, hj, hi', hj'⟩, rfl, H3.sub ⟨rfl, rfl, rfl, rfl, rfl, trivial⟩⟩
theorem src_every {L : List (Nat × Sl)} (H : Live 32 ρ L) (e : L.lookup 15 = some (some (.lst (every.map dL), false))) : evi cf ρ (.over (.var 15)) h = .ok (every.map dL, h) := by
  simp only [evi_over, ev_var, H.v 15 e, bo, items_lst]
theorem sec7b {i j i' j' : Nat} (hi : i < 8) (hj : j < 8) (hi' : i' < 8) (hj' : j' < 8) (H : Live 32 ρ (Lp i j i' j')) : ∃ (ρ' : Rho), exs (callN prg wf (n + 10)) wf (.cons s23 (.cons s24 (.cons s25 (.cons s26 r)))) ⟨ρ, h⟩ = exs (callN prg wf (n + 10)) wf r ⟨ρ', h⟩ ∧ Live 32 ρ' (Lp i j i' j') := by
  unfold s23 s24 s25 s26
  have nd := pk_nd i hi j hj
  have nd' := pk_nd i' hi' j' hj'
  have le := pk_len i hi j hj
  have le' := pk_len i' hi' j' hj'
  obtain ⟨s1, q1, ⟨hs, H1⟩⟩ := exs_fr (wf := wf) (cf := callN prg wf (n + 10)) (t := 16) (r := (.cons s24 (.cons s25 (.cons s26 r)))) (body := (.cons (.iff (.not (.call "_law_says" (.cons (.call "picked" (.cons (.bi .dict (.cons (.pk 13) .nil)) (.cons (.bi .dict (.cons (.pk 16) .nil)) .nil))) (.cons (.call "_law_is_picked" (.cons (.var 13) (.cons (.var 16) .nil))) .nil)))) (.cons (.ret (.bl false)) .nil) .nil) .nil)) (src_every (cf := callN prg wf (n + 10)) (h := h) H rfl) (fun _ s => s.h = h ∧ Live 32 s.ρ (Lp i j i' j'))
    (fun _ s hs => by rw [hs.2.1]; decide) ⟨rfl, H⟩ (fun m x hx s ⟨hs, HL⟩ => by
      rw [List.getElem?_map] at hx
      obtain ⟨L, ho, rfl⟩ := Option.map_eq_some_iff.mp hx
      have H2 := HL.set (i := 16) (x := some (dL L, false)) (by decide)
      refine ⟨⟨s.ρ.set 16 (some (dL L, false)), s.h⟩, ?_, hs, H2.sub ⟨rfl, rfl, rfl, rfl, rfl, trivial⟩⟩
      have c := ev_not1 (x := pkB (pk i j) L == pkB (pk i j) L) (ev_call2 (f := "_law_says") (ev_call2 (ev_dictP (H2.p 13 rfl)) (ev_dictL (H2.p 16 rfl)) (r_picked (n := n + 9) (wf := wf) (h := s.h) nd (by omega))) (ev_call2 (ev_varv (H2.v 13 rfl)) (ev_varv (H2.v 16 rfl)) (r_is_picked (n := n + 9) nd (by omega))) (r_says (n := n + 9)))
      rw [beq_self_eq_true] at c
      rw [exs_chk c, exs_nil])
  unfold s24 s25 s26 at q1
  rw [q1]
  obtain ⟨ρ1, h1⟩ := s1
  subst hs
  obtain ⟨ρ2, q2, H2⟩ := H1.frz1 (cf := callN prg wf (n + 10)) (wf := wf) (h := h1) (is := []) 15 rfl
  rw [q2, exs_frz0]
  have e : ev (callN prg wf (n + 10)) ρ2 (.cmp .eq (.lc [30] (.name 30) (.over (.var 15)) (.and (.call "_law_is_picked" (.cons (.var 13) (.cons (.var 30) .nil))) (.not (.call "_law_is_picked" (.cons (.var 14) (.cons (.var 30) .nil))))) (.var 30)) (.lst .nil)) h1 = .ok (.bl (nrB (pk i j) (pk i' j')), false, h1) := by
    refine ev_cmp2 (lc_fil dL dL (fun L => pkB (pk i j) L && !pkB (pk i' j') L) every (src_every H2 rfl) (by rw [H2.1]; decide) (fun L hL => ⟨false, ?_⟩) (fun L hL _ => ⟨false, ev_varv (vAt_eq (by rw [H2.1]; decide))⟩) (by rw [every_len]; decide)) ev_nil ?_
    · have H3 := H2.set (i := 30) (x := some (dL L, false)) (by decide)
      refine and_t (x := pkB (pk i j) L) (f2 := false) (ev_call2 (ev_varv (H3.v 13 rfl)) (ev_varv (H3.v 30 rfl)) (r_is_picked (n := n + 9) nd (by omega))) (fun z => ?_) (fun z => by rw [z]; rfl)
      · rw [z, Bool.true_and]
        exact ev_not1 (ev_call2 (ev_varv (H3.v 14 rfl)) (ev_varv (H3.v 30 rfl)) (r_is_picked (n := n + 9) nd' (by omega)))
    · rw [eq_lst0, List.isEmpty_map, nr_law hi hj hi' hj']
  have c := ev_not1 (x := nrB (pk i j) (pk i' j') == nrB (pk i j) (pk i' j')) (ev_call2 (f := "_law_says") (ev_call2 (ev_dictP (H2.p 13 rfl)) (ev_dictP (H2.p 14 rfl)) (r_narrower (n := n + 8) (wf := wf) (h := h1) nd nd' (by omega) (pk_vals hi hj))) e (r_says (n := n + 9)))
  rw [beq_self_eq_true] at c
  rw [exs_chk c]
  obtain ⟨ρ3, q3, H3⟩ := H2.frz1 (cf := callN prg wf (n + 10)) (wf := wf) (h := h1) (is := []) 15 rfl
  rw [q3, exs_frz0]
  exact ⟨ρ3, rfl, H3.sub ⟨rfl, rfl, rfl, rfl, rfl, trivial⟩⟩
theorem ne_bl {a b : Bool} : cmp .ne (.bl a) (.bl b) = .ok (!(a == b)) := by simp [cmp, eqB, eqOK, D.flat, D.eqv, guard']
theorem is_dP {A : List (Str × List Str)} : cmp .is (dP A) .non = .ok false ∧ cmp .isnot (dP A) .non = .ok true := ⟨rfl, rfl⟩
theorem sec7c {i j i' j' : Nat} (hi : i < 8) (hj : j < 8) (hi' : i' < 8) (hj' : j' < 8) (H : Live 32 ρ (Lp i j i' j')) : ∃ (ρ' : Rho), exs (callN prg wf (n + 10)) wf (.cons s27 (.cons s28 (.cons s29 (.cons s30 r)))) ⟨ρ, h⟩ = exs (callN prg wf (n + 10)) wf r ⟨ρ', h⟩ ∧ Live 32 ρ' [(1, some (.ref 0, false)), (2, some (dW, false))] := by
  unfold s27 s28 s29 s30
  have nd := pk_nd i hi j hj
  have nd' := pk_nd i' hi' j' hj'
  have le := pk_len i hi j hj
  have le' := pk_len i' hi' j' hj'
  have e27 : ev (callN prg wf (n + 10)) ρ (.lc [30] (.name 30) (.over (.var 15)) (.and (.call "_law_is_picked" (.cons (.var 13) (.cons (.var 30) .nil))) (.call "_law_is_picked" (.cons (.var 14) (.cons (.var 30) .nil)))) (.var 30)) h = .ok (.lst ((every.filter fun L => pkB (pk i j) L && pkB (pk i' j') L).map dL), true, h) := by
    refine lc_fil dL dL (fun L => pkB (pk i j) L && pkB (pk i' j') L) every (src_every H rfl) (by rw [H.1]; decide) (fun L hL => ⟨false, ?_⟩) (fun L hL _ => ⟨false, ev_varv (vAt_eq (by rw [H.1]; decide))⟩) (by rw [every_len]; decide)
    have H3 := H.set (i := 30) (x := some (dL L, false)) (by decide)
    refine and_t (x := pkB (pk i j) L) (f2 := false) (ev_call2 (ev_varv (H3.v 13 rfl)) (ev_varv (H3.v 30 rfl)) (r_is_picked (n := n + 9) nd (by omega))) (fun z => ?_) (fun z => by rw [z]; rfl)
    · rw [z, Bool.true_and]
      exact ev_call2 (ev_varv (H3.v 14 rfl)) (ev_varv (H3.v 30 rfl)) (r_is_picked (n := n + 9) nd' (by omega))
  obtain ⟨ρ1, q1, H1⟩ := H.asg (wf := wf) 17 e27
  rw [q1]
  have e28 : ev (callN prg wf (n + 10)) ρ1 (.call "both_picks" (.cons (.bi .dict (.cons (.pk 13) .nil)) (.cons (.bi .dict (.cons (.pk 14) .nil)) .nil))) h = .ok (if (bothR (pk i j) (pk i' j')).all (fun p => !p.2.isEmpty) then dP (bothR (pk i j) (pk i' j')) else .non, false, h) :=
    ev_call2 (ev_dictP (H1.p 13 rfl)) (ev_dictP (H1.p 14 rfl)) (r_both (n := n + 9) le le' (pk_vals hi hj))
  obtain ⟨ρ2, q2, H2⟩ := H1.asg (wf := wf) 18 e28
  rw [q2, Bool.false_and] at *
  obtain ⟨ρ3, q3, H3⟩ := H2.frz1 (cf := callN prg wf (n + 10)) (wf := wf) (h := h) (is := []) 15 rfl
  rw [q3, exs_frz0]
  have bl := both_law hi hj hi' hj'
  have ndX : ∀ L ∈ every.filter fun L => pkB (pk i j) L && pkB (pk i' j') L, (L.map (·.1)).Nodup := fun L hL => every_nd L (List.mem_filter.mp hL).1
  generalize hX : (every.filter fun L => pkB (pk i j) L && pkB (pk i' j') L) = X at H3 bl ndX
  have eq17 : ev (callN prg wf (n + 10)) ρ3 (.cmp .eq (.pk 17) (.lst .nil)) h = .ok (.bl X.isEmpty, false, h) := ev_cmp2 (ev_pkv (H3.p 17 rfl)) ev_nil (by rw [eq_lst0, List.isEmpty_map])
  have c30 : ev (callN prg wf (n + 10)) ρ3 (.or (.cmp .ne (.cmp .is (.pk 18) .non) (.cmp .eq (.pk 17) (.lst .nil))) (.and (.cmp .isnot (.pk 18) .non) (.or (.cmp .isnot (.call "is_picks" (.cons (.var 18) .nil)) (.bl true)) (.cmp .ne (.lc [30] (.name 30) (.over (.var 15)) (.call "_law_is_picked" (.cons (.var 18) (.cons (.var 30) .nil))) (.var 30)) (.pk 17))))) h = .ok (.bl false, false, h) := by
    by_cases z : (bothR (pk i j) (pk i' j')).all (fun p => !p.2.isEmpty) = true
    · rw [if_pos z] at bl H3
      obtain ⟨b1, b2, b3⟩ := bl
      rw [b1] at H3
      have hb := bN_lt i hi i' hi'
      have hb' := bN_lt j hj j' hj'
      have ndb := pk_nd _ hb _ hb'
      have leb := pk_len _ hb _ hb'
      obtain ⟨fr, ip⟩ := r_is_picks (n := n + 7) (wf := wf) (h := h) ndb (by omega) (pk_ok _ hb _ hb')
      rw [isp_code _ hb _ hb'] at ip
      refine ev_or2 (x := false) (y := false) (f1 := false) (f2 := false) (ev_cmp2 (ev_cmp2 (ev_pkv (H3.p 18 rfl)) ev_non is_dP.1) eq17 (by rw [b2, ne_bl]; rfl)) ?_
      refine and_t (x := true) (f1 := false) (f2 := false) (ev_cmp2 (ev_pkv (H3.p 18 rfl)) ev_non is_dP.2) (fun _ => ?_) (fun q => by cases q)
      refine ev_or2 (x := false) (y := false) (f1 := false) (f2 := false) (ev_cmp2 (ev_call1 (ev_varv (H3.v 18 rfl)) ip) ev_bl rfl) ?_
      refine ev_cmp2 (lc_fil dL dL (fun L => pkB (pk (bN i i') (bN j j')) L) every (src_every H3 rfl) (by rw [H3.1]; decide) (fun L hL => ⟨false, ?_⟩) (fun L hL _ => ⟨false, ev_varv (vAt_eq (by rw [H3.1]; decide))⟩) (by rw [every_len]; decide)) (ev_pkv (H3.p 17 rfl)) ?_
      · have H4 := H3.set (i := 30) (x := some (dL L, false)) (by decide)
        exact ev_call2 (ev_varv (H4.v 18 rfl)) (ev_varv (H4.v 30 rfl)) (r_is_picked (n := n + 9) ndb (by omega))
      · rw [b3]
        exact ne_labels ndX
    · rw [if_neg z] at bl H3
      have i1 : cmp .is .non .non = .ok true := rfl
      have i2 : cmp .isnot .non .non = .ok false := rfl
      refine ev_or2 (x := false) (y := false) (f1 := false) (f2 := false) (ev_cmp2 (ev_cmp2 (ev_pkv (H3.p 18 rfl)) ev_non i1) eq17 (by rw [bl, ne_bl]; rfl)) ?_
      exact and_f (f1 := false) (ev_cmp2 (ev_pkv (H3.p 18 rfl)) ev_non i2)
  rw [exs_chk c30]
  exact ⟨ρ3, rfl, H3.sub ⟨rfl, rfl, trivial⟩⟩
end K4

set_option Elab.async false
set_option linter.all false
set_option maxRecDepth 100000
set_option maxHeartbeats 8000000
/-! k04: a turn of the law, numbers. -/
namespace K4
open PySem Mi
variable {n wf : Nat} {h : AH} {cf : Calls} {ρ : Rho} {r : Ss}
def dI (l : List Int) : D := .lst (l.map D.int)
/-- one to seven numbers from 0 to 11 -/
def okN7 (ns : List Int) : Prop := (1 ≤ ns.length ∧ ns.length ≤ 7) ∧ ∀ x ∈ ns, 0 ≤ x ∧ x < 12
theorem sec8a {l : List Int} {k : Nat} (H : Live 32 ρ [(1, some (.ref 0, false)), (2, some (dW, false))]) : ∃ (ns : List Int) (ρ' : Rho) (k' : Nat), okN7 ns ∧ exs (callN prg wf (n + 10)) wf (.cons s31 (.cons s32 r)) ⟨ρ, HW l k⟩ = exs (callN prg wf (n + 10)) wf r ⟨ρ', HW l k'⟩ ∧
    Live 32 ρ' [(21, some (.int (ns.length : Int), false)), (20, some (dI (sortI ns), false)), (19, some (dI ns, true)), (1, some (.ref 0, false)), (2, some (dW, false))] := by
  unfold s31 s32
  obtain ⟨x, b, ex, x0, x3⟩ := next_at (wf := wf) (n := n + 9) (l := l) (k := k) (m := 7) (by decide)
  have xm : (1 + x) = ((x.toNat + 1 : Nat) : Int) := by omega
  have src : evi (callN prg wf (n + 10)) ρ (.range (.cons (.bin .add (.int 1) (.call "_law_next" (.cons (.var 1) (.cons (.int 7) .nil)))) .nil)) (HW l k) = .ok ((List.range (x.toNat + 1)).map fun k : Nat => D.int (k : Int), HW l (k + 1)) := by
    simp only [evi_range, evs_cons, evs_nil, ev_bin, ev_call, ev_var, H.v 1 rfl, bo, ev_int, ex, add_int]
    rw [rng_nat (m := x.toNat + 1) xm.symm (by omega) (by omega)]
    rfl
  obtain ⟨ns, h1, e1, ⟨k1, rfl⟩, len, gs⟩ := lcGo_each (f := fun x h => (setTg (.name 28) x (wipeR ρ [28])).bind fun ρ' => (ev (callN prg wf (n + 10)) ρ' (.bl true) h).bind (boolK fun k h =>
      if k then (ev (callN prg wf (n + 10)) ρ' (.call "_law_next" (.cons (.var 1) (.cons (.int 12) .nil))) h).bind fun r => .ok (some r.1, r.2.2) else .ok (none, h))) D.int (fun x => 0 ≤ x ∧ x < 12) (fun h => ∃ k, h = HW l k) ((List.range (x.toNat + 1)).map fun k : Nat => D.int (k : Int)) [] (HW l (k + 1)) ⟨_, rfl⟩ (fun y _ h ⟨k0, hk⟩ => by
      subst hk
      obtain ⟨v, b, ef, v0, v1⟩ := next_at (wf := wf) (n := n + 9) (l := l) (k := k0) (m := 12) (by decide)
      refine ⟨v, HW l (k0 + 1), ?_, ⟨_, rfl⟩, v0, v1⟩
      have lt : decide (28 < (ρ.set 28 none).length) = true := by simp [H.1]
      have H1 := H.set (i := 28) (x := some (y, false)) (by decide)
      simp only [wipe1, wipe0, setTg_name, lt, guard_t, bo, List.set_set, ev_bl, boolK_bl, if_true, ev_call, evs_cons, evs_nil, ev_int, ev_var, H1.v 1 rfl, ef]) (by simp; omega)
  have e31 : ev (callN prg wf (n + 10)) ρ (.lc [28] (.name 28) (.range (.cons (.bin .add (.int 1) (.call "_law_next" (.cons (.var 1) (.cons (.int 7) .nil)))) .nil)) (.bl true) (.call "_law_next" (.cons (.var 1) (.cons (.int 12) .nil)))) (HW l k) = .ok (dI ns, true, HW l k1) := by
    rw [ev_lc, src, bo, e1, quiet_ok, bo]
    rfl
  have len : ns.length = x.toNat + 1 := by rw [len]; simp
  obtain ⟨ρ1, q1, H1⟩ := H.asg (wf := wf) 19 e31
  rw [q1]
  have e32 : ev (callN prg wf (n + 10)) ρ1 (.tup (.cons (.bi .sorted (.cons (.pk 19) .nil)) (.cons (.bi .len (.cons (.pk 19) .nil)) .nil))) (HW l k1) = .ok (.tup [dI (sortI ns), .int (ns.length : Int)], false, HW l k1) := by
    refine ev_tup2 (ev_bi1 (ev_pkv (H1.p 19 rfl)) (bi_sorted_ints (by omega))) (ev_bi1 (ev_pkv (H1.p 19 rfl)) ?_)
    unfold dI
    rw [bi_len_lst, List.length_map]
  obtain ⟨ρ2, q2, H2⟩ := H1.asg2 (wf := wf) 20 21 e32
  rw [q2]
  exact ⟨ns, ρ2, k1, ⟨⟨by omega, by omega⟩, gs⟩, rfl, H2.sub ⟨rfl, rfl, rfl, rfl, rfl, trivial⟩⟩
theorem ev_listI {l : List Int} {i : Nat} (hi : pAt ρ i h = .ok (dI l, false, h)) : ev cf ρ (.bi .list (.cons (.pk i) .nil)) h = .ok (dI l, true, h) := ev_bi1 (ev_pkv hi) rfl
theorem ev_idxI {S : List Int} {i m : Nat} {e : E} {z : Int} {b : Bool} (hi : pAt ρ i h = .ok (dI S, false, h)) (hm : m < S.length) (hz : (m : Int) = z) (he : ev cf ρ e h = .ok (.int z, b, h)) : ev cf ρ (.idx (.pk i) e) h = .ok (.int (S[m]'hm), false, h) := by
  subst hz
  simp only [ev_idx, ev_pk, hi, he, bo]
  unfold dI
  simp only [deref_lst, idx_lst]
  rw [atI_nat, List.getElem?_map, List.getElem?_eq_getElem hm, Option.map_some, osm, bo]
theorem sum_nat {ns : List Int} (h : ∀ x ∈ ns, 0 ≤ x ∧ x < 12) : ∃ a : Nat, ns.sum = (a : Int) ∧ a ≤ 12 * ns.length := by
  induction ns with
  | nil => exact ⟨0, rfl, by simp⟩
  | cons x ns ih =>
    obtain ⟨a, e, b⟩ := ih fun y hy => h y (List.mem_cons_of_mem _ hy)
    obtain ⟨x0, x1⟩ := h x List.mem_cons_self
    refine ⟨x.toNat + a, ?_, ?_⟩
    · rw [List.sum_cons, e]
      omega
    · rw [List.length_cons]
      omega
theorem sq_nat {ns : List Int} (h : ∀ x ∈ ns, 0 ≤ x ∧ x < 12) : ∃ a : Nat, (ns.map fun x => x * x).sum = (a : Int) ∧ a ≤ 144 * ns.length := by
  induction ns with
  | nil => exact ⟨0, rfl, by simp⟩
  | cons x ns ih =>
    obtain ⟨a, e, b⟩ := ih fun y hy => h y (List.mem_cons_of_mem _ hy)
    obtain ⟨x0, x1⟩ := h x List.mem_cons_self
    have xx : x = (x.toNat : Int) := by omega
    have xb : x.toNat * x.toNat ≤ 12 * 12 := Nat.mul_le_mul (by omega) (by omega)
    refine ⟨x.toNat * x.toNat + a, ?_, ?_⟩
    · rw [List.map_cons, List.sum_cons, e, Int.natCast_add, Int.natCast_mul, ← xx]
    · rw [List.length_cons]
      omega
theorem sec8b {ns : List Int} (ok : okN7 ns) (hwf : wf = 100000) (H : Live 32 ρ [(21, some (.int (ns.length : Int), false)), (20, some (dI (sortI ns), false)), (19, some (dI ns, true)), (1, some (.ref 0, false)), (2, some (dW, false))]) : exs (callN prg wf (n + 10)) wf (.cons s33 r) ⟨ρ, h⟩ = exs (callN prg wf (n + 10)) wf r ⟨ρ, h⟩ := by
  unfold s33
  obtain ⟨⟨l1, l7⟩, rng⟩ := ok
  obtain ⟨a, ea, ba⟩ := sum_nat rng
  have lS : (sortI ns).length = ns.length := sortI_len
  have mid := r_middle (n := n + 9) (wf := wf) (h := h) (l := ns) (by omega) (by omega)
  have mean := r_mean (n := n + 7) (wf := wf) (h := h) ea (by omega) (by omega) (by omega)
  have c33 : ev (callN prg wf (n + 10)) ρ (.or (.cmp .ne (.call "middle" (.cons (.bi .list (.cons (.pk 19) .nil)) .nil)) (.idx (.pk 20) (.bin .fdiv (.bin .sub (.pk 21) (.int 1)) (.int 2)))) (.or (.cmp .ne (.call "spread_of" (.cons (.bi .list (.cons (.pk 19) .nil)) .nil)) (.bin .sub (.idx (.pk 20) (.bin .sub (.pk 21) (.int 1))) (.idx (.pk 20) (.int 0)))) (.not (.call "_law_is_one" (.cons (.call "mean" (.cons (.bi .list (.cons (.pk 19) .nil)) .nil)) (.cons (.bi .sum (.cons (.pk 19) .nil)) (.cons (.var 21) .nil))))))) h = .ok (.bl false, false, h) := by
    refine ev_or2 (x := false) (y := false) (f1 := false) (f2 := false) (ev_cmp2 (ev_call1 (ev_listI (H.p 19 rfl)) mid) (ev_idxI (m := (ns.length - 1) / 2) (H.p 20 rfl) (by omega) (z := (((ns.length - 1) / 2 : Nat) : Int)) rfl (b := true) (ev_bin2 (ev_bin2 (ev_pkv (H.p 21 rfl)) ev_int sub_int) ev_int ?_)) (by rw [ne_int]; simp)) ?_
    · rw [bin_fdiv (by decide) (by decide), show (ns.length : Int) - 1 = ((ns.length - 1 : Nat) : Int) by omega, show (2 : Int) = ((2 : Nat) : Int) from rfl, fdiv_nat]
    · cases e : ns with
      | nil => rw [e] at l1; simp at l1
      | cons x s =>
        have sp := r_spread (n := n + 9) (wf := wf) (h := h) e
        refine ev_or2 (x := false) (y := false) (f1 := false) (f2 := false) (ev_cmp2 (ev_call1 (ev_listI (H.p 19 rfl)) sp) (ev_bin2 (ev_idxI (m := ns.length - 1) (H.p 20 rfl) (by omega) (z := (ns.length : Int) - 1) (by omega) (b := true) (ev_bin2 (ev_pkv (H.p 21 rfl)) ev_int sub_int)) (ev_idxI (m := 0) (H.p 20 rfl) (by omega) (z := 0) rfl (b := false) ev_int) sub_int) ?_) ?_
        · have e1 : (sortI ns)[ns.length - 1]'(by omega) = maxI x s := by
            subst e
            exact sort_max
          have e2 : (sortI ns)[0]'(by omega) = minI x s := by
            subst e
            exact sort_min
          rw [e1, e2, ne_int]
          simp
        · have fo := frac_one (n := n + 9) (wf := wf) (h := h) (a := a) (b := ns.length) (by omega) (by omega) rfl rfl rfl rfl
          refine ev_not1 (x := true) (f1 := false) ?_
          have e1 := ev_call1 (f := "mean") (ev_listI (cf := callN prg wf (n + 10)) (H.p (h := h) 19 rfl)) mean
          have e2 : ev (callN prg wf (n + 10)) ρ (.bi .sum (.cons (.pk 19) .nil)) h = .ok (.int (a : Int), true, h) := ev_bi1 (ev_pkv (H.p 19 rfl)) (by unfold dI; rw [bi_sum, ea])
          rw [ev_call, evs_cons, e1, bo, evs_cons, e2, bo, evs_cons, ev_varv (H.v 21 rfl), bo, evs_nil]
          simp only [bo]
          exact fo
  rw [exs_chk c33]
theorem sec9a {l : List Int} {k : Nat} {ns : List Int} (H : Live 32 ρ [(21, some (.int (ns.length : Int), false)), (20, some (dI (sortI ns), false)), (19, some (dI ns, true)), (1, some (.ref 0, false)), (2, some (dW, false))]) : ∃ (u w : Int) (ρ' : Rho) (k' : Nat), (1 ≤ u ∧ u ≤ w ∧ w ≤ 6) ∧ exs (callN prg wf (n + 10)) wf (.cons s34 (.cons s35 (.cons s36 r))) ⟨ρ, HW l k⟩ = exs (callN prg wf (n + 10)) wf r ⟨ρ', HW l k'⟩ ∧
    Live 32 ρ' [(23, some (.int u, false)), (22, some (.int w, false)), (21, some (.int (ns.length : Int), false)), (20, some (dI (sortI ns), false)), (19, some (dI ns, false)), (1, some (.ref 0, false)), (2, some (dW, false))] := by
  unfold s34 s35 s36
  obtain ⟨x, b, ex, x0, x3⟩ := next_at (wf := wf) (n := n + 9) (l := l) (k := k) (m := 6) (by decide)
  have e1 : ev (callN prg wf (n + 10)) ρ (.bin .add (.int 1) (.call "_law_next" (.cons (.var 1) (.cons (.int 6) .nil)))) (HW l k) = .ok (.int (1 + x), true, HW l (k + 1)) := by
    simp only [ev_bin, ev_call, evs_cons, evs_nil, ev_var, H.v 1 rfl, bo, ev_int, ex, add_int]
  obtain ⟨ρ1, q1, H1⟩ := H.asg (wf := wf) 22 e1
  rw [q1]
  obtain ⟨y, b2, ey, y0, y3⟩ := next_at (wf := wf) (n := n + 9) (l := l) (k := k + 1) (m := 1 + x) (by omega)
  have v22 : (22, some (D.int (1 + x), true && (D.int (1 + x)).isOwn)) = ((22, some (D.int (1 + x), false)) : Nat × Sl) := rfl
  rw [v22] at H1
  have e2 : ev (callN prg wf (n + 10)) ρ1 (.bin .add (.int 1) (.call "_law_next" (.cons (.var 1) (.cons (.var 22) .nil)))) (HW l (k + 1)) = .ok (.int (1 + y), true, HW l (k + 1 + 1)) := by
    simp only [ev_bin, ev_call, evs_cons, evs_nil, ev_var, H1.v 1 rfl, H1.v 22 rfl, bo, ev_int, ey, add_int]
  obtain ⟨ρ2, q2, H2⟩ := H1.asg (wf := wf) 23 e2
  rw [q2]
  obtain ⟨ρ3, q3, H3⟩ := H2.frz1 (cf := callN prg wf (n + 10)) (wf := wf) (h := HW l (k + 1 + 1)) (is := []) 19 rfl
  rw [q3, exs_frz0]
  exact ⟨1 + y, 1 + x, ρ3, k + 1 + 1, ⟨by omega, by omega, by omega⟩, rfl, H3.sub ⟨rfl, rfl, rfl, rfl, rfl, rfl, rfl, trivial⟩⟩
theorem sec9b {ns : List Int} {u w : Int} (ok : okN7 ns) (uw : 1 ≤ u ∧ u ≤ w ∧ w ≤ 6) (H : Live 32 ρ [(23, some (.int u, false)), (22, some (.int w, false)), (21, some (.int (ns.length : Int), false)), (20, some (dI (sortI ns), false)), (19, some (dI ns, false)), (1, some (.ref 0, false)), (2, some (dW, false))]) : ∃ ρ' : Rho, exs (callN prg wf (n + 10)) wf (.cons s37 (.cons s38 (.cons s39 r))) ⟨ρ, h⟩ = exs (callN prg wf (n + 10)) wf r ⟨ρ', h⟩ ∧
    Live 32 ρ' [(21, some (.int (ns.length : Int), false)), (19, some (dI ns, false)), (1, some (.ref 0, false)), (2, some (dW, false))] := by
  unfold s37 s38 s39
  obtain ⟨⟨l1, l7⟩, rng⟩ := ok
  obtain ⟨u1, u2, w6⟩ := uw
  have lS : (sortI ns).length = ns.length := sortI_len
  obtain ⟨k, hk, k1, k2, k3⟩ := able_first (l := ns) rfl (by omega) u1 u2
  generalize hm : (ns.length : Int) = m at *
  have e37 : ev (callN prg wf (n + 10)) ρ (.lc [31] (.name 31) (.over (.var 20)) (.cmp .ge (.bin .mul (.bi .len (.cons (.lc [30] (.name 30) (.over (.var 19)) (.cmp .le (.pk 30) (.pk 31)) (.var 30)) .nil)) (.pk 22)) (.bin .mul (.pk 23) (.pk 21))) (.var 31)) h = .ok (dI ((sortI ns).filter fun v => decide (u * m ≤ ((ns.filter fun own => decide (own ≤ v)).length : Int) * w)), true, h) := by
    refine lc_fil D.int D.int (fun v => decide (u * m ≤ ((ns.filter fun own => decide (own ≤ v)).length : Int) * w)) (sortI ns) (by unfold dI at H; simp only [evi_over, ev_var, H.v 20 rfl, bo, items_lst]) (by rw [H.1]; decide) (fun v hv => ⟨false, ?_⟩) (fun v hv _ => ⟨false, ev_varv (vAt_eq (by rw [H.1]; decide))⟩) (by omega)
    have H1 := H.set (i := 31) (x := some (D.int v, false)) (by decide)
    have inner : ev (callN prg wf (n + 10)) (ρ.set 31 (some (D.int v, false))) (.lc [30] (.name 30) (.over (.var 19)) (.cmp .le (.pk 30) (.pk 31)) (.var 30)) h = .ok (dI (ns.filter fun own => decide (own ≤ v)), true, h) := by
      refine lc_fil D.int D.int (fun own => decide (own ≤ v)) ns (by unfold dI at H1; simp only [evi_over, ev_var, H1.v 19 rfl, bo, items_lst]) (by rw [H1.1]; decide) (fun own ho => ⟨false, ?_⟩) (fun own ho _ => ⟨false, ev_varv (vAt_eq (by rw [H1.1]; decide))⟩) (by omega)
      have H2 := H1.set (i := 30) (x := some (D.int own, false)) (by decide)
      exact ev_cmp2 (ev_pkv (H2.p 30 rfl)) (ev_pkv (H2.p 31 rfl)) cmp_le
    generalize (ns.filter fun own => decide (own ≤ v)) = F at inner ⊢
    have lF : Mi.bi .len [dI F] = .ok (.int (F.length : Int)) := by unfold dI; rw [bi_len_lst, List.length_map]
    exact ev_cmp2 (ev_bin2 (ev_bi1 inner lF) (ev_pkv (H1.p 22 rfl)) (bin_mulR (by omega))) (ev_bin2 (ev_pkv (H1.p 23 rfl)) (ev_pkv (H1.p 21 rfl)) (bin_mulR (by omega))) cmp_ge
  obtain ⟨ρ1, q1, H1⟩ := H.asg (wf := wf) 24 e37
  rw [q1]
  have ap := r_at_part (n := n + 9) (wf := wf) (h := h) (l := ns) (by omega) hm (show 0 ≤ u ∧ u < 1000 by omega) (show 0 ≤ w ∧ w < 1000 by omega) hk k1 k2
  generalize hF : ((sortI ns).filter fun v => decide (u * m ≤ ((ns.filter fun own => decide (own ≤ v)).length : Int) * w)) = F at H1 k3
  have c38 : ev (callN prg wf (n + 10)) ρ1 (.cmp .ne (.call "at_part" (.cons (.bi .list (.cons (.pk 19) .nil)) (.cons (.tup (.cons (.var 23) (.cons (.var 22) .nil))) .nil))) (.idx (.pk 24) (.int 0))) h = .ok (.bl false, false, h) := by
    cases F with
    | nil => cases k3
    | cons x F =>
      rw [List.head?_cons] at k3
      have ex := Option.some.inj k3
      refine ev_cmp2 (ev_call2 (ev_listI (H1.p 19 rfl)) (ev_tup2 (ev_varv (H1.v 23 rfl)) (ev_varv (H1.v 22 rfl))) ap) (ev_idxI (m := 0) (H1.p 24 rfl) (by simp) (z := 0) rfl (b := false) ev_int) ?_
      rw [← ex, ne_int]
      simp
  rw [exs_chk c38]
  obtain ⟨ρ3, q3, H3⟩ := H1.frz1 (cf := callN prg wf (n + 10)) (wf := wf) (h := h) (is := []) 19 rfl
  rw [q3, exs_frz0]
  exact ⟨ρ3, rfl, H3.sub ⟨rfl, rfl, rfl, rfl, trivial⟩⟩
theorem sq_zero : ∀ {ns : List Int}, (∀ x ∈ ns, 0 ≤ x ∧ x < 12) → (ns.map fun x => x * x).sum = 0 → ns.sum = 0
  | [], _, _ => rfl
  | x :: ns, h, e => by
    obtain ⟨q, eq, _⟩ := sq_nat fun y hy => h y (List.mem_cons_of_mem _ hy)
    rw [List.map_cons, List.sum_cons] at e
    obtain ⟨x0, _⟩ := h x List.mem_cons_self
    have xx : 0 ≤ x * x := Int.mul_nonneg x0 x0
    have x2 : x * x = 0 := by omega
    have x3 : x = 0 := by
      rcases Int.mul_eq_zero.mp x2 with z | z <;> exact z
    rw [List.sum_cons, sq_zero (fun y hy => h y (List.mem_cons_of_mem _ hy)) (by omega), x3]
    rfl
theorem ne_tup11 : cmp .ne (.tup [.int 1, .int 1]) (.tup [.int 1, .int 1]) = .ok false := by simp [cmp, eqB, eqOK, eqAll, guard', D.flat, D.eqv, eqvs]
theorem sec10 {ns : List Int} (ok : okN7 ns) (hwf : wf = 100000) (H : Live 32 ρ [(21, some (.int (ns.length : Int), false)), (19, some (dI ns, false)), (1, some (.ref 0, false)), (2, some (dW, false))]) : ∃ ρ' : Rho, exs (callN prg wf (n + 10)) wf (.cons s40 (.cons s41 r)) ⟨ρ, h⟩ = exs (callN prg wf (n + 10)) wf r ⟨ρ', h⟩ ∧
    Live 32 ρ' [(1, some (.ref 0, false)), (2, some (dW, false))] := by
  unfold s40 s41
  obtain ⟨⟨l1, l7⟩, rng⟩ := ok
  obtain ⟨a, ea, ba⟩ := sum_nat rng
  obtain ⟨q, eq, bq⟩ := sq_nat rng
  have lq : ns.length * q ≤ 7 * 1008 := Nat.mul_le_mul l7 (by omega)
  have ev' := r_evenness (n := n + 7) (wf := wf) (h := h) ea eq (fun x hx => by have := rng x hx; omega) (by omega) (by omega) (by omega) (by omega) (by omega) (by omega)
  have fo := fun hq : 0 < q => frac_one (n := n + 9) (wf := wf) (h := h) (a := a * a) (b := ns.length * q) (Nat.mul_pos (by omega) hq) (by omega) (Int.natCast_mul a a) (Int.natCast_mul ns.length q) rfl rfl
  have e40 : ev (callN prg wf (n + 10)) ρ (.bi .sum (.cons (.lc [31] (.name 31) (.over (.var 19)) (.bl true) (.bin .mul (.pk 31) (.pk 31))) .nil)) h = .ok (.int (q : Int), true, h) := by
    refine ev_bi1 (lc_map D.int (fun x => .int (x * x)) ns (by unfold dI at H; simp only [evi_over, ev_var, H.v 19 rfl, bo, items_lst]) (by rw [H.1]; decide) (fun x hx => ⟨true, ?_⟩) (by omega)) ?_
    · have H1 := H.set (i := 31) (x := some (D.int x, false)) (by decide)
      have := rng x hx
      exact ev_bin2 (ev_pkv (H1.p 31 rfl)) (ev_pkv (H1.p 31 rfl)) (bin_mulR (by omega))
    · rw [show (ns.map fun x => D.int (x * x)) = (ns.map fun x => x * x).map D.int by rw [List.map_map]; rfl, bi_sum, eq]
  obtain ⟨ρ1, q1, H1⟩ := H.asg (wf := wf) 25 e40
  rw [q1]
  have evn := ev_call1 (f := "evenness") (ev_listI (cf := callN prg wf (n + 10)) (H1.p (h := h) 19 rfl)) ev'
  have e2 : ev (callN prg wf (n + 10)) ρ1 (.bi .sum (.cons (.pk 19) .nil)) h = .ok (.int (a : Int), true, h) := ev_bi1 (ev_pkv (H1.p 19 rfl)) (by unfold dI; rw [bi_sum, ea])
  have gt : ev (callN prg wf (n + 10)) ρ1 (.cmp .gt (.pk 25) (.int 0)) h = .ok (.bl (decide (0 < (q : Int))), false, h) := ev_cmp2 (ev_pkv (H1.p 25 rfl)) ev_int cmp_gt
  have eq0 : ev (callN prg wf (n + 10)) ρ1 (.cmp .eq (.pk 25) (.int 0)) h = .ok (.bl ((q : Int) == 0), false, h) := ev_cmp2 (ev_pkv (H1.p 25 rfl)) ev_int cmp_eqI
  have e11 : ev (callN prg wf (n + 10)) ρ1 (.tup (.cons (.int 1) (.cons (.int 1) .nil))) h = .ok (.tup [.int 1, .int 1], false, h) := ev_tup2 ev_int ev_int
  have mm : ev (callN prg wf (n + 10)) ρ1 (.bin .mul (.bi .sum (.cons (.pk 19) .nil)) (.bi .sum (.cons (.pk 19) .nil))) h = .ok (.int ((a : Int) * (a : Int)), true, h) := ev_bin2 e2 e2 (bin_mulR (by omega))
  have lm : ev (callN prg wf (n + 10)) ρ1 (.bin .mul (.pk 21) (.pk 25)) h = .ok (.int ((ns.length : Int) * (q : Int)), true, h) := ev_bin2 (ev_pkv (H1.p 21 rfl)) (ev_pkv (H1.p 25 rfl)) (bin_mulR (by omega))
  have c41 : ev (callN prg wf (n + 10)) ρ1 (.or (.and (.not (.call "_law_is_one" (.cons (.call "evenness" (.cons (.bi .list (.cons (.pk 19) .nil)) .nil)) (.cons (.bin .mul (.bi .sum (.cons (.pk 19) .nil)) (.bi .sum (.cons (.pk 19) .nil))) (.cons (.bin .mul (.pk 21) (.pk 25)) .nil))))) (.cmp .gt (.pk 25) (.int 0))) (.and (.cmp .eq (.pk 25) (.int 0)) (.cmp .ne (.call "evenness" (.cons (.bi .list (.cons (.pk 19) .nil)) .nil)) (.tup (.cons (.int 1) (.cons (.int 1) .nil)))))) h = .ok (.bl false, false, h) := by
    by_cases hq : 0 < q
    · have fo := fo hq
      rw [if_neg (by omega)] at evn
      have one : ev (callN prg wf (n + 10)) ρ1 (.call "_law_is_one" (.cons (.call "evenness" (.cons (.bi .list (.cons (.pk 19) .nil)) .nil)) (.cons (.bin .mul (.bi .sum (.cons (.pk 19) .nil)) (.bi .sum (.cons (.pk 19) .nil))) (.cons (.bin .mul (.pk 21) (.pk 25)) .nil)))) h = .ok (.bl true, false, h) := by
        rw [ev_call, evs_cons, evn, bo, evs_cons, mm, bo, evs_cons, lm, bo, evs_nil]
        simp only [bo]
        exact fo
      refine ev_or2 (x := false) (y := false) (f1 := false) (f2 := false) (and_f (ev_not1 one)) ?_
      refine and_f (f1 := false) ?_
      rw [eq0, beq_eq_false_iff_ne.mpr (by omega)]
    · have q0 : q = 0 := by omega
      subst q0
      have a0 := sq_zero rng eq
      rw [ea] at a0
      rw [if_pos rfl] at evn
      have fo := r_is_one (n := n + 9) (wf := wf) (h := h) (s0 := 1) (s1 := 1) (up := (a : Int) * (a : Int)) (lo := (ns.length : Int) * ((0 : Nat) : Int)) (by rw [a0]; simp) (by decide) (by decide) (by simp) (fun k k2 k1 => by omega)
      have one : ev (callN prg wf (n + 10)) ρ1 (.call "_law_is_one" (.cons (.call "evenness" (.cons (.bi .list (.cons (.pk 19) .nil)) .nil)) (.cons (.bin .mul (.bi .sum (.cons (.pk 19) .nil)) (.bi .sum (.cons (.pk 19) .nil))) (.cons (.bin .mul (.pk 21) (.pk 25)) .nil)))) h = .ok (.bl true, false, h) := by
        rw [ev_call, evs_cons, evn, bo, evs_cons, mm, bo, evs_cons, lm, bo, evs_nil]
        simp only [bo]
        exact fo
      refine ev_or2 (x := false) (y := false) (f1 := false) (f2 := false) (and_f (ev_not1 one)) ?_
      exact and_t (x := true) (f1 := false) (f2 := false) (by rw [eq0]; rfl) (fun _ => ev_cmp2 evn e11 ne_tup11) (fun z => by cases z)
  rw [exs_chk c41]
  exact ⟨ρ1, rfl, H1.sub ⟨rfl, rfl, trivial⟩⟩
end K4

set_option Elab.async false
set_option linter.all false
set_option maxRecDepth 100000
set_option maxHeartbeats 8000000
/-! k04: the law holds. -/
namespace K4
open PySem Mi
variable {n wf : Nat} {h : AH} {cf : Calls} {ρ : Rho} {r : Ss}
theorem turn_ok {l : List Int} {k : Nat} {b : Bool} (hwf : wf = 100000) (H : Live 32 ρ [(1, some (.ref 0, false)), (2, some (dW, b))]) : ∃ (ρ' : Rho) (k' : Nat), exs (callN prg wf (n + 10)) wf b_turn ⟨ρ, HW l k⟩ = .ok (.next, ⟨ρ', HW l k'⟩) ∧ Live 32 ρ' [(1, some (.ref 0, false)), (2, some (dW, false))] := by
  unfold b_turn
  obtain ⟨f, g, ρ1, k1, gf, gg, q1, H1⟩ := sec1 (n := n) (wf := wf) (l := l) (k := k) (r := _) H
  rw [q1]
  obtain ⟨ρ2, q2, H2⟩ := sec2 (n := n) (wf := wf) (h := HW l k1) (l := l) (k := k1) (r := _) gf.nn gg.nn H1
  rw [q2]
  obtain ⟨ρ3, q3, H3⟩ := sec3 (n := n) (wf := wf) (h := HW l k1) (r := _) gf.nn gg.nn H2
  rw [q3]
  obtain ⟨ρ4, q4, H4⟩ := sec4 (n := n) (wf := wf) (h := HW l k1) (r := _) gf.nn gg.nn H3
  rw [q4]
  obtain ⟨ρ5, q5, H5⟩ := sec5 (n := n) (wf := wf) (h := HW l k1) (r := _) gf gg H4
  rw [q5]
  obtain ⟨ρ6, k6, q6, H6⟩ := sec6 (n := n) (wf := wf) (l := l) (k := k1) (r := _) H5
  rw [q6]
  obtain ⟨i, j, i', j', ρ7, k7, ⟨hi, hj, hi', hj'⟩, q7, H7⟩ := sec7a (n := n) (wf := wf) (l := l) (k := k6) (r := _) H6
  rw [q7]
  obtain ⟨ρ8, q8, H8⟩ := sec7b (n := n) (wf := wf) (h := HW l k7) (r := _) hi hj hi' hj' H7
  rw [q8]
  obtain ⟨ρ9, q9, H9⟩ := sec7c (n := n) (wf := wf) (h := HW l k7) (r := _) hi hj hi' hj' H8
  rw [q9]
  obtain ⟨ns, ρ10, k10, ok, q10, H10⟩ := sec8a (n := n) (wf := wf) (l := l) (k := k7) (r := _) H9
  rw [q10, sec8b ok hwf H10]
  obtain ⟨u, w, ρ11, k11, uw, q11, H11⟩ := sec9a (n := n) (wf := wf) (l := l) (k := k10) (r := _) H10
  rw [q11]
  obtain ⟨ρ12, q12, H12⟩ := sec9b (n := n) (wf := wf) (h := HW l k11) (r := _) ok uw H11
  rw [q12]
  obtain ⟨ρ13, q13, H13⟩ := sec10 (n := n) (wf := wf) (h := HW l k11) (r := _) ok hwf H12
  rw [q13]
  exact ⟨ρ13, k11, exs_nil, H13⟩
def bads1 : List D := [.non, .dct [(.inr "cpu", .int 0)], .dct [(.inr "cpu", .bl true)], .dct [(.inr "CPU", .int 1)], .dct [(.inl 1, .int 1)], .lst [.tup [.str "cpu", .int 1]], .dct [(.inr "cpu", .str "1")], .dct [(.inr "", .int 1)]]
def bads2 : List D := [.non, .dct [(.inr "app", .str "Web")], .dct [(.inr "app", .int 1)], .dct [(.inr "", .str "a")], .lst [.tup [.str "app", .str "web"]], .dct [(.inr "app", .tup [.str "web"])]]
def bads3 : List D := [.non, .dct [(.inr "app", .tup [])], .dct [(.inr "app", .str "web")], .dct [(.inr "app", .tup [.str "b", .str "a"])], .dct [(.inr "app", .tup [.str "a", .str "a"])], .dct [(.inr "app", .lst [.str "a"])], .dct [(.inr "app", .tup [.int 1])]]
theorem str_no {x : Str} (hx : x.cps.toList.length < 16777216) (e : nameB x = false) : ∃ fr, callN prg wf (n + 1) "is_name" [.str x] h = .ok (.bl false, fr, h) := ⟨false, by rw [name_str hx, e]⟩
theorem no1 : ∀ d ∈ bads1, No (n + 10) wf h "is_amounts" d := by
  unfold bads1
  simp only [List.mem_cons, List.not_mem_nil, or_false]
  rintro d (rfl | rfl | rfl | rfl | rfl | rfl | rfl | rfl)
  · exact (nodict (n := n + 9) (t := "NoneType") rfl (by decide)).1
  · exact bad_am (n := n + 8) ⟨false, r_is_from (by omega)⟩
  · exact bad_am (n := n + 8) (from_no (n := n + 7) (t := "bool") rfl (.inr (by decide)))
  · exact (badkey (n := n + 8) fun n => str_no (by decide) (by decide +kernel)).1
  · exact (badkey (n := n + 8) fun n => name_no (t := "int") rfl (by decide)).1
  · exact (nodict (n := n + 9) (t := "list") rfl (by decide)).1
  · exact bad_am (n := n + 8) (from_no (n := n + 7) (t := "str") rfl (.inl (by decide)))
  · exact (badkey (n := n + 8) fun n => str_no (by decide) (by decide +kernel)).1
theorem no2 : ∀ d ∈ bads2, No (n + 10) wf h "is_labels" d := by
  unfold bads2
  simp only [List.mem_cons, List.not_mem_nil, or_false]
  rintro d (rfl | rfl | rfl | rfl | rfl | rfl)
  · exact (nodict (n := n + 9) (t := "NoneType") rfl (by decide)).2.1
  · exact bad_lab (n := n + 8) (str_no (by decide) (by decide +kernel))
  · exact bad_lab (n := n + 8) (name_no (t := "int") rfl (by decide))
  · exact (badkey (n := n + 8) fun n => str_no (by decide) (by decide +kernel)).2.1
  · exact (nodict (n := n + 9) (t := "list") rfl (by decide)).2.1
  · exact bad_lab (n := n + 8) (name_no (t := "tuple") rfl (by decide))
theorem ws_no {l : List Str} (ok : okW l) (e : wsB l = false) : ∃ fr, callN prg wf (n + 2) "is_word_set" [tw l] h = .ok (.bl false, fr, h) := by
  rw [← e]
  exact r_word_set ok
theorem no3 : ∀ d ∈ bads3, No (n + 10) wf h "is_picks" d := by
  unfold bads3
  simp only [List.mem_cons, List.not_mem_nil, or_false]
  rintro d (rfl | rfl | rfl | rfl | rfl | rfl | rfl)
  · exact (nodict (n := n + 9) (t := "NoneType") rfl (by decide)).2.2
  · exact bad_pick (n := n + 8) (ws_no (n := n + 7) (l := []) (by unfold okW; decide) (by decide +kernel))
  · exact bad_pick (n := n + 8) (set_no (t := "str") rfl (by decide))
  · exact bad_pick (n := n + 8) (ws_no (n := n + 7) (l := ["b", "a"]) (by unfold okW; decide) (by decide +kernel))
  · exact bad_pick (n := n + 8) (ws_no (n := n + 7) (l := ["a", "a"]) (by unfold okW; decide) (by decide +kernel))
  · exact bad_pick (n := n + 8) (set_no (t := "list") rfl (by decide))
  · exact bad_pick (n := n + 8) (set_int (n := n + 7) (t := "int") rfl (by decide) rfl)
/-- a loop over what is none -/
theorem bad_loop {f : String} {src : It} {bads : List D} (no : ∀ d ∈ bads, No (n + 10) wf h f d) (hs : evi (callN prg wf (n + 10)) ρ src h = .ok (bads, h)) (H : Live 32 ρ []) : ∃ ρ', exs (callN prg wf (n + 10)) wf (.cons (.fr (.name 26) src (.cons (.iff (.cmp .isnot (.call f (.cons (.var 26) .nil)) (.bl false)) (.cons (.ret (.bl false)) .nil) .nil) .nil)) r) ⟨ρ, h⟩ = exs (callN prg wf (n + 10)) wf r ⟨ρ', h⟩ ∧ Live 32 ρ' [] := by
  obtain ⟨s1, q1, ⟨hs, H1⟩⟩ := exs_fr (wf := wf) (t := 26) (r := r) (body := (.cons (.iff (.cmp .isnot (.call f (.cons (.var 26) .nil)) (.bl false)) (.cons (.ret (.bl false)) .nil) .nil) .nil)) hs (fun _ s => s.h = h ∧ Live 32 s.ρ []) (fun _ s hs => by rw [hs.2.1]; decide) ⟨rfl, H⟩ (fun m x hx s ⟨hs, HL⟩ => by
    have H2 := HL.set (i := 26) (x := some (x, false)) (by decide)
    obtain ⟨fr, e⟩ := no x (List.mem_of_getElem? hx)
    refine ⟨⟨s.ρ.set 26 (some (x, false)), s.h⟩, ?_, hs, H2.sub trivial⟩
    subst hs
    have c : ev (callN prg wf (n + 10)) (s.ρ.set 26 (some (x, false))) (.cmp .isnot (.call f (.cons (.var 26) .nil)) (.bl false)) s.h = .ok (.bl false, false, s.h) := ev_cmp2 (ev_call1 (ev_varv (H2.v 26 rfl)) e) ev_bl rfl
    rw [exs_chk c, exs_nil])
  obtain ⟨ρ1, h1⟩ := s1
  subst hs
  exact ⟨ρ1, q1, H1⟩
theorem src1 : evi cf ρ (.over (.lst (.cons .non (.cons (.dct (.cons (.str "cpu") (.cons (.int 0) .nil))) (.cons (.dct (.cons (.str "cpu") (.cons (.bl true) .nil))) (.cons (.dct (.cons (.str "CPU") (.cons (.int 1) .nil))) (.cons (.dct (.cons (.int 1) (.cons (.int 1) .nil))) (.cons (.lst (.cons (.tup (.cons (.str "cpu") (.cons (.int 1) .nil))) .nil)) (.cons (.dct (.cons (.str "cpu") (.cons (.str "1") .nil))) (.cons (.dct (.cons (.str "") (.cons (.int 1) .nil))) .nil)))))))))) h = .ok (bads1, h) := by
  simp [rows?, D.key?, merge, put, guard', fits, big, bads1]
theorem src2 : evi cf ρ (.over (.lst (.cons .non (.cons (.dct (.cons (.str "app") (.cons (.str "Web") .nil))) (.cons (.dct (.cons (.str "app") (.cons (.int 1) .nil))) (.cons (.dct (.cons (.str "") (.cons (.str "a") .nil))) (.cons (.lst (.cons (.tup (.cons (.str "app") (.cons (.str "web") .nil))) .nil)) (.cons (.dct (.cons (.str "app") (.cons (.tup (.cons (.str "web") .nil)) .nil))) .nil)))))))) h = .ok (bads2, h) := by
  simp [rows?, D.key?, merge, put, guard', fits, big, bads2]
theorem src3 : evi cf ρ (.over (.lst (.cons .non (.cons (.dct (.cons (.str "app") (.cons (.tup .nil) .nil))) (.cons (.dct (.cons (.str "app") (.cons (.str "web") .nil))) (.cons (.dct (.cons (.str "app") (.cons (.tup (.cons (.str "b") (.cons (.str "a") .nil))) .nil))) (.cons (.dct (.cons (.str "app") (.cons (.tup (.cons (.str "a") (.cons (.str "a") .nil))) .nil))) (.cons (.dct (.cons (.str "app") (.cons (.lst (.cons (.str "a") .nil)) .nil))) (.cons (.dct (.cons (.str "app") (.cons (.tup (.cons (.int 1) .nil)) .nil))) .nil))))))))) h = .ok (bads3, h) := by
  simp [rows?, D.key?, merge, put, guard', fits, big, bads3]
theorem no_labels : ∃ fr, callN prg wf (n + 10) "is_labels" [.dct []] h = .ok (.bl true, fr, h) := by
  refine ⟨false, ?_⟩
  rw [show n + 10 = (n + 9) + 1 from rfl, c_is_labels]
  suffices q : ∀ ρ0 : Rho, Live 2 ρ0 [(0, some (.dct [], false))] → exs (callN prg wf (n + 9)) wf b_is_labels ⟨ρ0, h⟩ = .ok (.ret (.bl true) false, ⟨ρ0, h⟩) from runF_ret rfl ⟨_, q (Mi.start ⟨1, 2, b_is_labels⟩ [.dct []]) (Live.of rfl (by simp [Mi.start])), rfl⟩
  intro ρ0 H0
  unfold b_is_labels
  refine exs_ret ?_
  rw [evR_of (by intro i; simp)]
  have i1 : Mi.bi (.isinst "dict") [.dct []] = .ok (.bl true) := rfl
  refine and_t (x := true) (f1 := true) (f2 := true) (by simp only [ev_bi, evs_cons, evs_nil, ev_pk, H0.p 0 rfl, bo, i1]) (fun _ => ?_) (fun q => by cases q)
  exact ev_all (fun k => keyD k) (fun _ => true) [] (by simp only [evi_over, ev_var, H0.v 0 rfl, bo, items_dct]; rfl) (by rw [H0.1]; decide) (fun a ha => by cases ha) (by decide)
theorem is_tt : cmp .is (.bl true) (.bl true) = .ok true := rfl
theorem end_ok : ∃ fr, ev (callN prg wf (n + 10)) ρ (.and (.cmp .is (.call "is_amounts" (.cons (.dct .nil) .nil)) (.bl true)) (.and (.cmp .is (.call "is_labels" (.cons (.dct (.cons (.str "app") (.cons (.str "web") .nil))) .nil)) (.bl true)) (.and (.cmp .is (.call "is_labels" (.cons (.dct .nil) .nil)) (.bl true)) (.and (.cmp .is (.call "is_picks" (.cons (.dct .nil) .nil)) (.bl true)) (.cmp .is (.call "is_picks" (.cons (.dct (.cons (.str "app") (.cons (.tup (.cons (.str "a") (.cons (.str "b") .nil))) .nil))) .nil)) (.bl true)))))) h = .ok (.bl true, fr, h) := by
  have d1 : ev (callN prg wf (n + 10)) ρ (.dct (.cons (.str "app") (.cons (.str "web") .nil))) h = .ok (.dct [(.inr "app", .str "web")], true, h) := by simp [rows?, D.key?, merge, put, guard']
  have d2 : ev (callN prg wf (n + 10)) ρ (.dct (.cons (.str "app") (.cons (.tup (.cons (.str "a") (.cons (.str "b") .nil))) .nil))) h = .ok (dP [("app", ["a", "b"])], true, h) := by simp [rows?, D.key?, merge, put, guard', fits, big, dP, kv, row, tw]
  have a1 : callN prg wf (n + 10) "is_amounts" [.dct []] h = .ok (.bl true, false, h) := r_is_amounts (A := []) (by simp) (by simp) (by decide) (by omega)
  have web : nameB "web" = true := by decide +kernel
  obtain ⟨f2, a2⟩ := bad_lab (n := n + 8) (wf := wf) (h := h) (v := .str "web") (b := true) ⟨false, by rw [name_str (by decide), web]⟩
  obtain ⟨f3, a3⟩ := no_labels (n := n) (wf := wf) (h := h)
  obtain ⟨f4, a4⟩ := r_is_picks (n := n + 7) (wf := wf) (h := h) (A := []) (by simp) (by decide) (by simp)
  obtain ⟨f5, a5⟩ := r_is_picks (n := n + 7) (wf := wf) (h := h) (A := [("app", ["a", "b"])]) (by simp) (by decide) (by unfold okW; decide)
  have e5 : ispB [("app", ["a", "b"])] = true := by decide +kernel
  rw [e5] at a5
  refine ⟨false, and_t (x := true) (f1 := false) (f2 := false) (ev_cmp2 (ev_call1 ev_dct0 a1) ev_bl is_tt) (fun _ => ?_) (fun q => by cases q)⟩
  refine and_t (x := true) (f1 := false) (f2 := false) (ev_cmp2 (ev_call1 d1 a2) ev_bl is_tt) (fun _ => ?_) (fun q => by cases q)
  refine and_t (x := true) (f1 := false) (f2 := false) (ev_cmp2 (ev_call1 ev_dct0 a3) ev_bl is_tt) (fun _ => ?_) (fun q => by cases q)
  refine and_t (x := true) (f1 := false) (f2 := false) (ev_cmp2 (ev_call1 ev_dct0 a4) ev_bl is_tt) (fun _ => ?_) (fun q => by cases q)
  exact ev_cmp2 (ev_call1 d2 a5) ev_bl is_tt
theorem law_at (hwf : wf = 100000) (ns : List Int) (hl : ns.length ≤ 63) : ∃ fr h', runF (callN prg wf (n + 10)) wf ⟨1, 32, b_law⟩ [.scr ns] [] = .ok (.bl true, fr, h') := by
  suffices q : ∀ ρ0 : Rho, Live 32 ρ0 [(0, some (.scr ns, false))] → ∃ fr s', exs (callN prg wf (n + 10)) wf b_law ⟨ρ0, []⟩ = .ok (.ret (.bl true) fr, s') by
    obtain ⟨fr, s', e⟩ := q (Mi.start ⟨1, 32, b_law⟩ [.scr ns]) (Live.of rfl (by simp [Mi.start]))
    exact ⟨fr, s'.h, runF_ret rfl ⟨s', e, rfl⟩⟩
  intro ρ0 H0
  rw [b_law_eq]
  obtain ⟨l, dr⟩ := r_draws (n := n + 9) (wf := wf) (h := []) hl
  have e0 : ev (callN prg wf (n + 10)) ρ0 (.dct (.cons (.str "draws") (.cons (.call "_law_draws" (.cons (.var 0) (.cons (.int 500) .nil))) (.cons (.str "at") (.cons (.int 0) .nil))))) [] = .ok (.dct [(.inr "draws", .lst (l.map D.int)), (.inr "at", .int 0)], true, []) := by
    simp only [ev_dct, evs_cons, evs_nil, ev_str, ev_call, ev_var, H0.v 0 rfl, bo, ev_int, dr]
    simp [rows?, D.key?, merge, put, guard', da]
  have x0 : ex (callN prg wf (n + 10)) wf t0 ⟨ρ0, []⟩ = .ok (.next, ⟨ρ0.set 1 (some (.ref 0, false)), HW l 0⟩) := by
    unfold t0 ex
    simp only [e0, bo]
    rw [decide_eq_true (show 1 < ρ0.length by rw [H0.1]; decide), guard_t]
    rfl
  rw [exs_step x0]
  have H1 := H0.set (i := 1) (x := some (D.ref 0, false)) (by decide)
  generalize ρ0.set 1 (some (D.ref 0, false)) = ρ1 at H1
  have e1 : ev (callN prg wf (n + 10)) ρ1 (.lst (.cons (.str "cpu") (.cons (.str "disk") (.cons (.str "mem") .nil)))) (HW l 0) = .ok (dW, true, HW l 0) := by
    have f2 : fits 3 = true := rfl
    simp only [ev_lst, evs_cons, evs_nil, ev_str, bo, List.length_cons, List.length_nil, Nat.zero_add, Nat.reduceAdd, f2, guard_t]
    rfl
  unfold t1
  obtain ⟨ρ2, q2, H2⟩ := H1.asg (wf := wf) 2 e1
  rw [q2]
  unfold t2
  obtain ⟨s3, q3, ⟨k3, b3, hs3, H3⟩⟩ := exs_fr (h := HW l 0) (wf := wf) (t := 3) (body := b_turn) (cf := callN prg wf (n + 10)) (ρ := ρ2) (src := .range (.cons (.int 10) .nil)) (r := (.cons t3 (.cons t4 (.cons t5 (.cons t6 .nil))))) (l := (List.range 10).map fun k : Nat => D.int (k : Int)) (src_range (m := 10) (b := false) ev_int (by decide))
    (fun i s => ∃ (k : Nat) (b : Bool), s.h = HW l k ∧ Live 32 s.ρ [(1, some (.ref 0, false)), (2, some (dW, b))])
    (fun _ s ⟨_, _, _, hs⟩ => by rw [hs.1]; decide) ⟨0, true, rfl, H2.sub ⟨rfl, rfl, trivial⟩⟩ (fun k x hx s ⟨k', b, hs, HL⟩ => by
      obtain ⟨ρs, hh⟩ := s
      subst hs
      obtain ⟨ρ', k2, e, H'⟩ := turn_ok (n := n) (l := l) (k := k') hwf ((HL.set (i := 3) (x := some (x, false)) (by decide)).sub ⟨rfl, rfl, trivial⟩)
      exact ⟨_, e, k2, false, rfl, H'⟩)
  rw [q3]
  obtain ⟨ρ3, h3⟩ := s3
  subst hs3
  have H3 : Live 32 ρ3 [] := H3.sub trivial
  unfold t3
  obtain ⟨ρ4, q4, H4⟩ := bad_loop (n := n) (wf := wf) (r := (.cons t4 (.cons t5 (.cons t6 .nil)))) (h := HW l k3) no1 src1 H3
  rw [q4]
  unfold t4
  obtain ⟨ρ5, q5, H5⟩ := bad_loop (n := n) (wf := wf) (r := (.cons t5 (.cons t6 .nil))) (h := HW l k3) no2 src2 H4
  rw [q5]
  unfold t5
  obtain ⟨ρ6, q6, H6⟩ := bad_loop (n := n) (wf := wf) (r := (.cons t6 .nil)) (h := HW l k3) no3 src3 H5
  rw [q6]
  unfold t6
  obtain ⟨fr, e6⟩ := end_ok (n := n) (wf := wf) (h := HW l k3) (ρ := ρ6)
  exact ⟨fr, _, exs_ret (by rw [evR_of (by intro i; simp)]; exact e6)⟩
theorem law_true (ns : List Int) (hl : ns.length ≤ 63) : ∃ fr h', runF (callN prg 100000 40) 100000 ⟨1, 32, b_law⟩ [.scr ns] [] = .ok (.bl true, fr, h') := law_at (n := 30) rfl ns hl
end K4

set_option Elab.async false
set_option linter.all false
set_option maxRecDepth 100000
set_option maxHeartbeats 8000000
/-! k04: the end. -/
namespace K4
open PySem L2 Mi
theorem s_is_number : FnScope n_is_number [Str.ofString "thing"] (defScope (topS 1)) := ⟨rfl, rfl, rfl, by decide +kernel, rfl, by decide +kernel, by decide +kernel⟩
theorem g_is_number : BindsOf "is_number" (topS 1) [Str.ofString "thing"] := fun _ _ _ _ _ _ us hl => match us, hl with | [_], _ => rfl
theorem s_is_from : FnScope n_is_from [Str.ofString "thing", Str.ofString "least"] (defScope (topS 2)) := ⟨rfl, rfl, rfl, by decide +kernel, rfl, by decide +kernel, by decide +kernel⟩
theorem g_is_from : BindsOf "is_from" (topS 2) [Str.ofString "thing", Str.ofString "least"] := fun _ _ _ _ _ _ us hl => match us, hl with | [_, _], _ => rfl
theorem s_is_ascending : FnScope n_is_ascending [Str.ofString "things"] (defScope (topS 3)) := ⟨rfl, rfl, rfl, by decide +kernel, rfl, by decide +kernel, by decide +kernel⟩
theorem g_is_ascending : BindsOf "is_ascending" (topS 3) [Str.ofString "things"] := fun _ _ _ _ _ _ us hl => match us, hl with | [_], _ => rfl
theorem s_is_within : FnScope n_is_within [Str.ofString "one", Str.ofString "other"] (defScope (topS 4)) := ⟨rfl, rfl, rfl, by decide +kernel, rfl, by decide +kernel, by decide +kernel⟩
theorem g_is_within : BindsOf "is_within" (topS 4) [Str.ofString "one", Str.ofString "other"] := fun _ _ _ _ _ _ us hl => match us, hl with | [_, _], _ => rfl
theorem s_is_name : FnScope n_is_name [Str.ofString "thing"] (defScope (topS 5)) := ⟨rfl, rfl, rfl, by decide +kernel, rfl, by decide +kernel, by decide +kernel⟩
theorem g_is_name : BindsOf "is_name" (topS 5) [Str.ofString "thing"] := fun _ _ _ _ _ _ us hl => match us, hl with | [_], _ => rfl
theorem s_is_labels : FnScope n_is_labels [Str.ofString "thing"] (defScope (topS 7)) := ⟨rfl, rfl, rfl, by decide +kernel, rfl, by decide +kernel, by decide +kernel⟩
theorem g_is_labels : BindsOf "is_labels" (topS 7) [Str.ofString "thing"] := fun _ _ _ _ _ _ us hl => match us, hl with | [_], _ => rfl
theorem s_is_word_set : FnScope n_is_word_set [Str.ofString "thing"] (defScope (topS 8)) := ⟨rfl, rfl, rfl, by decide +kernel, rfl, by decide +kernel, by decide +kernel⟩
theorem g_is_word_set : BindsOf "is_word_set" (topS 8) [Str.ofString "thing"] := fun _ _ _ _ _ _ us hl => match us, hl with | [_], _ => rfl
theorem s_is_picks : FnScope n_is_picks [Str.ofString "thing"] (defScope (topS 9)) := ⟨rfl, rfl, rfl, by decide +kernel, rfl, by decide +kernel, by decide +kernel⟩
theorem g_is_picks : BindsOf "is_picks" (topS 9) [Str.ofString "thing"] := fun _ _ _ _ _ _ us hl => match us, hl with | [_], _ => rfl
theorem s_picked : FnScope n_picked [Str.ofString "picks", Str.ofString "labels"] (defScope (topS 10)) := ⟨rfl, rfl, rfl, by decide +kernel, rfl, by decide +kernel, by decide +kernel⟩
theorem g_picked : BindsOf "picked" (topS 10) [Str.ofString "picks", Str.ofString "labels"] := fun _ _ _ _ _ _ us hl => match us, hl with | [_, _], _ => rfl
theorem s_narrower : FnScope n_narrower [Str.ofString "one", Str.ofString "other"] (defScope (topS 11)) := ⟨rfl, rfl, rfl, by decide +kernel, rfl, by decide +kernel, by decide +kernel⟩
theorem g_narrower : BindsOf "narrower" (topS 11) [Str.ofString "one", Str.ofString "other"] := fun _ _ _ _ _ _ us hl => match us, hl with | [_, _], _ => rfl
theorem s_both_picks : FnScope n_both_picks [Str.ofString "one", Str.ofString "other"] (defScope (topS 12)) := ⟨rfl, rfl, rfl, by decide +kernel, rfl, by decide +kernel, by decide +kernel⟩
theorem g_both_picks : BindsOf "both_picks" (topS 12) [Str.ofString "one", Str.ofString "other"] := fun _ _ _ _ _ _ us hl => match us, hl with | [_, _], _ => rfl
theorem s_is_amounts : FnScope n_is_amounts [Str.ofString "thing"] (defScope (topS 14)) := ⟨rfl, rfl, rfl, by decide +kernel, rfl, by decide +kernel, by decide +kernel⟩
theorem g_is_amounts : BindsOf "is_amounts" (topS 14) [Str.ofString "thing"] := fun _ _ _ _ _ _ us hl => match us, hl with | [_], _ => rfl
theorem s_in_order : FnScope n_in_order [Str.ofString "amounts"] (defScope (topS 15)) := ⟨rfl, rfl, rfl, by decide +kernel, rfl, by decide +kernel, by decide +kernel⟩
theorem g_in_order : BindsOf "in_order" (topS 15) [Str.ofString "amounts"] := fun _ _ _ _ _ _ us hl => match us, hl with | [_], _ => rfl
theorem s_plus_amounts : FnScope n_plus_amounts [Str.ofString "one", Str.ofString "other"] (defScope (topS 16)) := ⟨rfl, rfl, rfl, by decide +kernel, rfl, by decide +kernel, by decide +kernel⟩
theorem g_plus_amounts : BindsOf "plus_amounts" (topS 16) [Str.ofString "one", Str.ofString "other"] := fun _ _ _ _ _ _ us hl => match us, hl with | [_, _], _ => rfl
theorem s_fits_in : FnScope n_fits_in [Str.ofString "needs", Str.ofString "room"] (defScope (topS 17)) := ⟨rfl, rfl, rfl, by decide +kernel, rfl, by decide +kernel, by decide +kernel⟩
theorem g_fits_in : BindsOf "fits_in" (topS 17) [Str.ofString "needs", Str.ofString "room"] := fun _ _ _ _ _ _ us hl => match us, hl with | [_, _], _ => rfl
theorem s_minus_amounts : FnScope n_minus_amounts [Str.ofString "one", Str.ofString "other"] (defScope (topS 18)) := ⟨rfl, rfl, rfl, by decide +kernel, rfl, by decide +kernel, by decide +kernel⟩
theorem g_minus_amounts : BindsOf "minus_amounts" (topS 18) [Str.ofString "one", Str.ofString "other"] := fun _ _ _ _ _ _ us hl => match us, hl with | [_, _], _ => rfl
theorem s_lack : FnScope n_lack [Str.ofString "needs", Str.ofString "room"] (defScope (topS 19)) := ⟨rfl, rfl, rfl, by decide +kernel, rfl, by decide +kernel, by decide +kernel⟩
theorem g_lack : BindsOf "lack" (topS 19) [Str.ofString "needs", Str.ofString "room"] := fun _ _ _ _ _ _ us hl => match us, hl with | [_, _], _ => rfl
theorem s_times_in : FnScope n_times_in [Str.ofString "needs", Str.ofString "room"] (defScope (topS 20)) := ⟨rfl, rfl, rfl, by decide +kernel, rfl, by decide +kernel, by decide +kernel⟩
theorem g_times_in : BindsOf "times_in" (topS 20) [Str.ofString "needs", Str.ofString "room"] := fun _ _ _ _ _ _ us hl => match us, hl with | [_, _], _ => rfl
theorem s_sum_amounts : FnScope n_sum_amounts [Str.ofString "rows"] (defScope (topS 21)) := ⟨rfl, rfl, rfl, by decide +kernel, rfl, by decide +kernel, by decide +kernel⟩
theorem g_sum_amounts : BindsOf "sum_amounts" (topS 21) [Str.ofString "rows"] := fun _ _ _ _ _ _ us hl => match us, hl with | [_], _ => rfl
theorem s_divisor : FnScope n_divisor [Str.ofString "a", Str.ofString "b"] (defScope (topS 23)) := ⟨rfl, rfl, rfl, by decide +kernel, rfl, by decide +kernel, by decide +kernel⟩
theorem g_divisor : BindsOf "divisor" (topS 23) [Str.ofString "a", Str.ofString "b"] := fun _ _ _ _ _ _ us hl => match us, hl with | [_, _], _ => rfl
theorem s_fraction : FnScope n_fraction [Str.ofString "a", Str.ofString "b"] (defScope (topS 24)) := ⟨rfl, rfl, rfl, by decide +kernel, rfl, by decide +kernel, by decide +kernel⟩
theorem g_fraction : BindsOf "fraction" (topS 24) [Str.ofString "a", Str.ofString "b"] := fun _ _ _ _ _ _ us hl => match us, hl with | [_, _], _ => rfl
theorem s_middle : FnScope n_middle [Str.ofString "numbers"] (defScope (topS 26)) := ⟨rfl, rfl, rfl, by decide +kernel, rfl, by decide +kernel, by decide +kernel⟩
theorem g_middle : BindsOf "middle" (topS 26) [Str.ofString "numbers"] := fun _ _ _ _ _ _ us hl => match us, hl with | [_], _ => rfl
theorem s_at_part : FnScope n_at_part [Str.ofString "numbers", Str.ofString "part"] (defScope (topS 27)) := ⟨rfl, rfl, rfl, by decide +kernel, rfl, by decide +kernel, by decide +kernel⟩
theorem g_at_part : BindsOf "at_part" (topS 27) [Str.ofString "numbers", Str.ofString "part"] := fun _ _ _ _ _ _ us hl => match us, hl with | [_, _], _ => rfl
theorem s_mean : FnScope n_mean [Str.ofString "numbers"] (defScope (topS 28)) := ⟨rfl, rfl, rfl, by decide +kernel, rfl, by decide +kernel, by decide +kernel⟩
theorem g_mean : BindsOf "mean" (topS 28) [Str.ofString "numbers"] := fun _ _ _ _ _ _ us hl => match us, hl with | [_], _ => rfl
theorem s_spread_of : FnScope n_spread_of [Str.ofString "numbers"] (defScope (topS 29)) := ⟨rfl, rfl, rfl, by decide +kernel, rfl, by decide +kernel, by decide +kernel⟩
theorem g_spread_of : BindsOf "spread_of" (topS 29) [Str.ofString "numbers"] := fun _ _ _ _ _ _ us hl => match us, hl with | [_], _ => rfl
theorem s_evenness : FnScope n_evenness [Str.ofString "numbers"] (defScope (topS 30)) := ⟨rfl, rfl, rfl, by decide +kernel, rfl, by decide +kernel, by decide +kernel⟩
theorem g_evenness : BindsOf "evenness" (topS 30) [Str.ofString "numbers"] := fun _ _ _ _ _ _ us hl => match us, hl with | [_], _ => rfl
theorem s__law_draws : FnScope n__law_draws [Str.ofString "script", Str.ofString "many"] (defScope (topS 32)) := ⟨rfl, rfl, rfl, by decide +kernel, rfl, by decide +kernel, by decide +kernel⟩
theorem g__law_draws : BindsOf "_law_draws" (topS 32) [Str.ofString "script", Str.ofString "many"] := fun _ _ _ _ _ _ us hl => match us, hl with | [_, _], _ => rfl
theorem s__law_next : FnScope n__law_next [Str.ofString "w", Str.ofString "many"] (defScope (topS 33)) := ⟨rfl, rfl, rfl, by decide +kernel, rfl, by decide +kernel, by decide +kernel⟩
theorem g__law_next : BindsOf "_law_next" (topS 33) [Str.ofString "w", Str.ofString "many"] := fun _ _ _ _ _ _ us hl => match us, hl with | [_, _], _ => rfl
theorem s__law_says : FnScope n__law_says [Str.ofString "seen", Str.ofString "due"] (defScope (topS 35)) := ⟨rfl, rfl, rfl, by decide +kernel, rfl, by decide +kernel, by decide +kernel⟩
theorem g__law_says : BindsOf "_law_says" (topS 35) [Str.ofString "seen", Str.ofString "due"] := fun _ _ _ _ _ _ us hl => match us, hl with | [_, _], _ => rfl
theorem s__law_alike : FnScope n__law_alike [Str.ofString "seen", Str.ofString "due"] (defScope (topS 37)) := ⟨rfl, rfl, rfl, by decide +kernel, rfl, by decide +kernel, by decide +kernel⟩
theorem g__law_alike : BindsOf "_law_alike" (topS 37) [Str.ofString "seen", Str.ofString "due"] := fun _ _ _ _ _ _ us hl => match us, hl with | [_, _], _ => rfl
theorem s__law_amounts : FnScope n__law_amounts [Str.ofString "w"] (defScope (topS 38)) := ⟨rfl, rfl, rfl, by decide +kernel, rfl, by decide +kernel, by decide +kernel⟩
theorem g__law_amounts : BindsOf "_law_amounts" (topS 38) [Str.ofString "w"] := fun _ _ _ _ _ _ us hl => match us, hl with | [_], _ => rfl
theorem s__law_picks : FnScope n__law_picks [Str.ofString "w"] (defScope (topS 39)) := ⟨rfl, rfl, rfl, by decide +kernel, rfl, by decide +kernel, by decide +kernel⟩
theorem g__law_picks : BindsOf "_law_picks" (topS 39) [Str.ofString "w"] := fun _ _ _ _ _ _ us hl => match us, hl with | [_], _ => rfl
theorem s__law_all_labels : FnScope n__law_all_labels [] (defScope (topS 40)) := ⟨rfl, rfl, rfl, by decide +kernel, rfl, by decide +kernel, by decide +kernel⟩
theorem g__law_all_labels : BindsOf "_law_all_labels" (topS 40) [] := fun _ _ _ _ _ _ us hl => match us, hl with | [], _ => rfl
theorem s__law_is_picked : FnScope n__law_is_picked [Str.ofString "picks", Str.ofString "labels"] (defScope (topS 41)) := ⟨rfl, rfl, rfl, by decide +kernel, rfl, by decide +kernel, by decide +kernel⟩
theorem g__law_is_picked : BindsOf "_law_is_picked" (topS 41) [Str.ofString "picks", Str.ofString "labels"] := fun _ _ _ _ _ _ us hl => match us, hl with | [_, _], _ => rfl
theorem s__law_is_one : FnScope n__law_is_one [Str.ofString "seen", Str.ofString "upper", Str.ofString "lower"] (defScope (topS 42)) := ⟨rfl, rfl, rfl, by decide +kernel, rfl, by decide +kernel, by decide +kernel⟩
theorem g__law_is_one : BindsOf "_law_is_one" (topS 42) [Str.ofString "seen", Str.ofString "upper", Str.ofString "lower"] := fun _ _ _ _ _ _ us hl => match us, hl with | [_, _, _], _ => rfl
theorem s_law : FnScope n_law [Str.ofString "script"] (defScope (topS 43)) := ⟨rfl, rfl, rfl, by decide +kernel, rfl, by decide +kernel, by decide +kernel⟩
theorem g_law : BindsOf "law" (topS 43) [Str.ofString "script"] := fun _ _ _ _ _ _ us hl => match us, hl with | [_], _ => rfl
section
variable {K : PySem.W.Frag} {mg : Str → Option Value} {h : Heap}
theorem d_is_number (A : FnAt K "is_number" (topS 1)) (X : K.In h) (G : h.Ns mainGlobals mg) : Dd K mg prg fns "is_number" "is_number" 1 := ddOf A X G s_is_number (by decide +kernel) t_is_number rfl rfl (by decide) g_is_number rfl rfl (by decide +kernel)
theorem d_is_from (A : FnAt K "is_from" (topS 2)) (X : K.In h) (G : h.Ns mainGlobals mg) : Dd K mg prg fns "is_from" "is_from" 2 := ddOf A X G s_is_from (by decide +kernel) t_is_from rfl rfl (by decide) g_is_from rfl rfl (by decide +kernel)
theorem d_is_ascending (A : FnAt K "is_ascending" (topS 3)) (X : K.In h) (G : h.Ns mainGlobals mg) : Dd K mg prg fns "is_ascending" "is_ascending" 1 := ddOf A X G s_is_ascending (by decide +kernel) t_is_ascending rfl rfl (by decide) g_is_ascending rfl rfl (by decide +kernel)
theorem d_is_within (A : FnAt K "is_within" (topS 4)) (X : K.In h) (G : h.Ns mainGlobals mg) : Dd K mg prg fns "is_within" "is_within" 2 := ddOf A X G s_is_within (by decide +kernel) t_is_within rfl rfl (by decide) g_is_within rfl rfl (by decide +kernel)
theorem d_is_name (A : FnAt K "is_name" (topS 5)) (X : K.In h) (G : h.Ns mainGlobals mg) : Dd K mg prg fns "is_name" "is_name" 1 := ddOf A X G s_is_name (by decide +kernel) t_is_name rfl rfl (by decide) g_is_name rfl rfl (by decide +kernel)
theorem d_is_labels (A : FnAt K "is_labels" (topS 7)) (X : K.In h) (G : h.Ns mainGlobals mg) : Dd K mg prg fns "is_labels" "is_labels" 1 := ddOf A X G s_is_labels (by decide +kernel) t_is_labels rfl rfl (by decide) g_is_labels rfl rfl (by decide +kernel)
theorem d_is_word_set (A : FnAt K "is_word_set" (topS 8)) (X : K.In h) (G : h.Ns mainGlobals mg) : Dd K mg prg fns "is_word_set" "is_word_set" 1 := ddOf A X G s_is_word_set (by decide +kernel) t_is_word_set rfl rfl (by decide) g_is_word_set rfl rfl (by decide +kernel)
theorem d_is_picks (A : FnAt K "is_picks" (topS 9)) (X : K.In h) (G : h.Ns mainGlobals mg) : Dd K mg prg fns "is_picks" "is_picks" 1 := ddOf A X G s_is_picks (by decide +kernel) t_is_picks rfl rfl (by decide) g_is_picks rfl rfl (by decide +kernel)
theorem d_picked (A : FnAt K "picked" (topS 10)) (X : K.In h) (G : h.Ns mainGlobals mg) : Dd K mg prg fns "picked" "picked" 2 := ddOf A X G s_picked (by decide +kernel) t_picked rfl rfl (by decide) g_picked rfl rfl (by decide +kernel)
theorem d_narrower (A : FnAt K "narrower" (topS 11)) (X : K.In h) (G : h.Ns mainGlobals mg) : Dd K mg prg fns "narrower" "narrower" 2 := ddOf A X G s_narrower (by decide +kernel) t_narrower rfl rfl (by decide) g_narrower rfl rfl (by decide +kernel)
theorem d_both_picks (A : FnAt K "both_picks" (topS 12)) (X : K.In h) (G : h.Ns mainGlobals mg) : Dd K mg prg fns "both_picks" "both_picks" 2 := ddOf A X G s_both_picks (by decide +kernel) t_both_picks rfl rfl (by decide) g_both_picks rfl rfl (by decide +kernel)
theorem d_is_amounts (A : FnAt K "is_amounts" (topS 14)) (X : K.In h) (G : h.Ns mainGlobals mg) : Dd K mg prg fns "is_amounts" "is_amounts" 1 := ddOf A X G s_is_amounts (by decide +kernel) t_is_amounts rfl rfl (by decide) g_is_amounts rfl rfl (by decide +kernel)
theorem d_in_order (A : FnAt K "in_order" (topS 15)) (X : K.In h) (G : h.Ns mainGlobals mg) : Dd K mg prg fns "in_order" "in_order" 1 := ddOf A X G s_in_order (by decide +kernel) t_in_order rfl rfl (by decide) g_in_order rfl rfl (by decide +kernel)
theorem d_plus_amounts (A : FnAt K "plus_amounts" (topS 16)) (X : K.In h) (G : h.Ns mainGlobals mg) : Dd K mg prg fns "plus_amounts" "plus_amounts" 2 := ddOf A X G s_plus_amounts (by decide +kernel) t_plus_amounts rfl rfl (by decide) g_plus_amounts rfl rfl (by decide +kernel)
theorem d_fits_in (A : FnAt K "fits_in" (topS 17)) (X : K.In h) (G : h.Ns mainGlobals mg) : Dd K mg prg fns "fits_in" "fits_in" 2 := ddOf A X G s_fits_in (by decide +kernel) t_fits_in rfl rfl (by decide) g_fits_in rfl rfl (by decide +kernel)
theorem d_minus_amounts (A : FnAt K "minus_amounts" (topS 18)) (X : K.In h) (G : h.Ns mainGlobals mg) : Dd K mg prg fns "minus_amounts" "minus_amounts" 2 := ddOf A X G s_minus_amounts (by decide +kernel) t_minus_amounts rfl rfl (by decide) g_minus_amounts rfl rfl (by decide +kernel)
theorem d_lack (A : FnAt K "lack" (topS 19)) (X : K.In h) (G : h.Ns mainGlobals mg) : Dd K mg prg fns "lack" "lack" 2 := ddOf A X G s_lack (by decide +kernel) t_lack rfl rfl (by decide) g_lack rfl rfl (by decide +kernel)
theorem d_times_in (A : FnAt K "times_in" (topS 20)) (X : K.In h) (G : h.Ns mainGlobals mg) : Dd K mg prg fns "times_in" "times_in" 2 := ddOf A X G s_times_in (by decide +kernel) t_times_in rfl rfl (by decide) g_times_in rfl rfl (by decide +kernel)
theorem d_sum_amounts (A : FnAt K "sum_amounts" (topS 21)) (X : K.In h) (G : h.Ns mainGlobals mg) : Dd K mg prg fns "sum_amounts" "sum_amounts" 1 := ddOf A X G s_sum_amounts (by decide +kernel) t_sum_amounts rfl rfl (by decide) g_sum_amounts rfl rfl (by decide +kernel)
theorem d_divisor (A : FnAt K "divisor" (topS 23)) (X : K.In h) (G : h.Ns mainGlobals mg) : Dd K mg prg fns "divisor" "divisor" 2 := ddOf A X G s_divisor (by decide +kernel) t_divisor rfl rfl (by decide) g_divisor rfl rfl (by decide +kernel)
theorem d_fraction (A : FnAt K "fraction" (topS 24)) (X : K.In h) (G : h.Ns mainGlobals mg) : Dd K mg prg fns "fraction" "fraction" 2 := ddOf A X G s_fraction (by decide +kernel) t_fraction rfl rfl (by decide) g_fraction rfl rfl (by decide +kernel)
theorem d_middle (A : FnAt K "middle" (topS 26)) (X : K.In h) (G : h.Ns mainGlobals mg) : Dd K mg prg fns "middle" "middle" 1 := ddOf A X G s_middle (by decide +kernel) t_middle rfl rfl (by decide) g_middle rfl rfl (by decide +kernel)
theorem d_at_part (A : FnAt K "at_part" (topS 27)) (X : K.In h) (G : h.Ns mainGlobals mg) : Dd K mg prg fns "at_part" "at_part" 2 := ddOf A X G s_at_part (by decide +kernel) t_at_part rfl rfl (by decide) g_at_part rfl rfl (by decide +kernel)
theorem d_mean (A : FnAt K "mean" (topS 28)) (X : K.In h) (G : h.Ns mainGlobals mg) : Dd K mg prg fns "mean" "mean" 1 := ddOf A X G s_mean (by decide +kernel) t_mean rfl rfl (by decide) g_mean rfl rfl (by decide +kernel)
theorem d_spread_of (A : FnAt K "spread_of" (topS 29)) (X : K.In h) (G : h.Ns mainGlobals mg) : Dd K mg prg fns "spread_of" "spread_of" 1 := ddOf A X G s_spread_of (by decide +kernel) t_spread_of rfl rfl (by decide) g_spread_of rfl rfl (by decide +kernel)
theorem d_evenness (A : FnAt K "evenness" (topS 30)) (X : K.In h) (G : h.Ns mainGlobals mg) : Dd K mg prg fns "evenness" "evenness" 1 := ddOf A X G s_evenness (by decide +kernel) t_evenness rfl rfl (by decide) g_evenness rfl rfl (by decide +kernel)
theorem d__law_draws (A : FnAt K "_law_draws" (topS 32)) (X : K.In h) (G : h.Ns mainGlobals mg) : Dd K mg prg fns "_law_draws" "_law_draws" 2 := ddOf A X G s__law_draws (by decide +kernel) t__law_draws rfl rfl (by decide) g__law_draws rfl rfl (by decide +kernel)
theorem d__law_next (A : FnAt K "_law_next" (topS 33)) (X : K.In h) (G : h.Ns mainGlobals mg) : Dd K mg prg fns "_law_next" "_law_next" 2 := ddOf A X G s__law_next (by decide +kernel) t__law_next rfl rfl (by decide) g__law_next rfl rfl (by decide +kernel)
theorem d__law_says (A : FnAt K "_law_says" (topS 35)) (X : K.In h) (G : h.Ns mainGlobals mg) : Dd K mg prg fns "_law_says" "_law_says" 2 := ddOf A X G s__law_says (by decide +kernel) t__law_says rfl rfl (by decide) g__law_says rfl rfl (by decide +kernel)
theorem d__law_alike (A : FnAt K "_law_alike" (topS 37)) (X : K.In h) (G : h.Ns mainGlobals mg) : Dd K mg prg fns "_law_alike" "_law_alike" 2 := ddOf A X G s__law_alike (by decide +kernel) t__law_alike rfl rfl (by decide) g__law_alike rfl rfl (by decide +kernel)
theorem d__law_amounts (A : FnAt K "_law_amounts" (topS 38)) (X : K.In h) (G : h.Ns mainGlobals mg) : Dd K mg prg fns "_law_amounts" "_law_amounts" 1 := ddOf A X G s__law_amounts (by decide +kernel) t__law_amounts rfl rfl (by decide) g__law_amounts rfl rfl (by decide +kernel)
theorem d__law_picks (A : FnAt K "_law_picks" (topS 39)) (X : K.In h) (G : h.Ns mainGlobals mg) : Dd K mg prg fns "_law_picks" "_law_picks" 1 := ddOf A X G s__law_picks (by decide +kernel) t__law_picks rfl rfl (by decide) g__law_picks rfl rfl (by decide +kernel)
theorem d__law_all_labels (A : FnAt K "_law_all_labels" (topS 40)) (X : K.In h) (G : h.Ns mainGlobals mg) : Dd K mg prg fns "_law_all_labels" "_law_all_labels" 0 := ddOf A X G s__law_all_labels (by decide +kernel) t__law_all_labels rfl rfl (by decide) g__law_all_labels rfl rfl (by decide +kernel)
theorem d__law_is_picked (A : FnAt K "_law_is_picked" (topS 41)) (X : K.In h) (G : h.Ns mainGlobals mg) : Dd K mg prg fns "_law_is_picked" "_law_is_picked" 2 := ddOf A X G s__law_is_picked (by decide +kernel) t__law_is_picked rfl rfl (by decide) g__law_is_picked rfl rfl (by decide +kernel)
theorem d__law_is_one (A : FnAt K "_law_is_one" (topS 42)) (X : K.In h) (G : h.Ns mainGlobals mg) : Dd K mg prg fns "_law_is_one" "_law_is_one" 3 := ddOf A X G s__law_is_one (by decide +kernel) t__law_is_one rfl rfl (by decide) g__law_is_one rfl rfl (by decide +kernel)
theorem d_law (A : FnAt K "law" (topS 43)) (X : K.In h) (G : h.Ns mainGlobals mg) : Dd K mg prg fns "law" "law" 1 := ddOf A X G s_law (by decide +kernel) t_law rfl rfl (by decide) g_law rfl rfl (by decide +kernel)
theorem all_mk {l : PySem.W.OpenLaw} {w : World} {fa : Addr} (X : K.In h) (G : h.Ns mainGlobals mg) (hfa : mg ("law" : Str) = some (.ref fa)) (a0 : FnAt K "is_number" (topS 1)) (a1 : FnAt K "is_from" (topS 2)) (a2 : FnAt K "is_ascending" (topS 3)) (a3 : FnAt K "is_within" (topS 4)) (a4 : FnAt K "is_name" (topS 5)) (a5 : FnAt K "is_labels" (topS 7)) (a6 : FnAt K "is_word_set" (topS 8)) (a7 : FnAt K "is_picks" (topS 9)) (a8 : FnAt K "picked" (topS 10)) (a9 : FnAt K "narrower" (topS 11)) (a10 : FnAt K "both_picks" (topS 12)) (a11 : FnAt K "is_amounts" (topS 14)) (a12 : FnAt K "in_order" (topS 15)) (a13 : FnAt K "plus_amounts" (topS 16)) (a14 : FnAt K "fits_in" (topS 17)) (a15 : FnAt K "minus_amounts" (topS 18)) (a16 : FnAt K "lack" (topS 19)) (a17 : FnAt K "times_in" (topS 20)) (a18 : FnAt K "sum_amounts" (topS 21)) (a19 : FnAt K "divisor" (topS 23)) (a20 : FnAt K "fraction" (topS 24)) (a21 : FnAt K "middle" (topS 26)) (a22 : FnAt K "at_part" (topS 27)) (a23 : FnAt K "mean" (topS 28)) (a24 : FnAt K "spread_of" (topS 29)) (a25 : FnAt K "evenness" (topS 30)) (a26 : FnAt K "_law_draws" (topS 32)) (a27 : FnAt K "_law_next" (topS 33)) (a28 : FnAt K "_law_says" (topS 35)) (a29 : FnAt K "_law_alike" (topS 37)) (a30 : FnAt K "_law_amounts" (topS 38)) (a31 : FnAt K "_law_picks" (topS 39)) (a32 : FnAt K "_law_all_labels" (topS 40)) (a33 : FnAt K "_law_is_picked" (topS 41)) (a34 : FnAt K "_law_is_one" (topS 42)) (a35 : FnAt K "law" (topS 43)) (z0 : PySem.W.nsIn K mainGlobals "len" = some none) (z1 : PySem.W.nsIn K mainGlobals "all" = some none) (z2 : PySem.W.nsIn K mainGlobals "any" = some none) (z3 : PySem.W.nsIn K mainGlobals "sum" = some none) (z4 : PySem.W.nsIn K mainGlobals "min" = some none) (z5 : PySem.W.nsIn K mainGlobals "max" = some none) (z6 : PySem.W.nsIn K mainGlobals "abs" = some none) (z7 : PySem.W.nsIn K mainGlobals "int" = some none) (z8 : PySem.W.nsIn K mainGlobals "list" = some none) (z9 : PySem.W.nsIn K mainGlobals "tuple" = some none) (z10 : PySem.W.nsIn K mainGlobals "dict" = some none) (z11 : PySem.W.nsIn K mainGlobals "sorted" = some none) (z12 : PySem.W.nsIn K mainGlobals "bool" = some none) (z13 : PySem.W.nsIn K mainGlobals "str" = some none) (z14 : PySem.W.nsIn K mainGlobals "isinstance" = some none) (z15 : PySem.W.nsIn K mainGlobals "range" = some none) (z16 : PySem.W.nsIn K mainGlobals "set" = some none) :
    ∃ fd : FuncData, (∀ (s : Shared) (u : Value), BindsTo s fd ⟨[u], []⟩ [("script", u)]) ∧ ∀ base : Heap, K.In base → base.Ns mainGlobals mg → FnOk l.prog w K mg base (L2.CX l.prog w) (40 + 1) fa fd ["script"] (spOf K (fun _ _ _ _ => False) 1 (runF (callN prg 100000 40) 100000 ⟨1, 32, b_law⟩)) := by
  refine law_end X G hfa (fun x hx => ?_) ?_ a35 s_law (by decide +kernel) t_law rfl rfl (by decide) (fun _ _ _ _ _ _ _ _ => .of_eq rfl)
  · unfold bltNames at hx
    simp only [List.mem_cons, List.not_mem_nil, or_false] at hx
    rcases hx with rfl | rfl | rfl | rfl | rfl | rfl | rfl | rfl | rfl | rfl | rfl | rfl | rfl | rfl | rfl | rfl | rfl
    · exact PySem.W.mg_none_of X G z0
    · exact PySem.W.mg_none_of X G z1
    · exact PySem.W.mg_none_of X G z2
    · exact PySem.W.mg_none_of X G z3
    · exact PySem.W.mg_none_of X G z4
    · exact PySem.W.mg_none_of X G z5
    · exact PySem.W.mg_none_of X G z6
    · exact PySem.W.mg_none_of X G z7
    · exact PySem.W.mg_none_of X G z8
    · exact PySem.W.mg_none_of X G z9
    · exact PySem.W.mg_none_of X G z10
    · exact PySem.W.mg_none_of X G z11
    · exact PySem.W.mg_none_of X G z12
    · exact PySem.W.mg_none_of X G z13
    · exact PySem.W.mg_none_of X G z14
    · exact PySem.W.mg_none_of X G z15
    · exact PySem.W.mg_none_of X G z16
  · unfold fns
    exact List.forall_mem_cons.mpr ⟨d_is_number a0 X G, List.forall_mem_cons.mpr ⟨d_is_from a1 X G, List.forall_mem_cons.mpr ⟨d_is_ascending a2 X G, List.forall_mem_cons.mpr ⟨d_is_within a3 X G, List.forall_mem_cons.mpr ⟨d_is_name a4 X G, List.forall_mem_cons.mpr ⟨d_is_labels a5 X G, List.forall_mem_cons.mpr ⟨d_is_word_set a6 X G, List.forall_mem_cons.mpr ⟨d_is_picks a7 X G, List.forall_mem_cons.mpr ⟨d_picked a8 X G, List.forall_mem_cons.mpr ⟨d_narrower a9 X G, List.forall_mem_cons.mpr ⟨d_both_picks a10 X G, List.forall_mem_cons.mpr ⟨d_is_amounts a11 X G, List.forall_mem_cons.mpr ⟨d_in_order a12 X G, List.forall_mem_cons.mpr ⟨d_plus_amounts a13 X G, List.forall_mem_cons.mpr ⟨d_fits_in a14 X G, List.forall_mem_cons.mpr ⟨d_minus_amounts a15 X G, List.forall_mem_cons.mpr ⟨d_lack a16 X G, List.forall_mem_cons.mpr ⟨d_times_in a17 X G, List.forall_mem_cons.mpr ⟨d_sum_amounts a18 X G, List.forall_mem_cons.mpr ⟨d_divisor a19 X G, List.forall_mem_cons.mpr ⟨d_fraction a20 X G, List.forall_mem_cons.mpr ⟨d_middle a21 X G, List.forall_mem_cons.mpr ⟨d_at_part a22 X G, List.forall_mem_cons.mpr ⟨d_mean a23 X G, List.forall_mem_cons.mpr ⟨d_spread_of a24 X G, List.forall_mem_cons.mpr ⟨d_evenness a25 X G, List.forall_mem_cons.mpr ⟨d__law_draws a26 X G, List.forall_mem_cons.mpr ⟨d__law_next a27 X G, List.forall_mem_cons.mpr ⟨d__law_says a28 X G, List.forall_mem_cons.mpr ⟨d__law_alike a29 X G, List.forall_mem_cons.mpr ⟨d__law_amounts a30 X G, List.forall_mem_cons.mpr ⟨d__law_picks a31 X G, List.forall_mem_cons.mpr ⟨d__law_all_labels a32 X G, List.forall_mem_cons.mpr ⟨d__law_is_picked a33 X G, List.forall_mem_cons.mpr ⟨d__law_is_one a34 X G, List.forall_mem_cons.mpr ⟨d_law a35 X G, (fun _ q => by cases q)⟩⟩⟩⟩⟩⟩⟩⟩⟩⟩⟩⟩⟩⟩⟩⟩⟩⟩⟩⟩⟩⟩⟩⟩⟩⟩⟩⟩⟩⟩⟩⟩⟩⟩⟩⟩
end
end K4
open PySem PySem.W PyProof.Rows
set_option maxHeartbeats 0 in
set_option pp.maxSteps 60 in
set_option pp.deepTerms false in
theorem PySem.Challenge.cw_allplaced_k04_amounts_labels_and_numbers_holds : PySem.Challenge.rw_allplaced_k04_amounts_labels_and_numbers.Holds := by
  w_on; o_law; k_head; (case hw => w_witness2)
  k_fill
  refine Mi.law_walk (l := PySem.Challenge.rw_allplaced_k04_amounts_labels_and_numbers) (k := 40 + 1) (XR := fun _ _ _ _ => False) rfl rfl ⟨rfl, by decide, by decide⟩ K4.law_true (fun w h Y => PySem.W.kIn_of Y) ?F
  case F =>
    intro w mg fa h KX G hmg
    refine' K4.all_mk KX G hmg ?a0 ?a1 ?a2 ?a3 ?a4 ?a5 ?a6 ?a7 ?a8 ?a9 ?a10 ?a11 ?a12 ?a13 ?a14 ?a15 ?a16 ?a17 ?a18 ?a19 ?a20 ?a21 ?a22 ?a23 ?a24 ?a25 ?a26 ?a27 ?a28 ?a29 ?a30 ?a31 ?a32 ?a33 ?a34 ?a35 ?z0 ?z1 ?z2 ?z3 ?z4 ?z5 ?z6 ?z7 ?z8 ?z9 ?z10 ?z11 ?z12 ?z13 ?z14 ?z15 ?z16
    (case a0 => (refine' Mi.fnAt ?a ?l ?c ?k; (case a => k_is); (case l => k_is); (case c => k_is); (case k => k_is)))
    (case a1 => (refine' Mi.fnAt ?a ?l ?c ?k; (case a => k_is); (case l => k_is); (case c => k_is); (case k => k_is)))
    (case a2 => (refine' Mi.fnAt ?a ?l ?c ?k; (case a => k_is); (case l => k_is); (case c => k_is); (case k => k_is)))
    (case a3 => (refine' Mi.fnAt ?a ?l ?c ?k; (case a => k_is); (case l => k_is); (case c => k_is); (case k => k_is)))
    (case a4 => (refine' Mi.fnAt ?a ?l ?c ?k; (case a => k_is); (case l => k_is); (case c => k_is); (case k => k_is)))
    (case a5 => (refine' Mi.fnAt ?a ?l ?c ?k; (case a => k_is); (case l => k_is); (case c => k_is); (case k => k_is)))
    (case a6 => (refine' Mi.fnAt ?a ?l ?c ?k; (case a => k_is); (case l => k_is); (case c => k_is); (case k => k_is)))
    (case a7 => (refine' Mi.fnAt ?a ?l ?c ?k; (case a => k_is); (case l => k_is); (case c => k_is); (case k => k_is)))
    (case a8 => (refine' Mi.fnAt ?a ?l ?c ?k; (case a => k_is); (case l => k_is); (case c => k_is); (case k => k_is)))
    (case a9 => (refine' Mi.fnAt ?a ?l ?c ?k; (case a => k_is); (case l => k_is); (case c => k_is); (case k => k_is)))
    (case a10 => (refine' Mi.fnAt ?a ?l ?c ?k; (case a => k_is); (case l => k_is); (case c => k_is); (case k => k_is)))
    (case a11 => (refine' Mi.fnAt ?a ?l ?c ?k; (case a => k_is); (case l => k_is); (case c => k_is); (case k => k_is)))
    (case a12 => (refine' Mi.fnAt ?a ?l ?c ?k; (case a => k_is); (case l => k_is); (case c => k_is); (case k => k_is)))
    (case a13 => (refine' Mi.fnAt ?a ?l ?c ?k; (case a => k_is); (case l => k_is); (case c => k_is); (case k => k_is)))
    (case a14 => (refine' Mi.fnAt ?a ?l ?c ?k; (case a => k_is); (case l => k_is); (case c => k_is); (case k => k_is)))
    (case a15 => (refine' Mi.fnAt ?a ?l ?c ?k; (case a => k_is); (case l => k_is); (case c => k_is); (case k => k_is)))
    (case a16 => (refine' Mi.fnAt ?a ?l ?c ?k; (case a => k_is); (case l => k_is); (case c => k_is); (case k => k_is)))
    (case a17 => (refine' Mi.fnAt ?a ?l ?c ?k; (case a => k_is); (case l => k_is); (case c => k_is); (case k => k_is)))
    (case a18 => (refine' Mi.fnAt ?a ?l ?c ?k; (case a => k_is); (case l => k_is); (case c => k_is); (case k => k_is)))
    (case a19 => (refine' Mi.fnAt ?a ?l ?c ?k; (case a => k_is); (case l => k_is); (case c => k_is); (case k => k_is)))
    (case a20 => (refine' Mi.fnAt ?a ?l ?c ?k; (case a => k_is); (case l => k_is); (case c => k_is); (case k => k_is)))
    (case a21 => (refine' Mi.fnAt ?a ?l ?c ?k; (case a => k_is); (case l => k_is); (case c => k_is); (case k => k_is)))
    (case a22 => (refine' Mi.fnAt ?a ?l ?c ?k; (case a => k_is); (case l => k_is); (case c => k_is); (case k => k_is)))
    (case a23 => (refine' Mi.fnAt ?a ?l ?c ?k; (case a => k_is); (case l => k_is); (case c => k_is); (case k => k_is)))
    (case a24 => (refine' Mi.fnAt ?a ?l ?c ?k; (case a => k_is); (case l => k_is); (case c => k_is); (case k => k_is)))
    (case a25 => (refine' Mi.fnAt ?a ?l ?c ?k; (case a => k_is); (case l => k_is); (case c => k_is); (case k => k_is)))
    (case a26 => (refine' Mi.fnAt ?a ?l ?c ?k; (case a => k_is); (case l => k_is); (case c => k_is); (case k => k_is)))
    (case a27 => (refine' Mi.fnAt ?a ?l ?c ?k; (case a => k_is); (case l => k_is); (case c => k_is); (case k => k_is)))
    (case a28 => (refine' Mi.fnAt ?a ?l ?c ?k; (case a => k_is); (case l => k_is); (case c => k_is); (case k => k_is)))
    (case a29 => (refine' Mi.fnAt ?a ?l ?c ?k; (case a => k_is); (case l => k_is); (case c => k_is); (case k => k_is)))
    (case a30 => (refine' Mi.fnAt ?a ?l ?c ?k; (case a => k_is); (case l => k_is); (case c => k_is); (case k => k_is)))
    (case a31 => (refine' Mi.fnAt ?a ?l ?c ?k; (case a => k_is); (case l => k_is); (case c => k_is); (case k => k_is)))
    (case a32 => (refine' Mi.fnAt ?a ?l ?c ?k; (case a => k_is); (case l => k_is); (case c => k_is); (case k => k_is)))
    (case a33 => (refine' Mi.fnAt ?a ?l ?c ?k; (case a => k_is); (case l => k_is); (case c => k_is); (case k => k_is)))
    (case a34 => (refine' Mi.fnAt ?a ?l ?c ?k; (case a => k_is); (case l => k_is); (case c => k_is); (case k => k_is)))
    (case a35 => (refine' Mi.fnAt ?a ?l ?c ?k; (case a => k_is); (case l => k_is); (case c => k_is); (case k => k_is)))
    (case z0 => k_is)
    (case z1 => k_is)
    (case z2 => k_is)
    (case z3 => k_is)
    (case z4 => k_is)
    (case z5 => k_is)
    (case z6 => k_is)
    (case z7 => k_is)
    (case z8 => k_is)
    (case z9 => k_is)
    (case z10 => k_is)
    (case z11 => k_is)
    (case z12 => k_is)
    (case z13 => k_is)
    (case z14 => k_is)
    (case z15 => k_is)
    (case z16 => k_is)

