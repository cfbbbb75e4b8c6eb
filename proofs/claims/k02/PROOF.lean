import PyProof.Rows.All
import Wide.All
import OpenK.AllK
import Wide.FinOn
import HandS.ForMost
import HandS.ForExc
import PyProof.ListMulRoad
import PyProof.FactsAll.tuple_2
import HandS.Base
import HandS.Call
import HandS.List
import HandS.TupMul
import KE.DataEq
import HandS.Wide
import HandS.TupAny
import HandS.Style
import HandS.IsInst
import HandS.SetFor
import HandS.CallSlots
import KE.GoesNew
import KE.GoesEnum
import KE.GoesZip
import KE.GoesMore
import HandS.Walk
import HandS.TryOnly
import PyProof.DictCompW
import KE.KEqDict
import HandS.Comp
import HandS.Dict
import HandS.More
import HandS.DictComp
import HandS.Conv
import PyProof.EqAt
import PyProof.EqKinds
import PyProof.TupleCall
import PyProof.Rows.SortShell
import KE.KSortTup
import HandS.Sort
import HandS.SortOrd
import HandS.SortRule
import KE.KStateDown
import HandS.ExcOwn
import PyProof.ExcBaseAll.ValueError
import HandS.Defaults
import HandS.Head0
import HandS.Head1
import HandS.Head2
import HandS.HeadEnd
import HandS.HeadHook1
import HandS.HeadHook2
import HandS.HeadHook3
import HandS.HeadHook4
import PySem.Challenge.RW_anybelt_k02_stories_with_told_lengths
set_option Elab.async false
set_option linter.all false
set_option autoImplicit false
set_option maxRecDepth 100000
/-! AnyD: data, a store, a small language and what it gives (partial: where it gives nothing, nothing is claimed). -/
namespace AB
open PySem

/-- a value: lists are values, but for those that are changed (ref n: the n-th cell of the store) -/
inductive D where
  | non | bl (b : Bool) | int (i : Int) | str (x : Str) | tup (xs : List D) | lst (xs : List D) | ref (n : Nat) | exc (c : Nat) (f : List D)

/-- a cell of the store: gone; a list; the script; a dict; an instance -/
inductive Cell where
  | dead | lst (xs : List D) | scr (ns : List Int) | dic (kvs : List (D × D)) | ins (c : Nat) (fs : List (Str × D))
abbrev Store := List Cell
/-- an exception: its class, its field -/
structure Ex where
  cls : Nat
  fld : List D
inductive R (α : Type) where
  | ok (a : α) (st : Store) | ex (e : Ex) (st : Store) | no
abbrev M (α : Type) := Store → R α
def bnd {α β : Type} (m : M α) (f : α → M β) : M β := fun st => match m st with
  | .ok a st' => f a st'
  | .ex e st' => .ex e st'
  | .no => .no
def ret {α : Type} (a : α) : M α := fun st => .ok a st
def non {α : Type} : M α := fun _ => .no
def lft {α : Type} : Option α → M α
  | some a => ret a
  | none => non

/-! ### equality of data, as == tells it -/
mutual
def D.eqb : D → D → Bool
  | .non, .non => true
  | .bl a, .bl b => a == b
  | .bl a, .int j => (if a then 1 else 0) == j
  | .int i, .bl b => i == (if b then 1 else 0)
  | .int i, .int j => i == j
  | .str x, .str y => x == y
  | .lst xs, .lst ys => D.eqbs xs ys
  | .tup xs, .tup ys => D.eqbs xs ys
  | _, _ => false
def D.eqbs : List D → List D → Bool
  | [], [] => true
  | x :: xs, y :: ys => D.eqb x y && D.eqbs xs ys
  | _, _ => false
end
mutual
/-- nothing of the store is in it -/
def D.pl : D → Bool
  | .tup xs => D.pls xs
  | .lst xs => D.pls xs
  | .ref _ => false
  | .exc _ _ => false
  | _ => true
def D.pls : List D → Bool
  | [] => true
  | x :: xs => D.pl x && D.pls xs
end
mutual
def D.dep : D → Nat
  | .tup xs => D.deps xs + 1
  | .lst xs => D.deps xs + 1
  | _ => 0
def D.deps : List D → Nat
  | [] => 0
  | x :: xs => max (D.dep x) (D.deps xs)
end
/-- a list of the store, as it stands, in the place of its name -/
def drf (st : Store) : D → D
  | .ref n => match st[n]? with
    | some (.lst xs) => .lst xs
    | some (.scr ns) => .lst (ns.map D.int)
    | _ => .ref n
  | d => d
/-- the same of lists that may be changed -/
def drl (st : Store) : D → D
  | .ref n => match st[n]? with
    | some (.lst xs) => .lst xs
    | _ => .ref n
  | d => d
def eqP (x y : D) : Option Bool := if x.pl && y.pl && decide (y.dep ≤ 60) then some (x.eqb y) else none

/-! ### operators -/
inductive Op where
  | add | sub | mul | fdiv | mod | pow
  deriving DecidableEq
inductive Co where
  | eq | ne | lt | le | gt | ge | isn | notn | inn | nin | iss | nis
  deriving DecidableEq
inductive Ty where
  | int | bool | str | tup | lst
  deriving DecidableEq
inductive Bi where
  | len | all | any | sorted | tuple | list | min2 | max2 | minL | maxL | abs | int | str | bool
  deriving DecidableEq
inductive Mt where
  | count | split | join | index | rjust
  deriving DecidableEq
def szLine : Nat := 16777216
def opP : Op → D → D → Option D
  | .add, .int i, .int j => some (.int (i + j))
  | .add, .str x, .str y => if x.length + y.length ≤ szLine then some (.str (x ++ y)) else none
  | .add, .tup xs, .tup ys => if xs.length + ys.length ≤ szLine then some (.tup (xs ++ ys)) else none
  | .add, .lst xs, .lst ys => if xs.length + ys.length ≤ szLine then some (.lst (xs ++ ys)) else none
  | .sub, .int i, .int j => some (.int (i - j))
  | .mul, .int i, .int j => if i.natAbs < 2 ^ 64 ∨ j.natAbs < 2 ^ 64 then some (.int (i * j)) else none
  | .mul, .lst xs, .int k => if k.natAbs < 2 ^ 24 ∧ xs.length * k.toNat ≤ szLine then some (.lst (List.replicate k.toNat xs).flatten) else none
  | .mul, .tup xs, .int k => if xs ≠ [] ∧ 1 ≤ k ∧ k ≤ 1000 ∧ xs.length ≤ 1000 then some (.tup (List.replicate k.toNat xs).flatten) else none
  | .fdiv, .int i, .int j => if 0 < j ∧ j.natAbs < 2 ^ 200 then some (.int (i / j)) else none
  | .mod, .int i, .int j => if 0 < j then some (.int (i % j)) else none
  | .pow, .int i, .int j => if 0 ≤ j ∧ j ≤ 1000 ∧ i.natAbs < 2 ^ 64 then some (.int (i ^ j.toNat)) else none
  | _, _, _ => none
def opM (o : Op) (x y : D) : M D := fun st => lft (opP o (drl st x) (drl st y)) st
def inP (x : D) (ys : List D) : Option Bool := if x.pl && decide (x.dep ≤ 60) && D.pls ys then some (ys.any fun y => y.eqb x) else none
def isNon : D → Bool
  | .non => true
  | _ => false
def coP : Co → D → D → Option Bool
  | .eq, x, y => eqP x y
  | .ne, x, y => (eqP x y).map (!·)
  | .lt, .int i, .int j => some (decide (i < j))
  | .lt, .str x, .str y => some (decide (x.cps.toList < y.cps.toList))
  | .le, .int i, .int j => some (decide (i ≤ j))
  | .gt, .int i, .int j => some (decide (j < i))
  | .ge, .int i, .int j => some (decide (j ≤ i))
  | .isn, x, .non => match x with
    | .exc _ _ => none
    | _ => some (isNon x)
  | .notn, x, .non => match x with
    | .exc _ _ => none
    | _ => some (!isNon x)
  | .iss, .bl a, .bl b => some (decide (a = b))
  | .nis, .bl a, .bl b => some (!decide (a = b))
  | .inn, x, .tup ys => inP x ys
  | .inn, x, .lst ys => inP x ys
  | .inn, .str x, .str z => if x.cps.size = 1 then some (decide (x.cps.getD 0 0 ∈ z.cps.toList)) else none
  | .nin, x, .tup ys => (inP x ys).map (!·)
  | .nin, x, .lst ys => (inP x ys).map (!·)
  | _, _, _ => none
def coM (o : Co) (x y : D) : M D := fun st => lft ((coP o (drf st x) (drf st y)).map D.bl) st

/-! ### items, slices -/
def ixP (d : D) (i : Int) : Option D := match d with
  | .tup xs => L2.atI xs i
  | .lst xs => L2.atI xs i
  | .str z => if z.length ≤ szLine then (L2.atI z.cps.toList i).map fun c => .str ⟨#[c]⟩ else none
  | _ => none
def ixM (x y : D) : M D := fun st => match y with
  | .int i => lft (ixP (drf st x) i) st
  | _ => .no
def cutD (xs : List D) (lo hi : Option Int) : List D := (xs.drop (HT.sIx xs.length 0 lo)).take (HT.sIx xs.length xs.length hi - HT.sIx xs.length 0 lo)
def slP (d : D) (lo hi : Option Int) : Option D := match d with
  | .tup xs => some (.tup (cutD xs lo hi))
  | .lst xs => some (.lst (cutD xs lo hi))
  | .str z => if z.length ≤ szLine then some (.str (L2.cutS z lo hi)) else none
  | _ => none
def slM (x : D) (lo hi : Option Int) : M D := fun st => lft (slP (drf st x) lo hi) st
def toI : D → Option Int
  | .int i => some i
  | _ => none
def revP : D → Option D
  | .tup xs => some (.tup xs.reverse)
  | _ => none

/-! ### built-ins -/
def boolL : List D → Option (List Bool)
  | [] => some []
  | .bl b :: ds => (boolL ds).map (b :: ·)
  | _ => none
def intL : List D → Option (List Int)
  | [] => some []
  | .int i :: ds => (intL ds).map (i :: ·)
  | _ => none
def minI : List Int → Option Int
  | [] => none
  | [x] => some x
  | x :: xs => (minI xs).map fun m => if m < x then m else x
def maxI : List Int → Option Int
  | [] => none
  | [x] => some x
  | x :: xs => (maxI xs).map fun m => if x < m then m else x
/-- the first three intL of a row -/
def key3 : D → Option (Int × Int × Int)
  | .tup (.int a :: .int b :: .int c :: _) => some (a, b, c)
  | _ => none
def keys3 : List D → Option (List ((Int × Int × Int) × D))
  | [] => some []
  | d :: ds => match key3 d, keys3 ds with
    | some k, some ks => some ((k, d) :: ks)
    | _, _ => none
def le3 (x y : Int × Int × Int) : Bool := decide (x.1 < y.1 ∨ (x.1 = y.1 ∧ (x.2.1 < y.2.1 ∨ (x.2.1 = y.2.1 ∧ x.2.2 ≤ y.2.2))))
def insK (x : (Int × Int × Int) × D) : List ((Int × Int × Int) × D) → List ((Int × Int × Int) × D)
  | [] => [x]
  | y :: ys => if le3 x.1 y.1 then x :: y :: ys else y :: insK x ys
def srtK : List ((Int × Int × Int) × D) → List ((Int × Int × Int) × D)
  | [] => []
  | x :: xs => insK x (srtK xs)
def difK : List ((Int × Int × Int) × D) → Bool
  | [] => true
  | x :: xs => (xs.all fun y => decide (x.1 ≠ y.1)) && difK xs
/-- sorted, of rows whose first three items are intL, no two rows alike in them -/
def srtP (xs : List D) : Option (List D) := match keys3 xs with
  | some ks => if difK ks && decide (xs.length < 64) then some ((srtK ks).map (·.2)) else none
  | none => none
def biP : Bi → List D → Option D
  | .len, [.tup xs] => some (.int xs.length)
  | .len, [.lst xs] => some (.int xs.length)
  | .len, [.str z] => if z.length ≤ szLine then some (.int z.length) else none
  | .all, [.lst xs] => (boolL xs).map fun bs => .bl (bs.all id)
  | .any, [.lst xs] => (boolL xs).map fun bs => .bl (bs.any id)
  | .tuple, [.lst xs] => some (.tup xs)
  | .tuple, [.tup xs] => some (.tup xs)
  | .list, [.lst xs] => some (.lst xs)
  | .list, [.tup xs] => some (.lst xs)
  | .min2, [.int i, .int j] => some (.int (if j < i then j else i))
  | .max2, [.int i, .int j] => some (.int (if j > i then j else i))
  | .minL, [.lst xs] => (intL xs).bind fun ns => (minI ns).map D.int
  | .maxL, [.lst xs] => (intL xs).bind fun ns => (maxI ns).map D.int
  | .abs, [.int i] => some (.int (if i < 0 then -i else i))
  | .int, [.int i] => some (.int i)
  | .int, [.bl b] => some (.int (if b then 1 else 0))
  | .bool, [.bl b] => some (.bl b)
  | .sorted, [.lst xs] => (srtP xs).map D.lst
  | _, _ => none
def biM (b : Bi) (xs : List D) : M D := fun st => lft (biP b (xs.map (drf st))) st
def isiP : Ty → D → Option Bool
  | _, .exc _ _ => none
  | .int, .int _ => some true
  | .int, .bl _ => some true
  | .bool, .bl _ => some true
  | .str, .str _ => some true
  | .tup, .tup _ => some true
  | .lst, .lst _ => some true
  | _, .ref _ => none
  | _, _ => some false
def isiM (t : Ty) (x : D) : M D := fun st => lft ((isiP t (drf st x)).map D.bl) st
def mtP : Mt → D → List D → Option D
  | .count, .lst xs, [y] => match y with
    | .bl b => (boolL xs).map fun bs => .int ((bs.filter (· == b)).length : Nat)
    | _ => none
  | _, _, _ => none
def lsM (o : D) : M Unit := fun st => match drf st o with
  | .lst _ => .ok () st
  | _ => .no
def mtM (m : Mt) (o : D) (xs : List D) : M D := fun st => lft (mtP m (drf st o) xs) st

/-! ### the language -/
mutual
inductive T where
  | n (i : Nat) | t (ts : Ts)
inductive Ts where
  | nil | cons (t : T) (ts : Ts)
end
mutual
inductive E where
  | c (d : D) | v (i : Nat)
  | bin (o : Op) (a b : E) | neg (a : E) | nt (a : E) | and (a b : E) | or (a b : E) | ite (t a b : E)
  | cmp (o : Co) (a b : E) | chn (o p : Co) (a b c : E)
  | tup (es : Es) | lst (es : Es) | new (e : E)
  | ix (a i : E) | sll (a lo : E) | slh (a hi : E) | slb (a lo hi : E) | rev (a : E)
  | call (f : Nat) (es : Es) | bi (b : Bi) (es : Es) | isi (e : E) (t : Ty) | mt (m : Mt) (o : E) (es : Es)
  | lrng (a b : E) | xis (i c : Nat) | xfl (i : Nat)
  | comp (elt : E) (tg : T) (it : I) (cond : E) (own : List Nat)
  | comp2 (elt : E) (tg : T) (it : I) (cond : E) (tg1 : T) (it1 : I) (cond1 : E) (own own1 : List Nat)
  | keys (elt : E) (tg : T) (it : I) (cond : E) (own : List Nat)
inductive Es where
  | nil | cons (e : E) (es : Es)
/-- what is walked -/
inductive I where
  | ov (e : E) | rng1 (a : E) | rng2 (a b : E) | enm (a : E) | zip (a b : E)
end
abbrev Env := List (Option D)
/-! a target takes a value -/
mutual
def asg : T → D → Env → Option Env
  | .n i, d, env => some (env.set i (some d))
  | .t ts, .tup xs, env => asgs ts xs env
  | .t ts, .lst xs, env => asgs ts xs env
  | .t _, _, _ => none
def asgs : Ts → List D → Env → Option Env
  | .nil, [], env => some env
  | .cons t ts, x :: xs, env => match asg t x env with
    | some env' => asgs ts xs env'
    | none => none
  | _, _, _ => none
end
def wipeE (env : Env) : List Nat → Env
  | [] => env
  | v :: vs => (wipeE env vs).set v none
def truth : D → Option Bool
  | .bl b => some b
  | _ => none
def items : D → Option (List D)
  | .lst xs => some xs
  | .tup xs => some xs
  | .str z => if z.length ≤ szLine then some (z.cps.toList.map fun c => .str ⟨#[c]⟩) else none
  | _ => none
def range (i : Int) : Nat → List D
  | 0 => []
  | n + 1 => .int i :: range (i + 1) n
def rngP : D → D → Option (List D)
  | .int i, .int j => if i.natAbs < 2 ^ 24 ∧ j.natAbs < 2 ^ 24 then some (range i (j - i).toNat) else none
  | _, _ => none
def enumD (i : Int) : List D → List D
  | [] => []
  | x :: xs => .tup [.int i, x] :: enumD (i + 1) xs
def zipD : List D → List D → List D
  | x :: xs, y :: ys => .tup [x, y] :: zipD xs ys
  | _, _ => []
/-- a list comprehension's turns: elt of each item that is let through -/
def compL (f : D → M (Option D)) : List D → M (List D)
  | [] => ret []
  | x :: xs => bnd (f x) fun o => bnd (compL f xs) fun ys => ret (match o with
    | some y => y :: ys
    | none => ys)
def catL (f : D → M (List D)) : List D → M (List D)
  | [] => ret []
  | x :: xs => bnd (f x) fun ys => bnd (catL f xs) fun zs => ret (ys ++ zs)
def addKey (k : D) (ks : List D) : List D := if ks.any (D.eqb k) then ks else ks ++ [k]
/-- a tuple of ints and texts, not of texts alone -/
def keyAt : D → Bool
  | .int _ => true
  | .str _ => true
  | _ => false
def isInt : D → Bool
  | .int _ => true
  | _ => false
def keyOk : D → Bool
  | .tup xs => xs.all keyAt && xs.any isInt
  | _ => false
def keysP (ys : List D) : Option (List D) := if ys.all keyOk then some (ys.foldl (fun ks k => addKey k ks) []) else none
def sizeOk (xs : List D) : M (List D) := if xs.length < szLine then ret xs else non
def vget : Option (Option D) → Option D
  | some (some (.exc _ _)) => none
  | some (some d) => some d
  | _ => none
def noex {α : Type} (m : M α) : M α := fun st => match m st with
  | .ok a st' => .ok a st'
  | _ => .no
section
variable (C : Nat → List D → M D) (sub : Nat → Nat → Bool)
mutual
def ev : E → Env → M D
  | .c d, _ => ret d
  | .v i, env => lft (vget env[i]?)
  | .xis i c, env => match env[i]? with
    | some (some (.exc d _)) => ret (.bl (sub d c))
    | _ => non
  | .xfl i, env => match env[i]? with
    | some (some (.exc _ [f])) => ret f
    | _ => non
  | .bin o a b, env => bnd (ev a env) fun x => bnd (ev b env) fun y => opM o x y
  | .neg a, env => bnd (ev a env) fun x => match x with
    | .int i => ret (.int (-i))
    | _ => non
  | .nt a, env => bnd (ev a env) fun x => bnd (lft (truth x)) fun b => ret (.bl (!b))
  | .and a b, env => bnd (ev a env) fun x => bnd (lft (truth x)) fun t => if t then ev b env else ret (.bl false)
  | .or a b, env => bnd (ev a env) fun x => bnd (lft (truth x)) fun t => if t then ret (.bl true) else ev b env
  | .ite t a b, env => bnd (ev t env) fun x => bnd (lft (truth x)) fun c => if c then ev a env else ev b env
  | .cmp o a b, env => bnd (ev a env) fun x => bnd (ev b env) fun y => coM o x y
  | .chn o p a b c, env => bnd (ev a env) fun x => bnd (ev b env) fun y => bnd (coM o x y) fun r => bnd (lft (truth r)) fun t => if t then bnd (ev c env) fun z => coM p y z else ret (.bl false)
  | .tup es, env => bnd (evs es env) fun xs => ret (.tup xs)
  | .lst es, env => bnd (evs es env) fun xs => ret (.lst xs)
  | .new e, env => bnd (ev e env) fun x => match x with
    | .lst xs => if D.pls xs then fun st => .ok (.ref st.length) (st ++ [.lst xs]) else non
    | _ => non
  | .ix a i, env => bnd (ev a env) fun x => bnd (ev i env) fun y => ixM x y
  | .sll a lo, env => bnd (ev a env) fun x => bnd (ev lo env) fun l => bnd (lft (toI l)) fun i => slM x (some i) none
  | .slh a hi, env => bnd (ev a env) fun x => bnd (ev hi env) fun h => bnd (lft (toI h)) fun j => slM x none (some j)
  | .slb a lo hi, env => bnd (ev a env) fun x => bnd (ev lo env) fun l => bnd (lft (toI l)) fun i => bnd (ev hi env) fun h => bnd (lft (toI h)) fun j => slM x (some i) (some j)
  | .rev a, env => bnd (ev a env) fun x => lft (revP x)
  | .call f es, env => bnd (evs es env) fun xs => C f xs
  | .bi b es, env => bnd (evs es env) fun xs => biM b xs
  | .isi e t, env => bnd (ev e env) fun x => isiM t x
  | .mt m o es, env => bnd (ev o env) fun x => bnd (lsM x) fun _ => bnd (evs es env) fun xs => mtM m x xs
  | .lrng a b, env => bnd (ev a env) fun x => bnd (ev b env) fun y => bnd (lft (rngP x y)) fun xs => bnd (sizeOk xs) fun xs => ret (.lst xs)
  | .comp elt tg it cond own, env => bnd (its it env) fun xs => bnd (noex (compL (fun x => match asg tg x (wipeE env own) with
      | some env' => bnd (ev cond env') fun t => bnd (lft (truth t)) fun b => if b then bnd (ev elt env') fun y => ret (some y) else ret none
      | none => non) xs)) fun ys => bnd (sizeOk ys) fun ys => ret (.lst ys)
  | .comp2 elt tg it cond tg1 it1 cond1 own own1, env => bnd (its it env) fun xs => bnd (noex (catL (fun x => match asg tg x (wipeE env own) with
      | some env' => bnd (ev cond env') fun t => bnd (lft (truth t)) fun b => if b then bnd (its it1 env') fun xs1 => compL (fun x1 => match asg tg1 x1 (wipeE env' own1) with
          | some env2 => bnd (ev cond1 env2) fun t1 => bnd (lft (truth t1)) fun b1 => if b1 then bnd (ev elt env2) fun y => ret (some y) else ret none
          | none => non) xs1 else ret []
      | none => non) xs)) fun ys => bnd (sizeOk ys) fun ys => ret (.lst ys)
  | .keys elt tg it cond own, env => bnd (its it env) fun xs => bnd (noex (compL (fun x => match asg tg x (wipeE env own) with
      | some env' => bnd (ev cond env') fun t => bnd (lft (truth t)) fun b => if b then bnd (ev elt env') fun y => ret (some y) else ret none
      | none => non) xs)) fun ys => bnd (sizeOk ys) fun ys => bnd (lft (keysP ys)) fun ks => ret (.lst ks)
def evs : Es → Env → M (List D)
  | .nil, _ => ret []
  | .cons e es, env => bnd (ev e env) fun x => bnd (evs es env) fun xs => ret (x :: xs)
def its : I → Env → M (List D)
  | .ov e, env => bnd (ev e env) fun x => lft (items x)
  | .rng1 a, env => bnd (ev a env) fun x => lft (rngP (.int 0) x)
  | .rng2 a b, env => bnd (ev a env) fun x => bnd (ev b env) fun y => lft (rngP x y)
  | .enm a, env => bnd (ev a env) fun x => bnd (lft (items x)) fun xs => ret (enumD 0 xs)
  | .zip a b, env => bnd (ev a env) fun x => bnd (ev b env) fun y => bnd (lft (items x)) fun xs => bnd (lft (items y)) fun ys => ret (zipD xs ys)
end
end

/-! ### statements -/
mutual
inductive S where
  | ex (e : E) | set (m : Nat) (tg : T) (e : E) | seti (o i e : E) | app (o e : E)
  | iff (t : E) (a b : Ss) | forr (tg : T) (it : I) (b : Ss) | whl (t : E) (b : Ss)
  | rt (e : E) | rtn | raise (c : Nat) | brk | cnt | pass
  | frz (i : Nat) (s : S)
  | trys (b : Ss) (hs : Hs)
inductive Ss where
  | nil | cons (s : S) (ss : Ss)
/-- handlers: the class, the name's slot, the suite -/
inductive Hs where
  | nil | cons (c : Nat) (i : Option Nat) (b : Ss) (hs : Hs)
end
inductive Fl where
  | nx (env : Env) | rt (d : D) | bk (env : Env) | ct (env : Env)
inductive RS where
  | ok (f : Fl) (st : Store) | ex (e : Ex) (env : Env) (st : Store) | no
abbrev MS := Store → RS
/-- an expression in a statement that stands at env -/
def onE {α : Type} (m : M α) (env : Env) (f : α → MS) : MS := fun st => match m st with
  | .ok a st' => f a st'
  | .ex e st' => .ex e env st'
  | .no => .no
def retS (f : Fl) : MS := fun st => .ok f st
def nonS : MS := fun _ => .no
/-- one statement behind another -/
def thenS (m : MS) (f : Env → MS) : MS := fun st => match m st with
  | .ok (.nx env) st' => f env st'
  | .ok fl st' => .ok fl st'
  | .ex e env st' => .ex e env st'
  | .no => .no
/-- the turns of a for -/
def forS (f : D → Env → MS) : List D → Env → MS
  | [], env => retS (.nx env)
  | x :: xs, env => fun st => match f x env st with
    | .ok (.nx env') st' => forS f xs env' st'
    | .ok (.ct env') st' => forS f xs env' st'
    | .ok (.bk env') st' => .ok (.nx env') st'
    | .ok (.rt d) st' => .ok (.rt d) st'
    | .ex e env' st' => .ex e env' st'
    | .no => .no
/-- the turns of a while, so many at most -/
def whlS (c : Env → M D) (f : Env → MS) : Nat → Env → MS
  | 0, _ => nonS
  | n + 1, env => onE (bnd (c env) fun x => lft (truth x)) env fun b => if b then fun st => match f env st with
    | .ok (.nx env') st' => whlS c f n env' st'
    | .ok (.ct env') st' => whlS c f n env' st'
    | .ok (.bk env') st' => .ok (.nx env') st'
    | .ok (.rt d) st' => .ok (.rt d) st'
    | .ex e env' st' => .ex e env' st'
    | .no => .no
    else retS (.nx env)
def setiM (o i d : D) : M Unit := fun st => match o, i with
  | .ref n, .int k => (match st[n]? with
    | some (.lst xs) => (match L2.ixN xs.length k with
      | some j => if d.pl then .ok () (st.set n (.lst (xs.set j d))) else .no
      | none => .no)
    | _ => .no)
  | _, _ => .no
def isLM (o : D) : M Unit := fun st => match o with
  | .ref n => (match st[n]? with
    | some (.lst _) => .ok () st
    | _ => .no)
  | _ => .no
def appM (o d : D) : M Unit := fun st => match o with
  | .ref n => (match st[n]? with
    | some (.lst xs) => if xs.length < szLine ∧ d.pl = true then .ok () (st.set n (.lst (xs ++ [d]))) else .no
    | _ => .no)
  | _ => .no
/-- a list of the store becomes a value: its cell is gone -/
def frzE (i : Nat) (env : Env) (f : Env → MS) : MS := fun st => match env[i]? with
  | some (some (.ref n)) => (match st[n]? with
    | some (.lst xs) => f (env.set i (some (.lst xs))) (st.set n .dead)
    | _ => .no)
  | _ => .no
section
variable (C : Nat → List D → M D) (sub : Nat → Nat → Bool) (W : Nat)
mutual
def evS : S → Env → MS
  | .ex e, env => onE (ev C sub e env) env fun _ => retS (.nx env)
  | .set _ tg e, env => onE (ev C sub e env) env fun d => match asg tg d env with
    | some env' => retS (.nx env')
    | none => nonS
  | .seti o i e, env => onE (bnd (ev C sub e env) fun d => bnd (ev C sub o env) fun x => bnd (ev C sub i env) fun y => setiM x y d) env fun _ => retS (.nx env)
  | .app o e, env => onE (bnd (ev C sub o env) fun x => bnd (isLM x) fun _ => bnd (ev C sub e env) fun d => appM x d) env fun _ => retS (.nx env)
  | .iff t a b, env => onE (bnd (ev C sub t env) fun x => lft (truth x)) env fun c => if c then evSs a env else evSs b env
  | .forr tg it b, env => onE (its C sub it env) env fun xs => forS (fun x env1 => match asg tg x env1 with
    | some env2 => evSs b env2
    | none => nonS) xs env
  | .whl t b, env => whlS (ev C sub t) (evSs b) W env
  | .rt e, env => onE (ev C sub e env) env fun d => retS (.rt d)
  | .rtn, _ => retS (.rt .non)
  | .raise c, env => fun st => .ex ⟨c, []⟩ env st
  | .brk, env => retS (.bk env)
  | .cnt, env => retS (.ct env)
  | .pass, env => retS (.nx env)
  | .frz i s, env => frzE i env fun env' => evS s env'
  | .trys b hs, env => fun st => match evSs b env st with
    | .ex e env' st' => evH hs e env' st'
    | r => r
def evSs : Ss → Env → MS
  | .nil, env => retS (.nx env)
  | .cons s ss, env => thenS (evS s env) fun env' => evSs ss env'
def evH : Hs → Ex → Env → MS
  | .nil, e, env => fun st => .ex e env st
  | .cons c i b hs, e, env => if sub e.cls c then (match i with
      | none => evSs b env
      | some j => fun st => match evSs b (env.set j (some (.exc e.cls e.fld))) st with
        | .ok (.nx env') st' => .ok (.nx (env'.set j none)) st'
        | .ok (.bk env') st' => .ok (.bk (env'.set j none)) st'
        | .ok (.ct env') st' => .ok (.ct (env'.set j none)) st'
        | r => r)
    else evH hs e env
end
end
/-- behind a call that hands back pure data, its own cells are gone -/
def cutS (v : D) (st st' : Store) : Store := if v.pl then st'.take st.length else st'
/-- a def: its parameters' number, its slots' number, its body -/
structure FD where
  np : Nat
  ns : Nat
  body : Ss
/-- what a def gives, calls so deep at most -/
def run (F : Nat → Option FD) (W : Nat) (sub : Nat → Nat → Bool) : Nat → Nat → List D → M D
  | 0, _, _ => non
  | d + 1, f, xs => match F f with
    | some fd => if xs.length = fd.np then fun st => match evSs (run F W sub d) sub W fd.body (xs.map some ++ List.replicate (fd.ns - fd.np) none) st with
        | .ok (.rt v) st' => .ok v (cutS v st st')
        | .ok (.nx _) st' => .ok .non (cutS .non st st')
        | .ok _ _ => .no
        | .ex e _ st' => .ex e st'
        | .no => .no
      else non
    | none => non
example (C : Nat → List D → M D) (sub : Nat → Nat → Bool) : ev C sub (.bin .add (.c (.int 1)) (.v 0)) [some (.int 2)] [] = .ok (.int 3) [] := by rfl
example (C : Nat → List D → M D) (sub : Nat → Nat → Bool) (x : Int) : ev C sub (.comp (.bin .add (.v 1) (.v 0)) (.n 1) (.ov (.lst (.cons (.c (.int 1)) (.cons (.c (.int 2)) .nil)))) (.c (.bl true)) [1]) [some (.int x), none] [] = .ok (.lst [.int (1 + x), .int (2 + x)]) [] := by rfl
end AB

set_option Elab.async false
set_option linter.all false
set_option autoImplicit false
set_option maxRecDepth 100000
/-! AnyW: how data stands in the heap of the layer. -/
namespace AB
open PySem PySem.Spec L2

theorem szLine_eq : szLine = sizeLine := by rw [sizeLine_eq]; rfl

/-- heap, addresses of the store's cells, store -/
structure Wd where
  H : Hp
  am : List Addr
  st : Store
  gh : Addr → Prop := fun _ => False
/-- what is being made, or may be written -/
def Gho : HO → Prop
  | .lst _ => True
  | .dT _ => True
  | _ => False
def Cell.liv : Cell → Bool
  | .dead => false
  | .scr _ => false
  | _ => true
/-- a cell that may be written stands at a -/
def Live (w : Wd) (a : Addr) : Prop := (∃ (n : Nat) (c : Cell), w.st[n]? = some c ∧ c.liv = true ∧ w.am[n]? = some a) ∨ w.gh a
/-- b comes behind a -/
structure LeW (a b : Wd) : Prop where
  keep : ∀ x o, a.H x = some o → ¬ Live a x → b.H x = some o
  pre : ∃ y, b.am = a.am ++ y
  liv : ∀ x, Live b x → Live a x ∨ a.H x = none
theorem LeW.refl (a : Wd) : LeW a a := ⟨fun _ _ h _ => h, ⟨[], by simp⟩, fun _ h => .inl h⟩
theorem LeW.nlive {a b : Wd} (l : LeW a b) {x : Addr} {o : HO} (h : a.H x = some o) (n : ¬ Live a x) : ¬ Live b x := fun z => by
  rcases l.liv x z with q | q
  · exact n q
  · rw [h] at q; cases q
theorem LeW.trans {a b c : Wd} (l : LeW a b) (m : LeW b c) : LeW a c := by
  refine ⟨fun x o h n => m.keep x o (l.keep x o h n) (l.nlive h n), ?_, fun x h => ?_⟩
  · obtain ⟨y, e⟩ := l.pre
    obtain ⟨z, f⟩ := m.pre
    exact ⟨y ++ z, by rw [f, e, List.append_assoc]⟩
  · rcases m.liv x h with q | q
    · exact l.liv x q
    · by_cases z : Live a x
      · exact .inl z
      · cases e : a.H x with
        | none => exact .inr rfl
        | some o =>
          rw [l.keep x o e z] at q
          cases q
theorem LeW.am {a b : Wd} (l : LeW a b) {n : Nat} {x : Addr} (h : a.am[n]? = some x) : b.am[n]? = some x := by
  obtain ⟨y, e⟩ := l.pre
  rw [e]
  obtain ⟨k, _⟩ := List.getElem?_eq_some_iff.mp h
  rw [List.getElem?_append_left k]
  exact h

/-- b comes behind a: and a's ghosts are as they were -/
structure Le (a b : Wd) : Prop extends LeW a b where
  ghk : ∀ x o, a.gh x → a.H x = some o → b.gh x ∧ b.H x = some o
theorem Le.refl (a : Wd) : Le a a := ⟨.refl a, fun _ _ g h => ⟨g, h⟩⟩
theorem Le.trans {a b c : Wd} (l : Le a b) (m : Le b c) : Le a c := ⟨l.toLeW.trans m.toLeW, fun x o g h => let ⟨g', h'⟩ := l.ghk x o g h; m.ghk x o g' h'⟩
/-! values -/
def isStr : D → Bool
  | .str _ => true
  | _ => false
/-- a tuple: its own object, or (of texts alone) a constant of the module -/
def TupAt (K : PySem.W.Frag) (H : Hp) (a : Addr) (xs : List D) (vs : List V) : Prop := H a = some (.tup vs) ∨ (SqT K H a vs ∧ xs.all isStr = true)
theorem TupAt.sq {K : PySem.W.Frag} {H : Hp} {a : Addr} {xs : List D} {vs : List V} (h : TupAt K H a xs vs) : SqT K H a vs := by
  rcases h with h | h
  · exact .inl (.inl h)
  · exact h.1
theorem TupAt.of {K : PySem.W.Frag} {H : Hp} {a : Addr} {xs : List D} {vs : List V} (h : H a = some (.tup vs)) : TupAt K H a xs vs := .inl h
section
variable (K : PySem.W.Frag) (off : Addr → Prop) (w : Wd)
mutual
def Rep : D → V → Prop
  | .non, v => v = .non
  | .bl b, v => v = .bl b
  | .int i, v => v = .int i
  | .str x, v => v = .str x
  | .tup xs, v => ∃ a vs, v = .ref a ∧ TupAt K w.H a xs vs ∧ Reps xs vs
  | .lst xs, v => ∃ a vs, v = .ref a ∧ w.H a = some (.lst vs) ∧ ¬ off a ∧ ¬ Live w a ∧ Reps xs vs
  | .ref n, v => ∃ a, v = .ref a ∧ w.am[n]? = some a
  | .exc _ _, _ => True
def Reps : List D → List V → Prop
  | [], vs => vs = []
  | d :: ds, vs => ∃ v r, vs = v :: r ∧ Rep d v ∧ Reps ds r
end
/-- the world is in order -/
structure OkW : Prop where
  len : w.am.length = w.st.length
  lst : ∀ (n : Nat) (xs : List D) (a : Addr), w.st[n]? = some (.lst xs) → w.am[n]? = some a → ∃ vs, w.H a = some (.lst vs) ∧ Reps K off w xs vs
  scr : ∀ (n : Nat) (ns : List Int) (a : Addr), w.st[n]? = some (.scr ns) → w.am[n]? = some a → (∃ o, w.H a = some (.frz o (.lst (ns.map V.int)))) ∨ ∀ H, SqL K H a (ns.map V.int)
  nol : ∀ (n : Nat) (c : Cell) (a : Addr), w.st[n]? = some c → w.am[n]? = some a → (∀ k, c ≠ .dic k) ∧ ∀ k f, c ≠ .ins k f
  inj : ∀ (n m : Nat) (c d : Cell) (a : Addr), w.st[n]? = some c → w.st[m]? = some d → c.liv = true → d.liv = true → w.am[n]? = some a → w.am[m]? = some a → n = m
  off : ∀ a, off a → (∃ o, w.H a = some o) ∧ ¬ Live w a
  gh : ∀ a, w.gh a → ∃ u, w.H a = some u ∧ Gho u
  pur : ∀ (n : Nat) (xs : List D), w.st[n]? = some (.lst xs) → D.pls xs = true
  ghd : ∀ (a : Addr) (n : Nat) (c : Cell), w.gh a → w.st[n]? = some c → c.liv = true → w.am[n]? ≠ some a
end
section
variable {K : PySem.W.Frag} {off off' : Addr → Prop} {w w' : Wd}
theorem OkW.live_lst (o : OkW K off w) {a : Addr} (l : Live w a) : ∃ u, w.H a = some u ∧ Gho u := by
  rcases l with ⟨n, c, e1, e2, e3⟩ | g
  case inr => exact o.gh a g
  obtain ⟨k1, k2⟩ := o.nol n c a e1 e3
  cases c with
  | dead => cases e2
  | scr _ => cases e2
  | lst xs => obtain ⟨vs, h, _⟩ := o.lst n xs a e1 e3; exact ⟨_, h, trivial⟩
  | dic k => exact absurd rfl (k1 k)
  | ins k f => exact absurd rfl (k2 k f)
theorem OkW.not_live (o : OkW K off w) {a : Addr} {u : HO} (h : w.H a = some u) (n : Gho u → False) : ¬ Live w a := fun l => by
  obtain ⟨v, e, q⟩ := o.live_lst l
  rw [h] at e
  cases e
  exact n q
/-- what is no list is not written -/
def Nlv (w : Wd) : Prop := ∀ (a : Addr) (u : HO), w.H a = some u → (Gho u → False) → ¬ Live w a
theorem OkW.nlv (o : OkW K off w) : Nlv w := fun _ _ h n => o.not_live h n
theorem LeW.sqt' (o : Nlv w) (l : LeW w w') {a : Addr} {vs : List V} (h : SqT K w.H a vs) : SqT K w'.H a vs := by
  rcases h with (h | ⟨u, h⟩) | h
  · exact .inl (.inl (l.keep _ _ h (o _ _ h fun z => z)))
  · exact .inl (.inr ⟨u, l.keep _ _ h (o _ _ h fun z => z)⟩)
  · exact .inr h
theorem LeW.sqt (o : OkW K off w) (l : LeW w w') {a : Addr} {vs : List V} (h : SqT K w.H a vs) : SqT K w'.H a vs := by
  rcases h with (h | ⟨u, h⟩) | h
  · exact .inl (.inl (l.keep _ _ h (o.not_live h fun z => z)))
  · exact .inl (.inr ⟨u, l.keep _ _ h (o.not_live h fun z => z)⟩)
  · exact .inr h
theorem TupAt.mono (o : Nlv w) (l : LeW w w') {a : Addr} {xs : List D} {vs : List V} (h : TupAt K w.H a xs vs) : TupAt K w'.H a xs vs := by
  rcases h with h | ⟨h, q⟩
  · exact .inl (l.keep _ _ h (o _ _ h fun z => z))
  · exact .inr ⟨l.sqt' o h, q⟩
mutual
theorem Rep.mono' (o : Nlv w) (l : LeW w w') : ∀ (d : D) (v : V), Rep K off w d v → Rep K off w' d v
  | .non, _, h => by simpa only [Rep] using h
  | .bl _, _, h => by simpa only [Rep] using h
  | .int _, _, h => by simpa only [Rep] using h
  | .str _, _, h => by simpa only [Rep] using h
  | .exc _ _, _, h => by simp only [Rep]
  | .tup xs, v, h => by
    simp only [Rep] at h ⊢
    obtain ⟨a, vs, e, h1, h2⟩ := h
    exact ⟨a, vs, e, h1.mono o l, Reps.mono' o l xs vs h2⟩
  | .lst xs, v, h => by
    simp only [Rep] at h ⊢
    obtain ⟨a, vs, e, h1, h2, h3, h4⟩ := h
    exact ⟨a, vs, e, l.keep _ _ h1 h3, h2, l.nlive h1 h3, Reps.mono' o l xs vs h4⟩
  | .ref n, v, h => by
    simp only [Rep] at h ⊢
    obtain ⟨a, e, h1⟩ := h
    exact ⟨a, e, l.am h1⟩
theorem Reps.mono' (o : Nlv w) (l : LeW w w') : ∀ (ds : List D) (vs : List V), Reps K off w ds vs → Reps K off w' ds vs
  | [], _, h => by simpa only [Reps] using h
  | d :: ds, vs, h => by
    simp only [Reps] at h ⊢
    obtain ⟨v, r, e, h1, h2⟩ := h
    exact ⟨v, r, e, Rep.mono' o l d v h1, Reps.mono' o l ds r h2⟩
end
theorem Rep.mono (o : OkW K off w) (l : Le w w') (d : D) (v : V) (h : Rep K off w d v) : Rep K off w' d v := Rep.mono' o.nlv l.toLeW d v h
theorem Reps.mono (o : OkW K off w) (l : Le w w') (ds : List D) (vs : List V) (h : Reps K off w ds vs) : Reps K off w' ds vs := Reps.mono' o.nlv l.toLeW ds vs h
mutual
/-- fewer addresses that may not be used -/
theorem Rep.less (s : ∀ a, off a → off' a) : ∀ (d : D) (v : V), Rep K off' w d v → Rep K off w d v
  | .non, _, h => by simpa only [Rep] using h
  | .bl _, _, h => by simpa only [Rep] using h
  | .int _, _, h => by simpa only [Rep] using h
  | .str _, _, h => by simpa only [Rep] using h
  | .exc _ _, _, h => by simp only [Rep]
  | .tup xs, v, h => by
    simp only [Rep] at h ⊢
    obtain ⟨a, vs, e, h1, h2⟩ := h
    exact ⟨a, vs, e, h1, Reps.less s xs vs h2⟩
  | .lst xs, v, h => by
    simp only [Rep] at h ⊢
    obtain ⟨a, vs, e, h1, h2, h3, h4⟩ := h
    exact ⟨a, vs, e, h1, fun z => h2 (s a z), h3, Reps.less s xs vs h4⟩
  | .ref n, v, h => by simpa only [Rep] using h
theorem Reps.less (s : ∀ a, off a → off' a) : ∀ (ds : List D) (vs : List V), Reps K off' w ds vs → Reps K off w ds vs
  | [], _, h => by simpa only [Reps] using h
  | d :: ds, vs, h => by
    simp only [Reps] at h ⊢
    obtain ⟨v, r, e, h1, h2⟩ := h
    exact ⟨v, r, e, Rep.less s d v h1, Reps.less s ds r h2⟩
end
mutual
/-- one more that may not be used, not there yet -/
theorem Rep.more {p : Addr} (n : w.H p = none) (s : ∀ a, off' a → off a ∨ a = p) : ∀ (d : D) (v : V), Rep K off w d v → Rep K off' w d v
  | .non, _, h => by simpa only [Rep] using h
  | .bl _, _, h => by simpa only [Rep] using h
  | .int _, _, h => by simpa only [Rep] using h
  | .str _, _, h => by simpa only [Rep] using h
  | .exc _ _, _, h => by simp only [Rep]
  | .tup xs, v, h => by
    simp only [Rep] at h ⊢
    obtain ⟨a, vs, e, h1, h2⟩ := h
    exact ⟨a, vs, e, h1, Reps.more n s xs vs h2⟩
  | .lst xs, v, h => by
    simp only [Rep] at h ⊢
    obtain ⟨a, vs, e, h1, h2, h3, h4⟩ := h
    refine ⟨a, vs, e, h1, fun z => ?_, h3, Reps.more n s xs vs h4⟩
    rcases s a z with q | q
    · exact h2 q
    · subst q; rw [n] at h1; cases h1
  | .ref m, v, h => by simpa only [Rep] using h
theorem Reps.more {p : Addr} (n : w.H p = none) (s : ∀ a, off' a → off a ∨ a = p) : ∀ (ds : List D) (vs : List V), Reps K off w ds vs → Reps K off' w ds vs
  | [], _, h => by simpa only [Reps] using h
  | d :: ds, vs, h => by
    simp only [Reps] at h ⊢
    obtain ⟨v, r, e, h1, h2⟩ := h
    exact ⟨v, r, e, Rep.more n s d v h1, Reps.more n s ds r h2⟩
end
theorem Reps.length : ∀ {ds : List D} {vs : List V}, Reps K off w ds vs → ds.length = vs.length
  | [], _, h => by simp only [Reps] at h; subst h; rfl
  | d :: ds, vs, h => by
    simp only [Reps] at h
    obtain ⟨v, r, e, h1, h2⟩ := h
    subst e
    simp [Reps.length h2]
theorem Reps.at_ : ∀ {ds : List D} {vs : List V} {i : Nat} {d : D}, Reps K off w ds vs → ds[i]? = some d → ∃ v, vs[i]? = some v ∧ Rep K off w d v
  | [], _, _, _, _, e => by simp at e
  | x :: ds, vs, i, d, h, e => by
    simp only [Reps] at h
    obtain ⟨v, r, e1, h1, h2⟩ := h
    subst e1
    cases i with
    | zero => simp at e; subst e; exact ⟨v, rfl, h1⟩
    | succ i => simpa using Reps.at_ h2 (by simpa using e)
theorem Reps.back : ∀ {ds : List D} {vs : List V} {i : Nat} {v : V}, Reps K off w ds vs → vs[i]? = some v → ∃ d, ds[i]? = some d ∧ Rep K off w d v := fun {ds vs i v} h e => by
  obtain ⟨k, _⟩ := List.getElem?_eq_some_iff.mp e
  have k2 : i < ds.length := by rw [h.length]; exact k
  obtain ⟨u, e2, h2⟩ := h.at_ (List.getElem?_eq_getElem k2)
  rw [e] at e2
  cases e2
  exact ⟨_, List.getElem?_eq_getElem k2, h2⟩
theorem Reps.nil : Reps K off w [] [] := by simp only [Reps]
theorem Reps.cons {d : D} {v : V} {ds : List D} {vs : List V} (h : Rep K off w d v) (t : Reps K off w ds vs) : Reps K off w (d :: ds) (v :: vs) := by
  simp only [Reps]; exact ⟨v, vs, rfl, h, t⟩
theorem Reps.append : ∀ {ds es : List D} {vs us : List V}, Reps K off w ds vs → Reps K off w es us → Reps K off w (ds ++ es) (vs ++ us)
  | [], _, _, _, h, t => by simp only [Reps] at h; subst h; exact t
  | d :: ds, es, vs, us, h, t => by
    simp only [Reps] at h
    obtain ⟨v, r, e, h1, h2⟩ := h
    subst e
    exact Reps.cons h1 (Reps.append h2 t)
theorem Reps.take : ∀ {ds : List D} {vs : List V} (n : Nat), Reps K off w ds vs → Reps K off w (ds.take n) (vs.take n)
  | _, _, 0, _ => by simp only [List.take_zero]; exact .nil
  | [], _, n + 1, h => by simp only [Reps] at h; subst h; exact .nil
  | d :: ds, vs, n + 1, h => by
    simp only [Reps] at h
    obtain ⟨v, r, e, h1, h2⟩ := h
    subst e
    exact Reps.cons h1 (Reps.take n h2)
theorem Reps.drop : ∀ {ds : List D} {vs : List V} (n : Nat), Reps K off w ds vs → Reps K off w (ds.drop n) (vs.drop n)
  | _, _, 0, h => h
  | [], _, n + 1, h => by simp only [Reps] at h; subst h; exact .nil
  | d :: ds, vs, n + 1, h => by
    simp only [Reps] at h
    obtain ⟨v, r, e, h1, h2⟩ := h
    subst e
    exact Reps.drop n h2
theorem Reps.reverse {ds : List D} {vs : List V} (h : Reps K off w ds vs) : Reps K off w ds.reverse vs.reverse := by
  induction ds generalizing vs with
  | nil => simp only [Reps] at h; subst h; exact .nil
  | cons d ds ih =>
    simp only [Reps] at h
    obtain ⟨v, r, e, h1, h2⟩ := h
    subst e
    rw [List.reverse_cons, List.reverse_cons]
    exact (ih h2).append (.cons h1 .nil)
theorem Reps.set : ∀ {ds : List D} {vs : List V} {d : D} {v : V} (i : Nat), Reps K off w ds vs → Rep K off w d v → Reps K off w (ds.set i d) (vs.set i v)
  | [], _, _, _, i, h, _ => by simp only [Reps] at h; subst h; simp only [List.set_nil]; exact .nil
  | x :: ds, vs, d, v, i, h, q => by
    simp only [Reps] at h
    obtain ⟨u, r, e, h1, h2⟩ := h
    subst e
    cases i with
    | zero => exact Reps.cons q h2
    | succ i => exact Reps.cons h1 (Reps.set i h2 q)
theorem Reps.rep {ds : List D} {vs : List V} (h : Reps K off w ds vs) : ∀ k : Nat, Reps K off w (List.replicate k ds).flatten (List.replicate k vs).flatten
  | 0 => by simpa using .nil
  | k + 1 => by
    rw [List.replicate_succ, List.replicate_succ, List.flatten_cons, List.flatten_cons]
    exact h.append (h.rep k)
theorem Reps.intL : ∀ {ds : List D} {vs : List V} {ns : List Int}, Reps K off w ds vs → AB.intL ds = some ns → vs = ns.map V.int
  | [], _, ns, h, e => by
    simp only [Reps] at h; simp only [AB.intL] at e; cases e; subst h; rfl
  | .int i :: ds, vs, ns, h, e => by
    simp only [Reps, Rep] at h
    obtain ⟨v, r, e1, h1, h2⟩ := h
    subst e1 h1
    simp only [AB.intL, Option.map_eq_some_iff] at e
    obtain ⟨ms, e2, rfl⟩ := e
    rw [Reps.intL h2 e2]; rfl
  | .non :: _, _, _, _, e => by simp [AB.intL] at e
  | .bl _ :: _, _, _, _, e => by simp [AB.intL] at e
  | .str _ :: _, _, _, _, e => by simp [AB.intL] at e
  | .tup _ :: _, _, _, _, e => by simp [AB.intL] at e
  | .lst _ :: _, _, _, _, e => by simp [AB.intL] at e
  | .ref _ :: _, _, _, _, e => by simp [AB.intL] at e
  | .exc _ _ :: _, _, _, _, e => by simp [AB.intL] at e
theorem Reps.boolL : ∀ {ds : List D} {vs : List V} {ns : List Bool}, Reps K off w ds vs → AB.boolL ds = some ns → vs = ns.map V.bl
  | [], _, ns, h, e => by
    simp only [Reps] at h; simp only [AB.boolL] at e; cases e; subst h; rfl
  | .bl i :: ds, vs, ns, h, e => by
    simp only [Reps, Rep] at h
    obtain ⟨v, r, e1, h1, h2⟩ := h
    subst e1 h1
    simp only [AB.boolL, Option.map_eq_some_iff] at e
    obtain ⟨ms, e2, rfl⟩ := e
    rw [Reps.boolL h2 e2]; rfl
  | .non :: _, _, _, _, e => by simp [AB.boolL] at e
  | .int _ :: _, _, _, _, e => by simp [AB.boolL] at e
  | .str _ :: _, _, _, _, e => by simp [AB.boolL] at e
  | .tup _ :: _, _, _, _, e => by simp [AB.boolL] at e
  | .lst _ :: _, _, _, _, e => by simp [AB.boolL] at e
  | .ref _ :: _, _, _, _, e => by simp [AB.boolL] at e
  | .exc _ _ :: _, _, _, _, e => by simp [AB.boolL] at e
theorem Reps.of_int : ∀ {ns : List Int}, Reps K off w (ns.map D.int) (ns.map V.int)
  | [] => .nil
  | n :: ns => .cons (by simp only [Rep]) (Reps.of_int (ns := ns))

/-! new objects -/
theorem Le.new {p : Addr} {o : HO} (n : w.H p = none) (nl : ¬ Live w p) : Le w { w with H := upd w.H p o } :=
  ⟨⟨fun x u h _ => by
    show upd w.H p o x = some u
    rw [upd_ne (ne_of_none h n)]; exact h, ⟨[], by simp⟩, fun x h => .inl h⟩, fun x u g h => ⟨g, by
    show upd w.H p o x = some u
    rw [upd_ne (ne_of_none h n)]; exact h⟩⟩
theorem OkW.nlive_new (ok : OkW K off w) {p : Addr} (n : w.H p = none) : ¬ Live w p := fun l => by
  obtain ⟨vs, e, _⟩ := ok.live_lst l
  rw [n] at e; cases e
theorem SqL.upd {K : PySem.W.Frag} {H : Hp} {p a : Addr} {o : HO} {xs : List V} (n : H p = none) (h : SqL K H a xs) : SqL K (L2.upd H p o) a xs := by
  rcases h with (h | ⟨u, h⟩) | h
  · exact .inl (.inl (by rw [upd_ne (ne_of_none h n)]; exact h))
  · exact .inl (.inr ⟨u, by rw [upd_ne (ne_of_none h n)]; exact h⟩)
  · exact .inr h
theorem OkW.sql (ok : OkW K off w) {n : Nat} {ns : List Int} {a : Addr} (h1 : w.st[n]? = some (.scr ns)) (h2 : w.am[n]? = some a) : SqL K w.H a (ns.map V.int) := by
  rcases ok.scr n ns a h1 h2 with ⟨u, h⟩ | h
  · exact .inl (.inr ⟨u, h⟩)
  · exact h _
theorem OkW.new (ok : OkW K off w) {p : Addr} {o : HO} (n : w.H p = none) : OkW K off { w with H := upd w.H p o } := by
  have le : Le w { w with H := upd w.H p o } := .new n (ok.nlive_new n)
  refine ⟨ok.len, fun m xs a e1 e2 => ?_, fun m ns a e1 e2 => ?_, ok.nol, ok.inj, fun a h => ?_, fun a h => ?_, ok.pur, ok.ghd⟩
  rotate_right
  · obtain ⟨vs, h1, h2⟩ := ok.gh a h
    refine ⟨vs, ?_, h2⟩
    show upd w.H p o a = _
    rw [upd_ne (ne_of_none h1 n)]; exact h1
  · obtain ⟨vs, h1, h2⟩ := ok.lst m xs a e1 e2
    refine ⟨vs, ?_, Reps.mono ok le xs vs h2⟩
    show upd w.H p o a = _
    rw [upd_ne (ne_of_none h1 n)]; exact h1
  · rcases ok.scr m ns a e1 e2 with ⟨u, h1⟩ | h1
    · refine .inl ⟨u, ?_⟩
      show upd w.H p o a = _
      rw [upd_ne (ne_of_none h1 n)]; exact h1
    · exact .inr h1
  · obtain ⟨⟨u, h1⟩, h2⟩ := ok.off a h
    refine ⟨⟨u, ?_⟩, h2⟩
    show upd w.H p o a = _
    rw [upd_ne (ne_of_none h1 n)]; exact h1
end
end AB

set_option Elab.async false
set_option linter.all false
set_option maxRecDepth 100000
set_option maxHeartbeats 4000000
/-! AnyM1: a tuple taken once. -/
namespace AB
open PySem PySem.Spec L2 PyProof.Rows
theorem tup_once (l : Addr) (its : Array Value) (n : Nat) (dx : Option Addr) (sl : Array (Option Value)) (u : Tok) :
    Meets (Builtin.«tuple.__mul__» ⟨[.ref l, .int 1 u], []⟩) (fun _ R s => s.heap.get? l = some { cls := .type "tuple", dict := dx, data := .seq its n, slots := sl } ∧ R (.ok (.ret (Value.ref l))) s) :=
  .of_wp fun prog w A R s hh => by
    obtain ⟨hp, g, d, tk, os⟩ := s
    obtain ⟨hl, hh⟩ := hh
    have f9 := AutoSeq1.idx_int
    wp_walk using wpAny_loadPart' hl
    exact ⟨_, rfl, hh⟩
theorem op_once {X : Cx} : OpR X (binaryOp .Mult) (fun x y H Q => ∃ l xs, x = .ref l ∧ y = .int 1 ∧ SqT X.K H l xs ∧ Q (.ref l) H) := by
  intro pins s σ H x y v u Q I rx ry h
  obtain ⟨l, xs, rfl, rfl, hT, q⟩ := h
  cases rx
  obtain ⟨t, rfl⟩ := ry
  obtain ⟨its, rv, ⟨⟨cl, dx, dat, sl⟩, ho, hc, n, hd⟩, hs⟩ := I.tuple hT
  simp only at hc hd
  subst hc hd
  refine wpAny_binaryOp_repeat_ref (T := "tuple") (U := "int") (by decide) ⟨_, ho, rfl⟩ (fun z => typeIs_int z 1 t) noFill_tuple_mul F.fills_int_mul F.slot_int_rmul repeat_tuple F.slot_int_index.lookup ?_
  refine call_meets F.slot_int_rmul (typeIs_int s 1 t) F.entry_int_rmul (F.args_int_rmul_2 _ _) (int_rmul_tuple 1 t l its.toArray n dx sl) ⟨ho, rfl, ⟨_, ho, rfl⟩, ?_⟩
  exact call_meets F.slot_tuple_mul ⟨_, ho, rfl⟩ F.entry_tuple_mul (F.args_tuple_mul_2 _ _) (tup_once l its.toArray n dx sl t) ⟨ho, .ref l, H, I, rfl, q⟩
end AB

set_option Elab.async false
set_option linter.all false
set_option autoImplicit false
set_option maxRecDepth 100000
/-! AnyO: the operators, by values. -/
namespace AB
open PySem PySem.Spec L2

/-- what a result may be: as the heap stands (not if it is known to be new), or with one new object -/
def Gives (K : PySem.W.Frag) (off : Addr → Prop) (w : Wd) (fr : Bool) (d : D) (Q : VK) : Prop :=
  (fr = false → ∀ v, Rep K off w d v → Q v w.H) ∧
    ∀ p o v, w.H p = none → Rep K off { w with H := upd w.H p o } d v → (∀ xs, d = .lst xs → ∃ vs, v = .ref p ∧ o = .lst vs ∧ Reps K off w xs vs) → Q v (upd w.H p o)

section
variable {K : PySem.W.Frag} {off : Addr → Prop} {w : Wd} {Q : VK}
/-- a list of the store that may be written, as it stands -/
def RepU (K : PySem.W.Frag) (off : Addr → Prop) (w : Wd) : D → V → Prop
  | .lst xs, v => ∃ a vs, v = .ref a ∧ w.H a = some (.lst vs) ∧ Reps K off w xs vs
  | d, v => Rep K off w d v
/-- .. or read alone -/
def RepR (K : PySem.W.Frag) (off : Addr → Prop) (w : Wd) : D → V → Prop
  | .lst xs, v => ∃ a vs, v = .ref a ∧ SqL K w.H a vs ∧ Reps K off w xs vs
  | d, v => Rep K off w d v
theorem Rep.u {d : D} {v : V} (h : Rep K off w d v) : RepU K off w d v := by
  cases d with
  | lst xs =>
    simp only [Rep] at h
    obtain ⟨a, vs, e, h1, _, _, h2⟩ := h
    exact ⟨a, vs, e, h1, h2⟩
  | _ => exact h
theorem RepU.r {d : D} {v : V} (h : RepU K off w d v) : RepR K off w d v := by
  cases d with
  | lst xs =>
    obtain ⟨a, vs, e, h1, h2⟩ := h
    exact ⟨a, vs, e, SqL.of h1, h2⟩
  | _ => exact h
theorem Rep.drl (ok : OkW K off w) {d : D} {v : V} (h : Rep K off w d v) : RepU K off w (AB.drl w.st d) v := by
  cases d with
  | ref n =>
    have h0 := h
    simp only [Rep] at h
    obtain ⟨a, e, h1⟩ := h
    cases q : w.st[n]? with
    | none =>
      have z : AB.drl w.st (.ref n) = .ref n := by simp only [AB.drl, q]
      rw [z]; exact h0
    | some c =>
      cases c with
      | lst xs =>
        have z : AB.drl w.st (.ref n) = .lst xs := by simp only [AB.drl, q]
        rw [z]
        obtain ⟨vs, h2, h3⟩ := ok.lst n xs a q h1
        exact ⟨a, vs, e, h2, h3⟩
      | _ =>
        have z : AB.drl w.st (.ref n) = .ref n := by simp only [AB.drl, q]
        rw [z]; exact h0
  | _ => exact h.u
theorem Rep.drf (ok : OkW K off w) {d : D} {v : V} (h : Rep K off w d v) : RepR K off w (AB.drf w.st d) v := by
  cases d with
  | ref n =>
    have h0 := h
    simp only [Rep] at h
    obtain ⟨a, e, h1⟩ := h
    cases q : w.st[n]? with
    | none =>
      have z : AB.drf w.st (.ref n) = .ref n := by simp only [AB.drf, q]
      rw [z]; exact h0
    | some c =>
      cases c with
      | lst xs =>
        have z : AB.drf w.st (.ref n) = .lst xs := by simp only [AB.drf, q]
        rw [z]
        obtain ⟨vs, h2, h3⟩ := ok.lst n xs a q h1
        exact ⟨a, vs, e, SqL.of h2, h3⟩
      | scr ns =>
        have z : AB.drf w.st (.ref n) = .lst (ns.map D.int) := by simp only [AB.drf, q]
        rw [z]
        exact ⟨a, ns.map V.int, e, ok.sql q h1, Reps.of_int⟩
      | _ =>
        have z : AB.drf w.st (.ref n) = .ref n := by simp only [AB.drf, q]
        rw [z]; exact h0
  | _ => exact h.u.r

/-! data as the library reads it -/
mutual
def pyOf : D → PyData
  | .non => .none
  | .bl b => .bool b
  | .int i => .int i
  | .str x => .str x
  | .tup xs => .tuple (pysOf xs)
  | .lst xs => .list (pysOf xs)
  | .ref _ => .none
  | .exc _ _ => .none
def pysOf : List D → List PyData
  | [] => []
  | x :: xs => pyOf x :: pysOf xs
end
mutual
theorem py_plain : ∀ d : D, (pyOf d).plain = true
  | .non => by simp [pyOf, PyData.plain]
  | .bl _ => by simp [pyOf, PyData.plain]
  | .int _ => by simp [pyOf, PyData.plain]
  | .str _ => by simp [pyOf, PyData.plain]
  | .tup xs => by simp [pyOf, PyData.plain, pys_plain xs]
  | .lst xs => by simp [pyOf, PyData.plain, pys_plain xs]
  | .ref _ => by simp [pyOf, PyData.plain]
  | .exc _ _ => by simp [pyOf, PyData.plain]
theorem pys_plain : ∀ xs : List D, PyData.plainAll (pysOf xs) = true
  | [] => by simp [pysOf, PyData.plainAll]
  | x :: xs => by simp [pysOf, PyData.plainAll, py_plain x, pys_plain xs]
end
mutual
theorem py_depth : ∀ d : D, (pyOf d).depth ≤ d.dep
  | .non => by simp [pyOf, PyData.depth]
  | .bl _ => by simp [pyOf, PyData.depth]
  | .int _ => by simp [pyOf, PyData.depth]
  | .str _ => by simp [pyOf, PyData.depth]
  | .tup xs => by
    have := pys_depth xs
    simp only [pyOf, PyData.depth, D.dep]; omega
  | .lst xs => by
    have := pys_depth xs
    simp only [pyOf, PyData.depth, D.dep]; omega
  | .ref _ => by simp [pyOf, PyData.depth]
  | .exc _ _ => by simp [pyOf, PyData.depth]
theorem pys_depth : ∀ xs : List D, PyData.depthAll (pysOf xs) ≤ D.deps xs
  | [] => by simp [pysOf, PyData.depthAll]
  | x :: xs => by
    have h1 := py_depth x
    have h2 := pys_depth xs
    simp only [pysOf, PyData.depthAll, D.deps]; omega
end
mutual
theorem eqv_py : ∀ d e : D, d.pl = true → e.pl = true → PyData.eqv (pyOf d) (pyOf e) = d.eqb e
  | .tup xs, .tup ys, h, k => by
    simp only [D.pl] at h k
    simp only [pyOf, PyData.eqv, D.eqb, eqvs_py xs ys h k]
  | .lst xs, .lst ys, h, k => by
    simp only [D.pl] at h k
    simp only [pyOf, PyData.eqv, D.eqb, eqvs_py xs ys h k]
  | .ref _, _, h, _ => by simp [D.pl] at h
  | .exc _ _, _, h, _ => by simp [D.pl] at h
  | .non, e, _, k => by cases e <;> first | (simp [D.pl] at k; done) | simp [pyOf, PyData.eqv, D.eqb]
  | .bl _, e, _, k => by cases e <;> first | (simp [D.pl] at k; done) | simp [pyOf, PyData.eqv, D.eqb]
  | .int _, e, _, k => by cases e <;> first | (simp [D.pl] at k; done) | simp [pyOf, PyData.eqv, D.eqb]
  | .str _, e, _, k => by cases e <;> first | (simp [D.pl] at k; done) | simp [pyOf, PyData.eqv, D.eqb]
  | .tup _, .non, _, _ => by simp [pyOf, PyData.eqv, D.eqb]
  | .tup _, .bl _, _, _ => by simp [pyOf, PyData.eqv, D.eqb]
  | .tup _, .int _, _, _ => by simp [pyOf, PyData.eqv, D.eqb]
  | .tup _, .str _, _, _ => by simp [pyOf, PyData.eqv, D.eqb]
  | .tup _, .lst _, _, _ => by simp [pyOf, PyData.eqv, D.eqb]
  | .tup _, .ref _, _, k => by simp [D.pl] at k
  | .tup _, .exc _ _, _, k => by simp [D.pl] at k
  | .lst _, .non, _, _ => by simp [pyOf, PyData.eqv, D.eqb]
  | .lst _, .bl _, _, _ => by simp [pyOf, PyData.eqv, D.eqb]
  | .lst _, .int _, _, _ => by simp [pyOf, PyData.eqv, D.eqb]
  | .lst _, .str _, _, _ => by simp [pyOf, PyData.eqv, D.eqb]
  | .lst _, .tup _, _, _ => by simp [pyOf, PyData.eqv, D.eqb]
  | .lst _, .ref _, _, k => by simp [D.pl] at k
  | .lst _, .exc _ _, _, k => by simp [D.pl] at k
theorem eqvs_py : ∀ xs ys : List D, D.pls xs = true → D.pls ys = true → PyData.eqvAll (pysOf xs) (pysOf ys) = D.eqbs xs ys
  | [], [], _, _ => by simp [pysOf, PyData.eqvAll, D.eqbs]
  | [], _ :: _, _, _ => by simp [pysOf, PyData.eqvAll, D.eqbs]
  | _ :: _, [], _, _ => by simp [pysOf, PyData.eqvAll, D.eqbs]
  | x :: xs, y :: ys, h, k => by
    simp only [D.pls, Bool.and_eq_true] at h k
    simp only [pysOf, PyData.eqvAll, D.eqbs, eqv_py x y h.1 k.1, eqvs_py xs ys h.2 k.2]
end
theorem any_py (x : D) (hx : x.pl = true) : ∀ ys : List D, D.pls ys = true → (pysOf ys).any (fun y => PyData.eqv y (pyOf x)) = ys.any fun y => y.eqb x
  | [], _ => rfl
  | y :: ys, h => by
    simp only [D.pls, Bool.and_eq_true] at h
    simp only [pysOf, List.any_cons, eqv_py y x h.1 hx, any_py x hx ys h.2]
mutual
theorem Rep.dp : ∀ (d : D) (v : V), d.pl = true → Rep K off w d v → Dp K w.H v (pyOf d)
  | .non, _, _, h => by simp only [Rep] at h; subst h; exact .non
  | .bl _, _, _, h => by simp only [Rep] at h; subst h; exact .bl _
  | .int _, _, _, h => by simp only [Rep] at h; subst h; exact .int _
  | .str _, _, _, h => by simp only [Rep] at h; subst h; exact .str _
  | .ref _, _, p, _ => by simp [D.pl] at p
  | .exc _ _, _, p, _ => by simp [D.pl] at p
  | .tup xs, v, p, h => by
    simp only [Rep] at h
    simp only [D.pl] at p
    obtain ⟨a, vs, rfl, h1, h2⟩ := h
    exact .tup h1.sq (Reps.dp xs vs p h2)
  | .lst xs, v, p, h => by
    simp only [Rep] at h
    simp only [D.pl] at p
    obtain ⟨a, vs, rfl, h1, _, _, h2⟩ := h
    exact .lst (SqL.of h1) (Reps.dp xs vs p h2)
theorem Reps.dp : ∀ (ds : List D) (vs : List V), D.pls ds = true → Reps K off w ds vs → DpAll K w.H vs (pysOf ds)
  | [], _, _, h => by simp only [Reps] at h; subst h; exact .nil
  | d :: ds, vs, p, h => by
    simp only [Reps] at h
    simp only [D.pls, Bool.and_eq_true] at p
    obtain ⟨v, r, rfl, h1, h2⟩ := h
    exact .cons (Rep.dp d v p.1 h1) (Reps.dp ds r p.2 h2)
end
theorem RepR.dp {d : D} {v : V} (p : d.pl = true) (h : RepR K off w d v) : Dp K w.H v (pyOf d) := by
  cases d with
  | lst xs =>
    simp only [D.pl] at p
    obtain ⟨a, vs, rfl, h1, h2⟩ := h
    exact .lst h1 (Reps.dp xs vs p h2)
  | _ => exact Rep.dp (off := off) _ v p h

/-! how an answer is given -/
theorem Gives.now {fr : Bool} {d : D} (g : Gives K off w fr d Q) (h : fr = false) {v : V} (r : Rep K off w d v) : Q v w.H := g.1 h v r
theorem Gives.newL {fr : Bool} {xs : List D} (ok : OkW K off w) (g : Gives K off w fr (.lst xs) Q) {vs : List V} (r : Reps K off w xs vs) : ∀ p, w.H p = none → Q (.ref p) (upd w.H p (.lst vs)) := fun p n => by
  refine g.2 p _ _ n ?_ fun ys e => ?_
  · simp only [Rep]
    refine ⟨p, vs, rfl, upd_same, fun z => ?_, ok.nlive_new n, Reps.mono ok (.new n (ok.nlive_new n)) xs vs r⟩
    obtain ⟨⟨u, h⟩, _⟩ := ok.off p z
    rw [n] at h; cases h
  · cases e
    exact ⟨vs, rfl, rfl, r⟩
theorem Gives.newT {fr : Bool} {xs : List D} (ok : OkW K off w) (g : Gives K off w fr (.tup xs) Q) {vs : List V} (r : Reps K off w xs vs) : ∀ p, w.H p = none → Q (.ref p) (upd w.H p (.tup vs)) := fun p n => by
  refine g.2 p _ _ n ?_ fun ys e => by cases e
  simp only [Rep]
  exact ⟨p, vs, rfl, TupAt.of upd_same, Reps.mono ok (.new n (ok.nlive_new n)) xs vs r⟩
theorem Gives.more {fr : Bool} {d : D} (g : Gives K off w false d Q) : Gives K off w fr d Q := ⟨fun _ => g.1 rfl, g.2⟩
end

def opr : Op → Operator
  | .add => .Add | .sub => .Sub | .mul => .Mult | .fdiv => .FloorDiv | .mod => .Mod | .pow => .Pow
/-- does it make a new list -/
def opFr : D → Bool
  | .lst _ => true
  | _ => false
section
variable {X : Cx}
def rOp (K : PySem.W.Frag) (o : Op) : R2 := fun x y H Q => ∃ (off : Addr → Prop) (w : Wd) (d e r : D), w.H = H ∧ OkW K off w ∧ RepU K off w d x ∧ RepU K off w e y ∧ opP o d e = some r ∧ Gives K off w (opFr r) r Q
theorem op_any (o : Op) : OpR X (binaryOp (opr o)) (rOp X.K o) := by
  intro pins s σ H x y v u Q I rx ry h
  obtain ⟨off, w, d, e, r, rfl, ok, h1, h2, hr, g⟩ := h
  unfold opP at hr
  split at hr
  · simp only [RepU, Rep] at h1 h2
    cases hr
    exact op_add pins s σ _ _ _ _ _ Q I rx ry ⟨_, _, h1, h2, g.now rfl (by simp only [Rep])⟩
  · simp only [RepU, Rep] at h1 h2
    split at hr
    · rename_i hz
      cases hr
      exact op_add_str pins s σ _ _ _ _ _ Q I rx ry ⟨_, _, h1, h2, by rw [← szLine_eq]; exact hz, g.now rfl (by simp only [Rep])⟩
    · cases hr
  · rename_i xs ys
    simp only [RepU, Rep] at h1 h2
    split at hr
    · rename_i hz
      cases hr
      obtain ⟨a, vs, rfl, k1, k2⟩ := h1
      obtain ⟨b, us, rfl, k3, k4⟩ := h2
      refine op_catA pins s σ _ _ _ _ _ Q I rx ry ⟨a, b, vs, us, rfl, rfl, k1.sq, k3.sq, by rw [← k2.length, ← k4.length, ← szLine_eq]; exact hz, fun z => ?_, fun _ z => ?_, fun _ _ => g.newT ok (k2.append k4)⟩
      · subst z
        have e0 : xs = [] := List.length_eq_zero_iff.mp k2.length
        subst e0
        refine g.now rfl ?_
        simp only [List.nil_append, Rep]
        exact ⟨b, us, rfl, k3, k4⟩
      · subst z
        have e0 : ys = [] := List.length_eq_zero_iff.mp k4.length
        subst e0
        refine g.now rfl ?_
        simp only [List.append_nil, Rep]
        exact ⟨a, vs, rfl, k1, k2⟩
    · cases hr
  · simp only [RepU] at h1 h2
    split at hr
    · rename_i hz
      cases hr
      obtain ⟨a, vs, rfl, k1, k2⟩ := h1
      obtain ⟨b, us, rfl, k3, k4⟩ := h2
      exact op_cat pins s σ _ _ _ _ _ Q I rx ry ⟨a, b, vs, us, rfl, rfl, k1, k3, by rw [← k2.length, ← k4.length, ← szLine_eq]; exact hz, g.newL ok (k2.append k4)⟩
    · cases hr
  · simp only [RepU, Rep] at h1 h2
    cases hr
    exact op_sub pins s σ _ _ _ _ _ Q I rx ry ⟨_, _, h1, h2, g.now rfl (by simp only [Rep])⟩
  · simp only [RepU, Rep] at h1 h2
    split at hr
    · rename_i hz
      cases hr
      refine op_mul pins s σ _ _ _ _ _ Q I rx ry ⟨_, _, h1, h2, ?_, g.now rfl (by simp only [Rep])⟩
      unfold CMul
      omega
    · cases hr
  · simp only [RepU, Rep] at h1 h2
    split at hr
    · rename_i hz
      cases hr
      obtain ⟨a, vs, rfl, k1, k2⟩ := h1
      exact op_rep pins s σ _ _ _ _ _ Q I rx ry ⟨a, _, vs, rfl, h2, k1, by omega, by omega, by rw [← k2.length, ← szLine_eq]; exact hz.2, g.newL ok (k2.rep _)⟩
    · cases hr
  · rename_i xs k
    simp only [RepU, Rep] at h1 h2
    split at hr
    · rename_i hz
      cases hr
      obtain ⟨a, vs, rfl, k1, k2⟩ := h1
      by_cases k1' : k = 1
      · subst k1'
        refine op_once pins s σ _ _ _ _ _ Q I rx ry ⟨a, vs, rfl, h2, k1.sq, g.now rfl ?_⟩
        simp only [Rep]
        exact ⟨a, vs, rfl, by simpa using k1, by simpa using k2⟩
      refine op_repT pins s σ _ _ _ _ _ Q I rx ry ⟨a, _, vs, rfl, h2, k1.sq, fun z => ?_, by omega, hz.2.2.1, by rw [← k2.length]; exact hz.2.2.2, g.newT ok (k2.rep _)⟩
      subst z
      exact hz.1 (List.length_eq_zero_iff.mp k2.length)
    · cases hr
  · simp only [RepU, Rep] at h1 h2
    split at hr
    · rename_i hz
      cases hr
      exact op_fdivW pins s σ _ _ _ _ _ Q I rx ry ⟨_, _, h1, h2, wide_div hz.1 hz.2 (by decide) (by decide), g.now rfl (by simp only [Rep])⟩
    · cases hr
  · simp only [RepU, Rep] at h1 h2
    split at hr
    · rename_i hz
      cases hr
      exact op_mod pins s σ _ _ _ _ _ Q I rx ry ⟨_, _, h1, h2, hz, g.now rfl (by simp only [Rep])⟩
    · cases hr
  · simp only [RepU, Rep] at h1 h2
    split at hr
    · rename_i hz
      cases hr
      exact op_pow pins s σ _ _ _ _ _ Q I rx ry ⟨_, _, h1, h2, ⟨hz.1, by omega, hz.2.2⟩, g.now rfl (by simp only [Rep])⟩
    · cases hr
  · cases hr
end
end AB

set_option Elab.async false
set_option linter.all false
set_option autoImplicit false
set_option maxRecDepth 100000
/-! AnyP: comparisons, items, slices, built-ins, by values. -/
namespace AB
open PySem PySem.Spec L2

def cor : Co → CmpOp
  | .eq => .Eq | .ne => .NotEq | .lt => .Lt | .le => .LtE | .gt => .Gt | .ge => .GtE
  | .isn => .Is | .notn => .IsNot | .inn => .In | .nin => .NotIn | .iss => .Is | .nis => .IsNot
section
variable {X : Cx}
def rCo (K : PySem.W.Frag) (o : Co) : R2 := fun x y H Q => ∃ (off : Addr → Prop) (w : Wd) (d e : D) (b : Bool), w.H = H ∧ OkW K off w ∧ RepR K off w d x ∧ RepR K off w e y ∧ coP o d e = some b ∧ Q (.bl b) H
theorem str1 {x : Str} (h : x.cps.size = 1) : x = ⟨#[x.cps.getD 0 0]⟩ := by
  obtain ⟨⟨l⟩⟩ := x
  simp only at h ⊢
  cases l with
  | nil => simp at h
  | cons c r =>
    cases r with
    | nil => simp
    | cons _ _ => simp at h
theorem isNon_iff {K : PySem.W.Frag} {off : Addr → Prop} {w : Wd} {d : D} {v : V} (h : RepR K off w d v) (nx : ∀ c f, d ≠ .exc c f) : decide (v = .non) = isNon d := by
  cases d with
  | non => simp only [RepR, Rep] at h; subst h; rfl
  | bl _ => simp only [RepR, Rep] at h; subst h; rfl
  | int _ => simp only [RepR, Rep] at h; subst h; rfl
  | str _ => simp only [RepR, Rep] at h; subst h; rfl
  | tup _ => simp only [RepR, Rep] at h; obtain ⟨a, _, rfl, _⟩ := h; rfl
  | lst _ => obtain ⟨a, _, rfl, _⟩ := h; rfl
  | ref _ => simp only [RepR, Rep] at h; obtain ⟨a, rfl, _⟩ := h; rfl
  | exc c f => exact absurd rfl (nx c f)
theorem co_any (o : Co) (hu : X.A.units + 64 < cLine) : OpR X (compareOp (cor o)) (rCo X.K o) := by
  intro pins s σ H x y v u Q I rx ry h
  obtain ⟨off, w, d, e, b, rfl, ok, h1, h2, hb, q⟩ := h
  have fin : ∀ (c : Bool), c = b → EP X pins σ Q (.bool c) s := fun c ec => ⟨.bl b, w.H, I, by rw [ec]; rfl, q⟩
  unfold coP at hb
  split at hb
  · -- ==
    unfold eqP at hb
    split at hb
    · rename_i hz
      simp only [Bool.and_eq_true, decide_eq_true_eq] at hz
      obtain ⟨⟨p1, p2⟩, p3⟩ := hz
      obtain ⟨as, r1⟩ := Dp.reads I _ x v (h1.dp p1) rx
      obtain ⟨bs, r2⟩ := Dp.reads I _ y u (h2.dp p2) ry
      have := py_depth e
      refine SeqAt.eq_plain r1 r2 (py_plain _) (py_plain _) (by omega) (fin _ ?_)
      rw [eqv_py _ _ p1 p2]
      exact Option.some.inj hb
    · cases hb
  · -- !=
    unfold eqP at hb
    split at hb
    · rename_i hz
      simp only [Bool.and_eq_true, decide_eq_true_eq] at hz
      obtain ⟨⟨p1, p2⟩, p3⟩ := hz
      obtain ⟨as, r1⟩ := Dp.reads I _ x v (h1.dp p1) rx
      obtain ⟨bs, r2⟩ := Dp.reads I _ y u (h2.dp p2) ry
      have := py_depth e
      refine SeqAt.ne_plain r1 r2 (py_plain _) (py_plain _) (by omega) (fin _ ?_)
      rw [eqv_py _ _ p1 p2]
      exact Option.some.inj hb
    · cases hb
  · simp only [RepR, Rep] at h1 h2
    exact op_lt pins s σ _ _ _ _ _ Q I rx ry ⟨_, _, h1, h2, by cases hb; exact q⟩
  · simp only [RepR, Rep] at h1 h2
    exact op_lt_str pins s σ _ _ _ _ _ Q I rx ry ⟨_, _, h1, h2, by cases hb; exact q⟩
  · simp only [RepR, Rep] at h1 h2
    exact op_le pins s σ _ _ _ _ _ Q I rx ry ⟨_, _, h1, h2, by cases hb; exact q⟩
  · simp only [RepR, Rep] at h1 h2
    exact op_gt pins s σ _ _ _ _ _ Q I rx ry ⟨_, _, h1, h2, by cases hb; exact q⟩
  · simp only [RepR, Rep] at h1 h2
    exact op_ge pins s σ _ _ _ _ _ Q I rx ry ⟨_, _, h1, h2, by cases hb; exact q⟩
  · simp only [RepR, Rep] at h2
    split at hb
    · cases hb
    · rename_i hne
      exact op_isN pins s σ _ _ _ _ _ Q I rx ry ⟨h2, by rw [isNon_iff h1 hne]; cases hb; exact q⟩
  · simp only [RepR, Rep] at h2
    split at hb
    · cases hb
    · rename_i hne
      exact op_notN pins s σ _ _ _ _ _ Q I rx ry ⟨h2, by rw [isNon_iff h1 hne]; cases hb; exact q⟩
  · simp only [RepR, Rep] at h1 h2
    exact op_isBl pins s σ _ _ _ _ _ Q I rx ry ⟨_, _, h1, h2, by cases hb; exact q⟩
  · simp only [RepR, Rep] at h1 h2
    exact op_notBl pins s σ _ _ _ _ _ Q I rx ry ⟨_, _, h1, h2, by cases hb; exact q⟩
  · rename_i ys
    unfold inP at hb
    split at hb
    · rename_i hz
      simp only [Bool.and_eq_true, decide_eq_true_eq] at hz
      obtain ⟨⟨p1, p3⟩, p2⟩ := hz
      obtain ⟨as, r1⟩ := Dp.reads I _ x v (h1.dp p1) rx
      obtain ⟨bs, r2⟩ := Dp.reads I _ y u (h2.dp (d := .tup ys) p2) ry
      have := py_depth d
      simp only [pyOf] at r2
      refine SeqAt.in_tuple_data r2 r1 (pys_plain _) (py_plain _) (by omega) (fin _ ?_)
      rw [any_py _ p1 _ p2]
      exact Option.some.inj hb
    · cases hb
  · rename_i ys
    unfold inP at hb
    split at hb
    · rename_i hz
      simp only [Bool.and_eq_true, decide_eq_true_eq] at hz
      obtain ⟨⟨p1, p3⟩, p2⟩ := hz
      obtain ⟨as, r1⟩ := Dp.reads I _ x v (h1.dp p1) rx
      obtain ⟨bs, r2⟩ := Dp.reads I _ y u (h2.dp (d := .lst ys) p2) ry
      have := py_depth d
      simp only [pyOf] at r2
      refine SeqAt.in_list_data r2 r1 (pys_plain _) (py_plain _) (by omega) (fin _ ?_)
      rw [any_py _ p1 _ p2]
      exact Option.some.inj hb
    · cases hb
  · rename_i a z
    split at hb
    · rename_i hz
      simp only [RepR, Rep] at h1 h2
      refine op_in_sign pins s σ _ _ _ _ _ Q I rx ry ⟨a.cps.getD 0 0, z, ?_, h2, ?_⟩
      · rw [h1]; exact congrArg V.str (str1 hz)
      · cases hb; exact q
    · cases hb
  · rename_i ys
    unfold inP at hb
    split at hb
    · rename_i hz
      simp only [Bool.and_eq_true, decide_eq_true_eq] at hz
      obtain ⟨⟨p1, p3⟩, p2⟩ := hz
      obtain ⟨as, r1⟩ := Dp.reads I _ x v (h1.dp p1) rx
      obtain ⟨bs, r2⟩ := Dp.reads I _ y u (h2.dp (d := .tup ys) p2) ry
      have := py_depth d
      simp only [pyOf] at r2
      refine SeqAt.notIn_tuple_data r2 r1 (pys_plain _) (py_plain _) (by omega) (fin _ ?_)
      rw [any_py _ p1 _ p2]
      exact Option.some.inj hb
    · cases hb
  · rename_i ys
    unfold inP at hb
    split at hb
    · rename_i hz
      simp only [Bool.and_eq_true, decide_eq_true_eq] at hz
      obtain ⟨⟨p1, p3⟩, p2⟩ := hz
      obtain ⟨as, r1⟩ := Dp.reads I _ x v (h1.dp p1) rx
      obtain ⟨bs, r2⟩ := Dp.reads I _ y u (h2.dp (d := .lst ys) p2) ry
      have := py_depth d
      simp only [pyOf] at r2
      refine SeqAt.notIn_list_data r2 r1 (pys_plain _) (py_plain _) (by omega) (fin _ ?_)
      rw [any_py _ p1 _ p2]
      exact Option.some.inj hb
    · cases hb
  · cases hb

/-! items -/
theorem atI_rep {K : PySem.W.Frag} {off : Addr → Prop} {w : Wd} {ds : List D} {vs : List V} {i : Int} {d : D} (h : Reps K off w ds vs) (e : atI ds i = some d) : ∃ v, atI vs i = some v ∧ Rep K off w d v := by
  unfold atI at e ⊢
  rw [← h.length]
  cases q : ixN ds.length i with
  | none => rw [q] at e; cases e
  | some j =>
    rw [q] at e
    exact h.at_ (show ds[j]? = some d from e)
def rIxD (K : PySem.W.Frag) : R2 := fun x y H Q => ∃ (off : Addr → Prop) (w : Wd) (d r : D) (i : Int), w.H = H ∧ OkW K off w ∧ RepR K off w d x ∧ y = .int i ∧ ixP d i = some r ∧ ∀ v, Rep K off w r v → Q v H
theorem ix_any : IxR X (rIxD X.K) := by
  intro value slice pins s σ H x y v u Q I rx ry h hs
  obtain ⟨off, w, d, r, i, rfl, ok, h1, h2, hr, q⟩ := h
  unfold ixP at hr
  split at hr
  · simp only [RepR, Rep] at h1
    obtain ⟨a, vs, e, k1, k2⟩ := h1
    obtain ⟨z, k3, k4⟩ := atI_rep k2 hr
    exact ix_tup value slice pins s σ _ x y v u Q I rx ry ⟨a, vs, i, z, e, h2, k1.sq, k3, q z k4⟩ hs
  · obtain ⟨a, vs, e, k1, k2⟩ := h1
    obtain ⟨z, k3, k4⟩ := atI_rep k2 hr
    exact ix_list value slice pins s σ _ x y v u Q I rx ry ⟨a, vs, i, z, e, h2, k1, k3, q z k4⟩ hs
  · simp only [RepR, Rep] at h1
    split at hr
    · rename_i hz
      cases ha : atI _ i with
      | none => rw [ha] at hr; cases hr
      | some c =>
        rw [ha] at hr
        simp only [Option.map_some, Option.some.injEq] at hr
        subst hr
        exact ix_str value slice pins s σ _ x y v u Q I rx ry ⟨_, i, c, h1, h2, by rw [← szLine_eq]; exact hz, ha, q _ (by simp only [Rep])⟩ hs
    · cases hr
  · cases hr

/-! slices -/
theorem cut_rep {K : PySem.W.Frag} {off : Addr → Prop} {w : Wd} {ds : List D} {vs : List V} (lo hi : Option Int) (h : Reps K off w ds vs) : Reps K off w (cutD ds lo hi) (cutV vs lo hi) := by
  unfold cutD cutV
  rw [← h.length]
  exact (h.drop _).take _
theorem cut_whole {ds : List D} {lo hi : Option Int} (h : HT.sIx ds.length 0 lo = 0 ∧ HT.sIx ds.length ds.length hi = ds.length) : cutD ds lo hi = ds := by
  unfold cutD
  rw [h.1, h.2]
  simp
def slFr : D → Bool
  | .lst _ => true
  | _ => false
def rSlD (K : PySem.W.Frag) : V → Option Int → Option Int → Hp → VK → Prop := fun x lo hi H Q => ∃ (off : Addr → Prop) (w : Wd) (d r : D), w.H = H ∧ OkW K off w ∧ RepR K off w d x ∧ slP d lo hi = some r ∧ Gives K off w (opFr r) r Q
theorem sl_any : L2.SlR X (rSlD X.K) := by
  intro pins s σ H x v vl vu lo hi sl Q I rx hs pl pu h
  obtain ⟨off, w, d, r, rfl, ok, h1, hr, g⟩ := h
  unfold slP at hr
  split at hr
  · rename_i xs
    simp only [RepR, Rep] at h1
    obtain ⟨a, vs, e, k1, k2⟩ := h1
    cases hr
    refine sl_tupA pins s σ _ x v vl vu lo hi sl Q I rx hs pl pu ⟨a, vs, e, k1.sq, fun z => ?_, fun _ => g.newT ok (cut_rep lo hi k2)⟩
    refine g.now rfl ?_
    rw [cut_whole (by rw [k2.length]; exact z)]
    simp only [Rep]
    exact ⟨a, vs, rfl, k1, k2⟩
  · obtain ⟨a, vs, e, k1, k2⟩ := h1
    cases hr
    exact sl_list pins s σ _ x v vl vu lo hi sl Q I rx hs pl pu ⟨a, vs, e, k1, g.newL ok (cut_rep lo hi k2)⟩
  · simp only [RepR, Rep] at h1
    split at hr
    · rename_i hz
      cases hr
      exact sl_str pins s σ _ x v vl vu lo hi sl Q I rx hs pl pu ⟨_, h1, by rw [← szLine_eq]; exact hz, g.now rfl (by simp only [Rep])⟩
    · cases hr
  · cases hr
end
end AB

set_option Elab.async false
set_option linter.all false
set_option autoImplicit false
set_option maxRecDepth 100000
/-! AnyB: built-in functions, by values. -/
namespace AB
open PySem PySem.Spec L2

theorem minI_ok : ∀ {ns : List Int} {k : Int}, minI ns = some k → k ∈ ns ∧ ∀ y ∈ ns, k ≤ y
  | [], _, h => by cases h
  | [x], k, h => by simp only [minI] at h; cases h; simp
  | x :: z :: xs, k, h => by
    simp only [minI, Option.map_eq_some_iff] at h
    obtain ⟨m, hm, e⟩ := h
    obtain ⟨h1, h2⟩ := minI_ok hm
    by_cases c : m < x
    · rw [if_pos c] at e
      subst e
      refine ⟨List.mem_cons_of_mem _ h1, fun y hy => ?_⟩
      rcases List.mem_cons.mp hy with e | hy
      · omega
      · exact h2 y hy
    · rw [if_neg c] at e
      subst e
      refine ⟨List.mem_cons_self, fun y hy => ?_⟩
      rcases List.mem_cons.mp hy with e | hy
      · omega
      · have := h2 y hy; omega
theorem maxI_ok : ∀ {ns : List Int} {k : Int}, maxI ns = some k → k ∈ ns ∧ ∀ y ∈ ns, y ≤ k
  | [], _, h => by cases h
  | [x], k, h => by simp only [maxI] at h; cases h; simp
  | x :: z :: xs, k, h => by
    simp only [maxI, Option.map_eq_some_iff] at h
    obtain ⟨m, hm, e⟩ := h
    obtain ⟨h1, h2⟩ := maxI_ok hm
    by_cases c : x < m
    · rw [if_pos c] at e
      subst e
      refine ⟨List.mem_cons_of_mem _ h1, fun y hy => ?_⟩
      rcases List.mem_cons.mp hy with e | hy
      · omega
      · exact h2 y hy
    · rw [if_neg c] at e
      subst e
      refine ⟨List.mem_cons_self, fun y hy => ?_⟩
      rcases List.mem_cons.mp hy with e | hy
      · omega
      · have := h2 y hy; omega
/-- the built-in's value, its name -/
def biF : Bi → Value
  | .len => .builtin "len" | .all => .builtin "all" | .any => .builtin "any" | .sorted => .builtin "sorted"
  | .tuple => .type "tuple" | .list => .type "list" | .min2 => .builtin "min" | .max2 => .builtin "max"
  | .minL => .builtin "min" | .maxL => .builtin "max" | .abs => .builtin "abs" | .int => .type "int" | .str => .type "str" | .bool => .type "bool"
/-- a list of read values -/
def RepRs (K : PySem.W.Frag) (off : Addr → Prop) (w : Wd) : List D → List V → Prop
  | [], vs => vs = []
  | d :: ds, vs => ∃ v r, vs = v :: r ∧ RepR K off w d v ∧ RepRs K off w ds r
theorem Reps.drf {K : PySem.W.Frag} {off : Addr → Prop} {w : Wd} (ok : OkW K off w) : ∀ {ds : List D} {vs : List V}, Reps K off w ds vs → RepRs K off w (ds.map (AB.drf w.st)) vs
  | [], _, h => by simp only [Reps] at h; subst h; rfl
  | d :: ds, vs, h => by
    simp only [Reps] at h
    obtain ⟨v, r, e, h1, h2⟩ := h
    exact ⟨v, r, e, h1.drf ok, Reps.drf ok h2⟩
def rBi (K : PySem.W.Frag) (b : Bi) : List V → Hp → VK → Prop := fun vs H Q => ∃ (off : Addr → Prop) (w : Wd) (ds : List D) (r : D), w.H = H ∧ OkW K off w ∧ RepRs K off w ds vs ∧ biP b ds = some r ∧ Gives K off w (opFr r) r Q
section
variable {X : Cx} {K : PySem.W.Frag} {off : Addr → Prop} {w : Wd}
theorem repR1 {d : D} {vs : List V} (h : RepRs K off w [d] vs) : ∃ v, vs = [v] ∧ RepR K off w d v := by
  obtain ⟨v, r, e, h1, h2⟩ := h
  have h2 : r = [] := h2
  subst h2
  exact ⟨v, e, h1⟩
theorem repR2 {d e : D} {vs : List V} (h : RepRs K off w [d, e] vs) : ∃ v u, vs = [v, u] ∧ RepR K off w d v ∧ RepR K off w e u := by
  obtain ⟨v, r, e, h1, u, r2, e2, h2, h3⟩ := h
  have h3 : r2 = [] := h3
  subst h3 e2
  exact ⟨v, u, e, h1, h2⟩
theorem bi_any (b : Bi) (hns : b ≠ .sorted) (hc : X.calm = true) : CallR X (biF b) (rBi X.K b) := by
  intro pins s σ H vs us Q I r h
  obtain ⟨off, w, ds, rr, rfl, ok, hr, hb, g⟩ := h
  unfold biP at hb
  split at hb
  · obtain ⟨v, rfl, h1⟩ := repR1 hr
    simp only [RepR, Rep] at h1
    obtain ⟨a, vs, e, k1, k2⟩ := h1
    cases hb
    exact call_len pins s σ _ _ us Q I r ⟨_, _, rfl, by rw [e]; exact .inr ⟨vs, k1.sq, k2.length⟩, g.now rfl (by simp only [Rep])⟩
  · obtain ⟨v, rfl, h1⟩ := repR1 hr
    obtain ⟨a, vs, e, k1, k2⟩ := h1
    cases hb
    exact call_len pins s σ _ _ us Q I r ⟨_, _, rfl, by rw [e]; exact .inl ⟨vs, k1, k2.length⟩, g.now rfl (by simp only [Rep])⟩
  · obtain ⟨v, rfl, h1⟩ := repR1 hr
    simp only [RepR, Rep] at h1
    split at hb
    · rename_i hz
      cases hb
      exact call_len pins s σ _ _ us Q I r ⟨_, _, rfl, by rw [h1]; exact ⟨by rw [← szLine_eq]; exact hz, rfl⟩, g.now rfl (by simp only [Rep])⟩
    · cases hb
  · obtain ⟨v, rfl, h1⟩ := repR1 hr
    obtain ⟨a, vs, e, k1, k2⟩ := h1
    simp only [Option.map_eq_some_iff] at hb
    obtain ⟨bs, e1, rfl⟩ := hb
    have e2 := k2.boolL e1
    subst e2
    exact cr_all hc pins s σ _ _ us Q I r ⟨a, bs, by rw [e], k1, g.now rfl (by simp only [Rep])⟩
  · obtain ⟨v, rfl, h1⟩ := repR1 hr
    obtain ⟨a, vs, e, k1, k2⟩ := h1
    simp only [Option.map_eq_some_iff] at hb
    obtain ⟨bs, e1, rfl⟩ := hb
    have e2 := k2.boolL e1
    subst e2
    exact cr_any hc pins s σ _ _ us Q I r ⟨a, bs, by rw [e], k1, g.now rfl (by simp only [Rep])⟩
  · obtain ⟨v, rfl, h1⟩ := repR1 hr
    obtain ⟨a, vs, e, k1, k2⟩ := h1
    cases hb
    exact call_tuple_of pins s σ _ _ us Q I r ⟨a, vs, by rw [e], .inl ⟨k1, g.newT ok k2⟩⟩
  · obtain ⟨v, rfl, h1⟩ := repR1 hr
    simp only [RepR, Rep] at h1
    obtain ⟨a, vs, e, k1, k2⟩ := h1
    cases hb
    exact call_tuple_of pins s σ _ _ us Q I r ⟨a, vs, by rw [e], .inr ⟨k1.sq, g.now rfl (by simp only [Rep]; exact ⟨a, vs, rfl, k1, k2⟩)⟩⟩
  · obtain ⟨v, rfl, h1⟩ := repR1 hr
    obtain ⟨a, vs, e, k1, k2⟩ := h1
    cases hb
    exact call_list_of pins s σ _ _ us Q I r ⟨a, vs, by rw [e], .inl k1, g.newL ok k2⟩
  · obtain ⟨v, rfl, h1⟩ := repR1 hr
    simp only [RepR, Rep] at h1
    obtain ⟨a, vs, e, k1, k2⟩ := h1
    cases hb
    exact call_list_of pins s σ _ _ us Q I r ⟨a, vs, by rw [e], .inr k1.sq, g.newL ok k2⟩
  · obtain ⟨v, u, rfl, h1, h2⟩ := repR2 hr
    simp only [RepR, Rep] at h1 h2
    cases hb
    exact call_min2 hc pins s σ _ _ us Q I r ⟨_, _, by rw [h1, h2], g.now rfl (by simp only [Rep])⟩
  · obtain ⟨v, u, rfl, h1, h2⟩ := repR2 hr
    simp only [RepR, Rep] at h1 h2
    cases hb
    exact call_max2 hc pins s σ _ _ us Q I r ⟨_, _, by rw [h1, h2], g.now rfl (by simp only [Rep])⟩
  · obtain ⟨v, rfl, h1⟩ := repR1 hr
    obtain ⟨a, vs, e, k1, k2⟩ := h1
    simp only [Option.bind_eq_some_iff, Option.map_eq_some_iff] at hb
    obtain ⟨ns, e1, k, e3, rfl⟩ := hb
    have e2 := k2.intL e1
    subst e2
    obtain ⟨m1, m2⟩ := minI_ok e3
    refine cr_min hc pins s σ _ _ us Q I r ⟨a, ns, by rw [e], k1, List.length_pos_of_mem m1, fun m hm hy => ?_⟩
    have : m = k := Int.le_antisymm (hy k m1) (m2 m hm)
    subst this
    exact g.now rfl (by simp only [Rep])
  · obtain ⟨v, rfl, h1⟩ := repR1 hr
    obtain ⟨a, vs, e, k1, k2⟩ := h1
    simp only [Option.bind_eq_some_iff, Option.map_eq_some_iff] at hb
    obtain ⟨ns, e1, k, e3, rfl⟩ := hb
    have e2 := k2.intL e1
    subst e2
    obtain ⟨m1, m2⟩ := maxI_ok e3
    refine cr_max hc pins s σ _ _ us Q I r ⟨a, ns, by rw [e], k1, List.length_pos_of_mem m1, fun m hm hy => ?_⟩
    have : m = k := Int.le_antisymm (m2 m hm) (hy k m1)
    subst this
    exact g.now rfl (by simp only [Rep])
  · obtain ⟨v, rfl, h1⟩ := repR1 hr
    simp only [RepR, Rep] at h1
    cases hb
    exact call_abs pins s σ _ _ us Q I r ⟨_, by rw [h1], g.now rfl (by simp only [Rep])⟩
  · obtain ⟨v, rfl, h1⟩ := repR1 hr
    simp only [RepR, Rep] at h1
    cases hb
    exact call_int1 pins s σ _ _ us Q I r (.inl ⟨_, by rw [h1], g.now rfl (by simp only [Rep])⟩)
  · obtain ⟨v, rfl, h1⟩ := repR1 hr
    simp only [RepR, Rep] at h1
    cases hb
    exact call_int1 pins s σ _ _ us Q I r (.inr ⟨_, by rw [h1], g.now rfl (by simp only [Rep])⟩)
  · obtain ⟨v, rfl, h1⟩ := repR1 hr
    simp only [RepR, Rep] at h1
    cases hb
    exact call_bool1 pins s σ _ _ us Q I r (.inr ⟨_, by rw [h1], g.now rfl (by simp only [Rep])⟩)
  · exact absurd rfl hns
  · cases hb

/-! isinstance with a built-in class -/
def tyN : Ty → String
  | .int => "int" | .bool => "bool" | .str => "str" | .tup => "tuple" | .lst => "list"
theorem sqt_ty {K : PySem.W.Frag} {H : Hp} {a : Addr} {vs : List V} (h : SqT K H a vs) : TyX K H (.ref a) (.type "tuple") := by
  rcases h with (h | ⟨o, h⟩) | ⟨o, its, n, h, h2, _⟩
  · exact .base (.tup h)
  · exact .fTuple h
  · exact .kTuple h h2
theorem sql_ty {K : PySem.W.Frag} {H : Hp} {a : Addr} {vs : List V} (h : SqL K H a vs) : TyX K H (.ref a) (.type "list") := by
  rcases h with (h | ⟨o, h⟩) | ⟨o, its, n, h, h2, _⟩
  · exact .base (.lst h)
  · exact .base (.frz h)
  · exact .kList h h2
def rIsiD (K : PySem.W.Frag) (t : Ty) : List V → Hp → VK → Prop := fun vs H Q => ∃ (off : Addr → Prop) (w : Wd) (d : D) (v : V) (b : Bool), w.H = H ∧ OkW K off w ∧ vs = [v, .ty (tyN t)] ∧ RepR K off w d v ∧ isiP t d = some b ∧ Q (.bl b) H
theorem isi_any (t : Ty) : CallR X (.builtin "isinstance") (rIsiD X.K t) := by
  intro pins s σ H vs us Q I r h
  obtain ⟨off, w, d, v, b, rfl, ok, rfl, hr, hb, q⟩ := h
  have go : ∀ (a : String), TyX X.K w.H v (.type a) → kitB a (tyN t) = some b → wpAny (model X.prog X.w) X.A (call (.builtin "isinstance") us) (EP X pins σ Q) X.xe s := fun a h1 h2 =>
    call_isi pins s σ _ _ us Q I r ⟨v, .ty (tyN t), .type a, .type (tyN t), b, rfl, .ty _, h1, kit_ty h2, q⟩
  cases d with
  | non =>
    simp only [RepR, Rep] at hr; subst hr
    refine go "NoneType" (.base .non) ?_
    cases t <;> (simp only [isiP] at hb; cases hb; decide +kernel)
  | bl x =>
    simp only [RepR, Rep] at hr; subst hr
    refine go "bool" (.base (.bl _)) ?_
    cases t <;> (simp only [isiP] at hb; cases hb; decide +kernel)
  | int x =>
    simp only [RepR, Rep] at hr; subst hr
    refine go "int" (.base (.int _)) ?_
    cases t <;> (simp only [isiP] at hb; cases hb; decide +kernel)
  | str x =>
    simp only [RepR, Rep] at hr; subst hr
    refine go "str" (.base (.str _)) ?_
    cases t <;> (simp only [isiP] at hb; cases hb; decide +kernel)
  | tup x =>
    simp only [RepR, Rep] at hr
    obtain ⟨a, vs, rfl, h1, _⟩ := hr
    refine go "tuple" (sqt_ty h1.sq) ?_
    cases t <;> (simp only [isiP] at hb; cases hb; decide +kernel)
  | lst x =>
    obtain ⟨a, vs, rfl, h1, _⟩ := hr
    refine go "list" (sql_ty h1) ?_
    cases t <;> (simp only [isiP] at hb; cases hb; decide +kernel)
  | ref n => cases t <;> (simp only [isiP] at hb; cases hb)
  | exc c f => cases t <;> (simp only [isiP] at hb; cases hb)
end
end AB

set_option Elab.async false
set_option linter.all false
set_option autoImplicit false
set_option maxRecDepth 100000
/-! AnyE: expressions, one rule a form. -/
namespace AB
open PySem PySem.Spec L2 PyProof.Rows

/-- what a module's name stands for -/
inductive G where
  | fn (f np : Nat) | blt | cst (d : D) | cls (c : Nat)
/-- the fixed side: names, slots, what defs give, exceptions -/
structure Sg where
  gt : List (Str × G)
  N : List Str
  C : Nat → List D → M D
  sub : Nat → Nat → Bool
  cv : Nat → Value
  cf : Nat → Str

section
variable (K : PySem.W.Frag) (off : Addr → Prop)
def Sat {α : Type} (w : Wd) (r : R α) (k : α → Wd → Prop) (x : Ex → Wd → Prop) : Prop := match r with
  | .ok a st => ∀ w', Le w w' → OkW K off w' → w'.st = st → k a w'
  | .ex e st => ∀ w', Le w w' → OkW K off w' → w'.st = st → x e w'
  | .no => False
def RepX (S : Sg) (w : Wd) (e : Ex) (d : Option Addr) : Prop := match e.fld with
  | [] => d = none
  | [f] => ∃ a v, d = some a ∧ w.H a = some (.xd [(S.cf e.cls, v)]) ∧ Rep K off w f v
  | _ => False
abbrev xk (S : Sg) (Wh : WX) (σ : L2.St) : Ex → Wd → Prop := fun e w => ∀ d, RepX K off S w e d → Wh (S.cv e.cls) d σ w.H
def REnv (w : Wd) (env : Env) (σ : L2.St) : Prop := env.length = σ.length ∧ ∀ (i : Nat) (d : D), env[i]? = some (some d) → ∃ v, σ[i]? = some (some v) ∧ Rep K off w d v
/-- v is a list made since w -/
def Frs (w w' : Wd) (xs : List D) (v : V) : Prop := ∃ (H0 : Hp) (a : Addr) (vs : List V), v = .ref a ∧ H0 a = none ∧ w'.H = upd H0 a (.lst vs) ∧
  Le w { w' with H := H0 } ∧ OkW K off { w' with H := H0 } ∧ Reps K off { w' with H := H0 } xs vs
end
def fr : E → Bool
  | .lst _ => true
  | .bin _ _ _ => true
  | .sll _ _ => true
  | .slh _ _ => true
  | .slb _ _ _ => true
  | .bi _ _ => true
  | _ => false
section
variable {K : PySem.W.Frag} {off : Addr → Prop} {w : Wd} {α β : Type}
theorem Sat.imp {r : R α} {k k' : α → Wd → Prop} {x : Ex → Wd → Prop} (h : Sat K off w r k x) (f : ∀ a w', Le w w' → OkW K off w' → k a w' → k' a w') : Sat K off w r k' x := by
  cases r with
  | ok a st => exact fun w' l o e => f a w' l o (h w' l o e)
  | ex e st => exact h
  | no => exact h
theorem Sat.impx {r : R α} {k k' : α → Wd → Prop} {x x' : Ex → Wd → Prop} (h : Sat K off w r k x) (f : ∀ a w', Le w w' → OkW K off w' → k a w' → k' a w') (g : ∀ e w', Le w w' → OkW K off w' → x e w' → x' e w') : Sat K off w r k' x' := by
  cases r with
  | ok a st => exact fun w' l o e => f a w' l o (h w' l o e)
  | ex e st => exact fun w' l o q => g e w' l o (h w' l o q)
  | no => exact h
theorem Sat.bnd {m : M α} {f : α → M β} {k : β → Wd → Prop} {x : Ex → Wd → Prop} (h : Sat K off w (AB.bnd m f w.st) k x) : Sat K off w (m w.st) (fun a w' => Sat K off w' (f a w'.st) k x) x := by
  unfold AB.bnd at h
  cases q : m w.st with
  | ok a st =>
    rw [q] at h
    intro w1 l1 o1 e1
    subst e1
    have h : Sat K off w (f a w1.st) k x := h
    cases q2 : f a w1.st with
    | ok b st2 =>
      rw [q2] at h
      exact fun w2 l2 o2 e2 => h w2 (l1.trans l2) o2 e2
    | ex e st2 =>
      rw [q2] at h
      exact fun w2 l2 o2 e2 => h w2 (l1.trans l2) o2 e2
    | no => rw [q2] at h; exact h
  | ex e st => rw [q] at h; exact h
  | no => rw [q] at h; exact h
theorem Sat.ret {a : α} {k : α → Wd → Prop} {x : Ex → Wd → Prop} (h : Sat K off w (AB.ret a w.st) k x) (ok : OkW K off w) : k a w := h w (.refl w) ok rfl
theorem Sat.lft {o : Option α} {k : α → Wd → Prop} {x : Ex → Wd → Prop} (h : Sat K off w (AB.lft o w.st) k x) : ∃ a, o = some a ∧ ∀ w', Le w w' → OkW K off w' → w'.st = w.st → k a w' := by
  cases o with
  | none => exact h.elim
  | some a => exact ⟨a, rfl, h⟩
theorem REnv.mono {w' : Wd} {env : Env} {σ : L2.St} (h : REnv K off w env σ) (ok : OkW K off w) (l : Le w w') : REnv K off w' env σ :=
  ⟨h.1, fun i d e => let ⟨v, a, b⟩ := h.2 i d e; ⟨v, a, Rep.mono ok l d v b⟩⟩
theorem gives_of {w0 : Wd} {r : D} {Q : VK} (ok : OkW K off w) (l0 : Le w0 w)
    (h : ∀ w', Le w w' → OkW K off w' → w'.st = w.st → ∀ v, Rep K off w' r v → (∀ xs, r = .lst xs → Frs K off w0 w' xs v) → Q v w'.H) : Gives K off w (opFr r) r Q := by
  refine ⟨fun hf v rv => h w (.refl w) ok rfl v rv fun xs e => ?_, fun p o v n rv hn => ?_⟩
  · subst e; cases hf
  · refine h { w with H := upd w.H p o } (.new n (ok.nlive_new n)) (ok.new n) rfl v rv fun xs e => ?_
    obtain ⟨vs, e1, e2, r2⟩ := hn xs e
    subst e2
    exact ⟨w.H, p, vs, e1, n, rfl, l0, ok, r2⟩
end

/-! readings -/
def tD (S : Sg) (K : PySem.W.Frag) (Wh : WX) (p : E) : TE := fun σ H Q => ∃ (off : Addr → Prop) (w : Wd) (env : Env), w.H = H ∧ OkW K off w ∧ REnv K off w env σ ∧
  Sat K off w (ev S.C S.sub p env w.st) (fun d w' => ∀ v, Rep K off w' d v → (fr p = true → ∀ xs, d = .lst xs → Frs K off w w' xs v) → Q v w'.H) (xk K off S Wh σ)
def tDT (S : Sg) (K : PySem.W.Frag) (Wh : WX) (p : E) : TT := fun σ H Q => ∃ (off : Addr → Prop) (w : Wd) (env : Env), w.H = H ∧ OkW K off w ∧ REnv K off w env σ ∧
  Sat K off w (bnd (ev S.C S.sub p env) (fun x => lft (truth x)) w.st) (fun b w' => Q b w'.H) (xk K off S Wh σ)
def tDs (S : Sg) (K : PySem.W.Frag) (Wh : WX) (es : Es) : TA := fun σ H Q => ∃ (off : Addr → Prop) (w : Wd) (env : Env), w.H = H ∧ OkW K off w ∧ REnv K off w env σ ∧
  Sat K off w (evs S.C S.sub es env w.st) (fun ds w' => ∀ vs, Reps K off w' ds vs → Q vs w'.H) (xk K off S Wh σ)
section
variable {X : Cx}
theorem PE.imp {e : Expr} {t t' : TE} (f : ∀ σ H Q, t σ H Q → t' σ H Q) (h : PE X e t') : PE X e t := ⟨fun pins s σ H Q I q => h.run pins s σ H Q I (f σ H Q q)⟩
theorem PT.imp {e : Expr} {t t' : TT} (f : ∀ σ H Q, t σ H Q → t' σ H Q) (h : PT X e t') : PT X e t := ⟨fun pins s σ H Q I q => h.run pins s σ H Q I (f σ H Q q)⟩
theorem PW.imp {e : Expr} {t t' : TT} (f : ∀ σ H Q, t σ H Q → t' σ H Q) (h : PW X e t') : PW X e t := ⟨fun wh pins s σ H Q I q => h.run wh pins s σ H Q I (f σ H Q q)⟩
theorem PA.imp {es : List Expr} {t t' : TA} (f : ∀ σ H Q, t σ H Q → t' σ H Q) (h : PA X es t') : PA X es t := ⟨fun pos pins s σ H Q I q => h.run pos pins s σ H Q I (f σ H Q q)⟩
end

end AB

set_option Elab.async false
set_option linter.all false
set_option autoImplicit false
set_option maxRecDepth 100000
/-! AnyF: expressions, one rule a form. -/
namespace AB
open PySem PySem.Spec L2 PyProof.Rows

theorem truth_some {d : D} {b : Bool} (h : truth d = some b) : d = .bl b := by
  cases d with
  | bl c => exact congrArg D.bl (Option.some.inj h)
  | _ => cases h
section
variable {X : Cx} {S : Sg} {Wh : WX} {a b c : Expr} {pa pb pc : E} {pos : Pos}
theorem d_c {d : D} {e : Expr} {v : V} (h : PE X e (tC v)) (r : ∀ off w, OkW X.K off w → Rep X.K off w d v) : PE X e (tD S X.K Wh (.c d)) := by
  refine PE.imp ?_ h
  rintro σ H Q ⟨off, w, env, rfl, ok, re, sat⟩
  simp only [ev] at sat
  exact sat.ret ok v (r off w ok) (fun z => by cases z)
theorem d_v {i : Nat} {x : Str} (hN : X.N[i]? = some x) (hv : Vis X.env.scope x) (hd : (x == ("__debug__" : Str)) = false) (hcd : (x == ("__classdict__" : Str)) = false) : PE X (.Name x pos) (tD S X.K Wh (.v i)) := by
  refine PE.imp ?_ (pe_var hN hv hd hcd)
  rintro σ H Q ⟨off, w, env, rfl, ok, re, sat⟩
  simp only [ev] at sat
  obtain ⟨d, e, k⟩ := sat.lft
  have e2 : env[i]? = some (some d) := by
    unfold vget at e
    split at e
    · cases e
    · rename_i q; cases e; exact q
    · cases e
  obtain ⟨v, e3, rv⟩ := re.2 i d e2
  exact ⟨v, e3, k w (.refl w) ok rfl v rv (fun z => by cases z)⟩
theorem d_bin {o : Op} (ha : PE X a (tD S X.K Wh pa)) (hb : PE X b (tD S X.K Wh pb)) : PE X (.BinOp a (opr o) b pos) (tD S X.K Wh (.bin o pa pb)) := by
  refine PE.imp ?_ (pe_op (op_any o) ha hb)
  rintro σ H Q ⟨off, w, env, rfl, ok, re, sat⟩
  simp only [ev] at sat
  refine ⟨off, w, env, rfl, ok, re, sat.bnd.imp fun d w1 l1 ok1 s1 x rx _ => ?_⟩
  refine ⟨off, w1, env, rfl, ok1, re.mono ok l1, s1.bnd.imp fun e w2 l2 ok2 s2 y ry _ => ?_⟩
  obtain ⟨r, hr, k⟩ := Sat.lft (o := opP o (drl w2.st d) (drl w2.st e)) s2
  exact ⟨off, w2, _, _, r, rfl, ok2, (Rep.mono ok1 l2 _ _ rx).drl ok2, ry.drl ok2, hr, gives_of ok2 (l1.trans l2) fun w' l o q v rv f => k w' l o q v rv fun _ => f⟩
theorem d_neg (ha : PE X a (tD S X.K Wh pa)) : PE X (.UnaryOp .USub a pos) (tD S X.K Wh (.neg pa)) := by
  refine PE.imp ?_ (pe_un un_neg ha)
  rintro σ H Q ⟨off, w, env, rfl, ok, re, sat⟩
  simp only [ev] at sat
  refine ⟨off, w, env, rfl, ok, re, sat.bnd.imp fun d w1 l1 ok1 s1 x rx _ => ?_⟩
  cases d with
  | int i =>
    simp only [Rep] at rx
    exact ⟨i, rx, s1.ret ok1 _ (by simp only [Rep]) (fun z => by cases z)⟩
  | _ => exact s1.elim
theorem pt_of (h : PE X a (tD S X.K Wh pa)) (he : ∀ whole, isTrue a X.env whole = (do let v ← whole; standAt a.pos; holding [v] (truthy v))) : PT X a (tDT S X.K Wh pa) := by
  refine PT.imp ?_ (pt_val h he)
  rintro σ H Q ⟨off, w, env, rfl, ok, re, sat⟩
  refine ⟨off, w, env, rfl, ok, re, sat.bnd.imp fun d w1 l1 ok1 s1 x rx _ => ?_⟩
  obtain ⟨t, e, k⟩ := s1.lft
  have e2 := truth_some e
  subst e2
  simp only [Rep] at rx
  exact ⟨t, rx, k w1 (.refl w1) ok1 rfl⟩
/-- a test as part of another one -/
theorem DT.of {σ : L2.St} {Q : Bool → Hp → Prop} {off : Addr → Prop} {w : Wd} {env : Env} {p : E} {k : Bool → Wd → Prop} (ok : OkW X.K off w) (re : REnv X.K off w env σ)
    (sat : Sat X.K off w (bnd (ev S.C S.sub p env) (fun x => lft (truth x)) w.st) k (xk X.K off S Wh σ)) (f : ∀ b w', Le w w' → OkW X.K off w' → k b w' → Q b w'.H) : tDT S X.K Wh p σ w.H Q :=
  ⟨off, w, env, rfl, ok, re, sat.imp f⟩
/-- a truth value's test, split off -/
theorem sat_tst {α : Type} {K : PySem.W.Frag} {off : Addr → Prop} {w : Wd} {m : M D} {f : Bool → M α} {k : α → Wd → Prop} {x : Ex → Wd → Prop} (h : Sat K off w (bnd m (fun x => bnd (lft (truth x)) f) w.st) k x) :
    Sat K off w (bnd m (fun x => lft (truth x)) w.st) (fun b w' => Sat K off w' (f b w'.st) k x) x := by
  have e : ∀ st, bnd m (fun x => bnd (lft (truth x)) f) st = bnd (bnd m (fun x => lft (truth x))) f st := fun st => by
    simp only [bnd]
    cases m st with
    | ok a st' => rfl
    | ex _ _ => rfl
    | no => rfl
  rw [e] at h
  exact h.bnd
theorem bnd_assoc {α β γ : Type} (m : M α) (f : α → M β) (g : β → M γ) (st : Store) : bnd (bnd m f) g st = bnd m (fun x => bnd (f x) g) st := by
  simp only [bnd]
  cases m st with
  | ok a st' => rfl
  | ex _ _ => rfl
  | no => rfl
theorem bnd_ext {α β : Type} {m : M α} {f g : α → M β} (h : ∀ a st, f a st = g a st) (st : Store) : bnd m f st = bnd m g st := by
  simp only [bnd]
  cases m st with
  | ok a st' => exact h a st'
  | ex _ _ => rfl
  | no => rfl
/-- a test of what begins with a test -/
theorem tst_in (m : M D) (f : Bool → M D) (st : Store) : bnd (bnd m fun x => bnd (lft (truth x)) f) (fun x => lft (truth x)) st = bnd m (fun x => bnd (lft (truth x)) fun t => bnd (f t) fun x => lft (truth x)) st := by
  rw [bnd_assoc]
  exact bnd_ext (fun a st => bnd_assoc _ _ _ st) st
/-- a bool's truth -/
theorem sat_bl {α : Type} {K : PySem.W.Frag} {off : Addr → Prop} {w : Wd} {d : D} {f : Bool → M α} {k : α → Wd → Prop} {x : Ex → Wd → Prop} (ok : OkW K off w) (h : Sat K off w (bnd (lft (truth d)) f w.st) k x) : ∃ t, d = .bl t ∧ Sat K off w (f t w.st) k x := by
  obtain ⟨t, e, q⟩ := h.bnd.lft
  exact ⟨t, truth_some e, q w (.refl w) ok rfl⟩
theorem d_nt (ha : PE X a (tD S X.K Wh pa)) (ta : PT X a (tDT S X.K Wh pa)) : PE X (.UnaryOp .Not a pos) (tD S X.K Wh (.nt pa)) ∧ PT X (.UnaryOp .Not a pos) (tDT S X.K Wh (.nt pa)) := by
  constructor
  · refine PE.imp ?_ (pe_not ha)
    rintro σ H Q ⟨off, w, env, rfl, ok, re, sat⟩
    simp only [ev] at sat
    refine ⟨off, w, env, rfl, ok, re, sat.bnd.imp fun d w1 l1 ok1 s1 x rx _ => ?_⟩
    obtain ⟨t, rfl, s2⟩ := sat_bl ok1 s1
    simp only [Rep] at rx
    exact ⟨t, rx, s2.ret ok1 _ (by simp only [Rep]) (fun z => by cases z)⟩
  · refine PT.imp ?_ (pt_not ta)
    rintro σ H Q ⟨off, w, env, rfl, ok, re, sat⟩
    simp only [ev] at sat
    rw [tst_in] at sat
    exact DT.of (Wh := Wh) ok re (sat_tst sat) fun b w1 l1 ok1 s2 => s2 w1 (.refl w1) ok1 rfl
/-- and, or: the first one's truth; then -/
theorem d_and (ha : PE X a (tD S X.K Wh pa)) (ta : PT X a (tDT S X.K Wh pa)) {rest : List Expr} (hb : PE X (.BoolOp .And (b :: rest) pos) (tD S X.K Wh pb)) (tb : PW X (.BoolOp .And (b :: rest) pos) (tDT S X.K Wh pb)) :
    PE X (.BoolOp .And (a :: b :: rest) pos) (tD S X.K Wh (.and pa pb)) ∧ PW X (.BoolOp .And (a :: b :: rest) pos) (tDT S X.K Wh (.and pa pb)) := by
  constructor
  · refine PE.imp ?_ (pe_and ha hb)
    rintro σ H Q ⟨off, w, env, rfl, ok, re, sat⟩
    simp only [ev] at sat
    refine ⟨off, w, env, rfl, ok, re, sat.bnd.imp fun d w1 l1 ok1 s1 x rx _ => ?_⟩
    obtain ⟨t, rfl, s2⟩ := sat_bl ok1 s1
    simp only [Rep] at rx
    refine ⟨t, rx, ?_⟩
    cases t with
    | true =>
      simp only [if_true] at s2 ⊢
      refine ⟨off, w1, env, rfl, ok1, re.mono ok l1, s2.imp fun d' w2 l2 ok2 q v rv _ => q v rv fun z => by cases z⟩
    | false =>
      simp only [Bool.false_eq_true, if_false] at s2 ⊢
      exact s2.ret ok1 _ (by simp only [Rep]) (fun z => by cases z)
  · refine PW.imp ?_ (pw_and ta tb)
    rintro σ H Q ⟨off, w, env, rfl, ok, re, sat⟩
    simp only [ev] at sat
    rw [tst_in] at sat
    refine DT.of (Wh := Wh) ok re (sat_tst sat) fun t w1 l1 ok1 s2 => ?_
    cases t with
    | true =>
      simp only [if_true] at s2 ⊢
      exact ⟨off, w1, env, rfl, ok1, re.mono ok l1, s2⟩
    | false =>
      simp only [Bool.false_eq_true, if_false] at s2 ⊢
      exact s2 w1 (.refl w1) ok1 rfl
theorem d_or (ha : PE X a (tD S X.K Wh pa)) (ta : PT X a (tDT S X.K Wh pa)) {rest : List Expr} (hb : PE X (.BoolOp .Or (b :: rest) pos) (tD S X.K Wh pb)) (tb : PW X (.BoolOp .Or (b :: rest) pos) (tDT S X.K Wh pb)) :
    PE X (.BoolOp .Or (a :: b :: rest) pos) (tD S X.K Wh (.or pa pb)) ∧ PW X (.BoolOp .Or (a :: b :: rest) pos) (tDT S X.K Wh (.or pa pb)) := by
  constructor
  · refine PE.imp ?_ (pe_or ha hb)
    rintro σ H Q ⟨off, w, env, rfl, ok, re, sat⟩
    simp only [ev] at sat
    refine ⟨off, w, env, rfl, ok, re, sat.bnd.imp fun d w1 l1 ok1 s1 x rx _ => ?_⟩
    obtain ⟨t, rfl, s2⟩ := sat_bl ok1 s1
    simp only [Rep] at rx
    refine ⟨t, rx, ?_⟩
    cases t with
    | true =>
      simp only [if_true] at s2 ⊢
      exact s2.ret ok1 _ (by simp only [Rep]) (fun z => by cases z)
    | false =>
      simp only [Bool.false_eq_true, if_false] at s2 ⊢
      refine ⟨off, w1, env, rfl, ok1, re.mono ok l1, s2.imp fun d' w2 l2 ok2 q v rv _ => q v rv fun z => by cases z⟩
  · refine PW.imp ?_ (pw_or ta tb)
    rintro σ H Q ⟨off, w, env, rfl, ok, re, sat⟩
    simp only [ev] at sat
    rw [tst_in] at sat
    refine DT.of (Wh := Wh) ok re (sat_tst sat) fun t w1 l1 ok1 s2 => ?_
    cases t with
    | true =>
      simp only [if_true] at s2 ⊢
      exact s2 w1 (.refl w1) ok1 rfl
    | false =>
      simp only [Bool.false_eq_true, if_false] at s2 ⊢
      exact ⟨off, w1, env, rfl, ok1, re.mono ok l1, s2⟩
/-- a if t else b, as a test too -/
theorem pt_ifE {t : Expr} {tt tA tB' : TT} (ht : PT X t tt) (ha : PT X a tA) (hb : PT X b tB') : PT X (.IfExp t a b pos) (fun σ H Q => tt σ H fun c H1 => if c = true then tA σ H1 Q else tB' σ H1 Q) := by
  refine ⟨fun pins s σ H Q I h => ?_⟩
  refine PyProof.Rows.isTrue_IfExp (thn (ht.run pins s σ H _ I h) fun d s1 ⟨H1, I1, q1⟩ => ?_)
  cases d with
  | true => simp only [if_true] at q1 ⊢; exact ha.run pins s1 σ H1 Q I1 q1
  | false => simp only [Bool.false_eq_true, if_false] at q1 ⊢; exact hb.run pins s1 σ H1 Q I1 q1
theorem d_ite {t : Expr} {pt : E} (tt : PT X t (tDT S X.K Wh pt)) (ha : PE X a (tD S X.K Wh pa)) (ta : PT X a (tDT S X.K Wh pa)) (hb : PE X b (tD S X.K Wh pb)) (tb : PT X b (tDT S X.K Wh pb)) :
    PE X (.IfExp t a b pos) (tD S X.K Wh (.ite pt pa pb)) ∧ PT X (.IfExp t a b pos) (tDT S X.K Wh (.ite pt pa pb)) := by
  constructor
  · refine PE.imp ?_ (pe_ifExp tt ha hb)
    rintro σ H Q ⟨off, w, env, rfl, ok, re, sat⟩
    simp only [ev] at sat
    refine DT.of (Wh := Wh) ok re (sat_tst sat) fun t w1 l1 ok1 s2 => ?_
    cases t with
    | true =>
      simp only [if_true] at s2 ⊢
      refine ⟨off, w1, env, rfl, ok1, re.mono ok l1, s2.imp fun d' w2 l2 ok2 q v rv _ => q v rv fun z => by cases z⟩
    | false =>
      simp only [Bool.false_eq_true, if_false] at s2 ⊢
      refine ⟨off, w1, env, rfl, ok1, re.mono ok l1, s2.imp fun d' w2 l2 ok2 q v rv _ => q v rv fun z => by cases z⟩
  · refine PT.imp ?_ (pt_ifE tt ta tb)
    rintro σ H Q ⟨off, w, env, rfl, ok, re, sat⟩
    simp only [ev] at sat
    rw [tst_in] at sat
    refine DT.of (Wh := Wh) ok re (sat_tst sat) fun t w1 l1 ok1 s2 => ?_
    cases t with
    | true =>
      simp only [if_true] at s2 ⊢
      exact ⟨off, w1, env, rfl, ok1, re.mono ok l1, s2⟩
    | false =>
      simp only [Bool.false_eq_true, if_false] at s2 ⊢
      exact ⟨off, w1, env, rfl, ok1, re.mono ok l1, s2⟩
end
end AB

set_option Elab.async false
set_option linter.all false
set_option autoImplicit false
set_option maxRecDepth 100000
/-! AnyG: expressions, further forms. -/
namespace AB
open PySem PySem.Spec L2 PyProof.Rows

section
variable {X : Cx} {S : Sg} {Wh : WX} {a b c : Expr} {pa pb pc : E} {pos : Pos}
/-- a comparison's two sides and its answer -/
theorem co_in {o : Co} {σ : L2.St} {Q : VK} {off : Addr → Prop} {w : Wd} {env : Env} {k : D → Wd → Prop} (ok : OkW X.K off w) (re : REnv X.K off w env σ)
    (sat : Sat X.K off w (bnd (ev S.C S.sub pa env) (fun x => bnd (ev S.C S.sub pb env) fun y => coM o x y) w.st) k (xk X.K off S Wh σ)) (f : ∀ t w', Le w w' → OkW X.K off w' → k (.bl t) w' → Q (.bl t) w'.H) :
    tOp (rCo X.K o) (tD S X.K Wh pa) (tD S X.K Wh pb) σ w.H Q := by
  refine ⟨off, w, env, rfl, ok, re, sat.bnd.imp fun d w1 l1 ok1 s1 x rx _ => ?_⟩
  refine ⟨off, w1, env, rfl, ok1, re.mono ok l1, s1.bnd.imp fun e w2 l2 ok2 s2 y ry _ => ?_⟩
  obtain ⟨r, hr, kk⟩ := Sat.lft (o := (coP o (drf w2.st d) (drf w2.st e)).map D.bl) s2
  simp only [Option.map_eq_some_iff] at hr
  obtain ⟨t, ht, rfl⟩ := hr
  exact ⟨off, w2, _, _, t, rfl, ok2, (Rep.mono ok1 l2 _ _ rx).drf ok2, ry.drf ok2, ht, f t w2 (l1.trans l2) ok2 (kk w2 (.refl w2) ok2 rfl)⟩
theorem d_cmp {o : Co} (hu : X.A.units + 64 < cLine) (ha : PE X a (tD S X.K Wh pa)) (hb : PE X b (tD S X.K Wh pb)) (hm : behindInMarks (cor o) b = false) :
    PE X (.Compare a [cor o] [b] pos) (tD S X.K Wh (.cmp o pa pb)) ∧ PT X (.Compare a [cor o] [b] pos) (tDT S X.K Wh (.cmp o pa pb)) := by
  constructor
  · refine PE.imp ?_ (pe_cmpR (co_any o hu) ha hb hm)
    rintro σ H Q ⟨off, w, env, rfl, ok, re, sat⟩
    simp only [ev] at sat
    exact co_in (Wh := Wh) ok re sat fun t w' l ok' q => q _ (by simp only [Rep]) fun z => by cases z
  · refine PT.imp ?_ (pt_cmpR (co_any o hu) ha hb hm)
    rintro σ H Q ⟨off, w, env, rfl, ok, re, sat⟩
    have s0 := sat.bnd
    simp only [ev] at s0
    exact co_in (Wh := Wh) ok re s0 fun t w' l ok' q => ⟨t, rfl, q w' (.refl w') ok' rfl⟩
theorem chn_in {o o' : Co} {σ : L2.St} {Q : VK} {off : Addr → Prop} {w : Wd} {env : Env} {k : D → Wd → Prop} (ok : OkW X.K off w) (re : REnv X.K off w env σ)
    (sat : Sat X.K off w (ev S.C S.sub (.chn o o' pa pb pc) env w.st) k (xk X.K off S Wh σ)) (f : ∀ t w', Le w w' → OkW X.K off w' → k (.bl t) w' → Q (.bl t) w'.H) :
    tChain (rCo X.K o) (rCo X.K o') (tD S X.K Wh pa) (tD S X.K Wh pb) (tD S X.K Wh pc) σ w.H Q := by
  simp only [ev] at sat
  refine ⟨off, w, env, rfl, ok, re, sat.bnd.imp fun d w1 l1 ok1 s1 x rx _ => ?_⟩
  refine ⟨off, w1, env, rfl, ok1, re.mono ok l1, s1.bnd.imp fun e w2 l2 ok2 s2 y ry _ => ?_⟩
  have s3 := s2.bnd
  obtain ⟨r, hr, kk⟩ := Sat.lft (o := (coP o (drf w2.st d) (drf w2.st e)).map D.bl) s3
  simp only [Option.map_eq_some_iff] at hr
  obtain ⟨t, ht, rfl⟩ := hr
  refine ⟨off, w2, _, _, t, rfl, ok2, (Rep.mono ok1 l2 _ _ rx).drf ok2, ry.drf ok2, ht, ?_⟩
  obtain ⟨t', e', s4⟩ := sat_bl ok2 (kk w2 (.refl w2) ok2 rfl)
  cases e'
  refine ⟨t, rfl, ?_⟩
  cases t with
  | true =>
    simp only [if_true] at s4 ⊢
    refine ⟨off, w2, env, rfl, ok2, (re.mono ok l1).mono ok1 l2, s4.bnd.imp fun g w3 l3 ok3 s5 z rz _ => ?_⟩
    obtain ⟨r, hr, kk⟩ := Sat.lft (o := (coP o' (drf w3.st e) (drf w3.st g)).map D.bl) s5
    simp only [Option.map_eq_some_iff] at hr
    obtain ⟨t, ht, rfl⟩ := hr
    exact ⟨off, w3, _, _, t, rfl, ok3, (Rep.mono ok2 l3 _ _ ry).drf ok3, rz.drf ok3, ht, f t w3 ((l1.trans l2).trans l3) ok3 (kk w3 (.refl w3) ok3 rfl)⟩
  | false =>
    simp only [Bool.false_eq_true, if_false] at s4 ⊢
    exact f false w2 (l1.trans l2) ok2 (s4 w2 (.refl w2) ok2 rfl)
theorem d_chn {o o' : Co} (hu : X.A.units + 64 < cLine) (ha : PE X a (tD S X.K Wh pa)) (hb : PE X b (tD S X.K Wh pb)) (hc : PE X c (tD S X.K Wh pc)) (hm : lastMarks [cor o, cor o'] [b, c] = false) :
    PE X (.Compare a [cor o, cor o'] [b, c] pos) (tD S X.K Wh (.chn o o' pa pb pc)) ∧ PT X (.Compare a [cor o, cor o'] [b, c] pos) (tDT S X.K Wh (.chn o o' pa pb pc)) := by
  constructor
  · refine PE.imp ?_ (pe_chain (co_any o hu) (co_any o' hu) ha hb hc hm)
    rintro σ H Q ⟨off, w, env, rfl, ok, re, sat⟩
    exact chn_in (Wh := Wh) ok re sat fun t w' l ok' q => q _ (by simp only [Rep]) fun z => by cases z
  · refine PT.imp ?_ (pt_chain (co_any o hu) (co_any o' hu) ha hb hc hm)
    rintro σ H Q ⟨off, w, env, rfl, ok, re, sat⟩
    exact chn_in (Wh := Wh) ok re sat.bnd fun t w' l ok' q => ⟨t, rfl, q w' (.refl w') ok' rfl⟩

/-! argument lists -/
def strd : Expr → Bool
  | .Starred _ _ => true
  | _ => false
theorem star_cons {e : Expr} {es : List Expr} {env : PySem.Env} (h : strd e = false) : starEach (e :: es) env = (false, eval e env) :: starEach es env := by
  cases e <;> first | rfl | cases h
theorem star_any {pos : Pos} {env : PySem.Env} : ∀ {es : List Expr}, (∀ e ∈ es, strd e = false) → (backTo pos (starEach es env)).any (·.1) = false
  | [], _ => rfl
  | e :: es, h => by
    rw [star_cons (h e List.mem_cons_self)]
    have := star_any (pos := pos) (env := env) (es := es) fun z hz => h z (List.mem_cons_of_mem _ hz)
    unfold backTo at this ⊢
    simp only [List.map_cons, List.any_cons, Bool.false_or]
    exact this
theorem d_nil : PA X [] (tDs S X.K Wh .nil) := by
  refine PA.imp ?_ pa_nil
  rintro σ H Q ⟨off, w, env, rfl, ok, re, sat⟩
  simp only [evs] at sat
  exact sat.ret ok [] .nil
theorem d_cons {es : List Expr} {ps : Es} (ha : PE X a (tD S X.K Wh pa)) (hs : PA X es (tDs S X.K Wh ps)) (h : strd a = false) : PA X (a :: es) (tDs S X.K Wh (.cons pa ps)) := by
  refine PA.imp ?_ (pa_cons ha hs (star_cons h))
  rintro σ H Q ⟨off, w, env, rfl, ok, re, sat⟩
  simp only [evs] at sat
  refine ⟨off, w, env, rfl, ok, re, sat.bnd.imp fun d w1 l1 ok1 s1 x rx _ => ?_⟩
  refine ⟨off, w1, env, rfl, ok1, re.mono ok l1, s1.bnd.imp fun ds w2 l2 ok2 s2 xs rs => ?_⟩
  exact s2.ret ok2 _ (.cons (Rep.mono ok1 l2 _ _ rx) rs)
theorem d_tup {es : List Expr} {ps : Es} {x1 : Nat} (hs : PA X es (tDs S X.K Wh ps)) (hl : es.length ≤ szLine) (hln : ∀ C sub env st ds st', evs C sub ps env st = .ok ds st' → ds.length = es.length) : PE X (.Tuple es x1 pos) (tD S X.K Wh (.tup ps)) := by
  refine PE.imp ?_ (pe_tup hs)
  rintro σ H Q ⟨off, w, env, rfl, ok, re, sat⟩
  simp only [ev] at sat
  have s1 := sat.bnd
  refine ⟨off, w, env, rfl, ok, re, ?_⟩
  cases q : evs S.C S.sub ps env w.st with
  | no => rw [q] at s1; exact s1
  | ex e st => rw [q] at s1; exact s1
  | ok ds st =>
    have hd := hln _ _ _ _ _ _ q
    rw [q] at s1
    intro w1 l1 ok1 e1 vs rs
    have s2 := s1 w1 l1 ok1 e1
    have hz : vs.length ≤ sizeLine := by rw [← rs.length, hd, ← szLine_eq]; exact hl
    refine ⟨hz, ?_⟩
    have g : Gives X.K off w1 (opFr (.tup ds)) (.tup ds) Q := gives_of ok1 l1 fun w' l o e v rv f => s2 w' l o e v rv fun _ => f
    exact g.newT ok1 rs
theorem d_lst {es : List Expr} {ps : Es} (hs : PA X es (tDs S X.K Wh ps)) (hl : es.length ≤ szLine) (hln : ∀ C sub env st ds st', evs C sub ps env st = .ok ds st' → ds.length = es.length) : PE X (.List es pos) (tD S X.K Wh (.lst ps)) := by
  refine PE.imp ?_ (pe_lst hs)
  rintro σ H Q ⟨off, w, env, rfl, ok, re, sat⟩
  simp only [ev] at sat
  have s1 := sat.bnd
  refine ⟨off, w, env, rfl, ok, re, ?_⟩
  cases q : evs S.C S.sub ps env w.st with
  | no => rw [q] at s1; exact s1
  | ex e st => rw [q] at s1; exact s1
  | ok ds st =>
    have hd := hln _ _ _ _ _ _ q
    rw [q] at s1
    intro w1 l1 ok1 e1 vs rs
    have s2 := s1 w1 l1 ok1 e1
    have hz : vs.length ≤ sizeLine := by rw [← rs.length, hd, ← szLine_eq]; exact hl
    refine ⟨hz, ?_⟩
    have g : Gives X.K off w1 (opFr (.lst ds)) (.lst ds) Q := gives_of ok1 l1 fun w' l o e v rv f => s2 w' l o e v rv fun _ => f
    exact g.newL ok1 rs
/-- a new list becomes a cell of the store -/
theorem d_new (hf : fr pa = true) (ha : PE X a (tD S X.K Wh pa)) : PE X a (tD S X.K Wh (.new pa)) := by
  refine PE.imp ?_ ha
  rintro σ H Q ⟨off, w, env, rfl, ok, re, sat⟩
  refine ⟨off, w, env, rfl, ok, re, ?_⟩
  simp only [ev] at sat
  unfold bnd at sat
  cases q : ev S.C S.sub pa env w.st with
  | no => rw [q] at sat; exact sat.elim
  | ex e st => rw [q] at sat; exact sat
  | ok d st =>
    rw [q] at sat
    cases d with
    | lst xs =>
      have sat : Sat X.K off w ((if D.pls xs then fun st => R.ok (D.ref st.length) (st ++ [Cell.lst xs]) else non) st) _ _ := sat
      by_cases hpl : D.pls xs = true
      case neg => rw [if_neg hpl] at sat; exact sat.elim
      rw [if_pos hpl] at sat
      have sat : Sat X.K off w (.ok (D.ref st.length) (st ++ [Cell.lst xs])) _ _ := sat
      intro w1 l1 ok1 e1 v rv hfr
      obtain ⟨H0, p, vs, rfl, n0, eH, l0, ok0, rs⟩ := hfr hf xs rfl
      have hlen := ok0.len
      have st1 : w1.st = st := e1
      let w2 : Wd := { H := w1.H, am := w1.am ++ [p], st := w1.st ++ [.lst xs], gh := w1.gh }
      have hlv : ∀ x, Live w2 x → Live { w1 with H := H0 } x ∨ x = p := by
        rintro x (⟨n, c, k1, k2, k3⟩ | g)
        case inr => exact .inl (.inr g)
        have k1 : (w1.st ++ [Cell.lst xs])[n]? = some c := k1
        have k3 : (w1.am ++ [p])[n]? = some x := k3
        by_cases hn : n < w1.st.length
        · rw [List.getElem?_append_left hn] at k1
          rw [List.getElem?_append_left (by rw [hlen]; exact hn)] at k3
          exact .inl (.inl ⟨n, c, k1, k2, k3⟩)
        · have hn2 : n = w1.st.length := by
            have := (List.getElem?_eq_some_iff.mp k1).1
            rw [List.length_append] at this
            simp at this
            omega
          have hn3 : n = w1.am.length := by rw [hlen]; exact hn2
          rw [hn3, List.getElem?_append_right (Nat.le_refl _)] at k3
          simp at k3
          exact .inr k3.symm
      have le02 : Le { w1 with H := H0 } w2 := by
        refine ⟨⟨fun x o h _ => ?_, ⟨[p], rfl⟩, fun x h => ?_⟩, fun x o g h => ⟨g, ?_⟩⟩
        rotate_right
        · show w1.H x = some o
          rw [eH, upd_ne (ne_of_none h n0)]; exact h
        · show w1.H x = some o
          rw [eH, upd_ne (ne_of_none h n0)]; exact h
        · rcases hlv x h with z | z
          · exact .inl z
          · subst z; exact .inr n0
      have ok2 : OkW X.K off w2 := by
        have old : ∀ {n : Nat} {c : Cell} {x : Addr}, w2.st[n]? = some c → w2.am[n]? = some x → (w1.st[n]? = some c ∧ w1.am[n]? = some x) ∨ (c = .lst xs ∧ x = p ∧ n = w1.st.length) := fun {n c x} k1 k3 => by
          have k1 : (w1.st ++ [Cell.lst xs])[n]? = some c := k1
          have k3 : (w1.am ++ [p])[n]? = some x := k3
          by_cases hn : n < w1.st.length
          · rw [List.getElem?_append_left hn] at k1
            rw [List.getElem?_append_left (by rw [hlen]; exact hn)] at k3
            exact .inl ⟨k1, k3⟩
          · have hn2 : n = w1.st.length := by
              have := (List.getElem?_eq_some_iff.mp k1).1
              rw [List.length_append] at this
              simp at this
              omega
            have hn3 : n = w1.am.length := by rw [hlen]; exact hn2
            rw [hn3, List.getElem?_append_right (Nat.le_refl _)] at k3
            rw [hn2, List.getElem?_append_right (Nat.le_refl _)] at k1
            simp at k3 k1
            exact .inr ⟨k1.symm, k3.symm, hn2⟩
        have np : ∀ {n : Nat} {c : Cell} {x : Addr}, w1.st[n]? = some c → c.liv = true → w1.am[n]? = some x → x ≠ p := fun {n c x} k1 k2 k3 z => by
          obtain ⟨vs', e', _⟩ := ok0.live_lst (a := x) (.inl ⟨n, c, k1, k2, k3⟩)
          have e2 : H0 x = some vs' := e'
          rw [z, n0] at e2; cases e2
        refine ⟨?_, fun n ys x k1 k3 => ?_, fun n ns x k1 k3 => ?_, fun n c x k1 k3 => ?_, fun n m c d x k1 k2 k3 k4 k5 k6 => ?_, fun x hx => ?_, fun x g => ?_, fun n ys k1 => ?_, fun x n c g k1 k2 k3 => ?_⟩
        rotate_right 3
        · obtain ⟨us, h1, h2⟩ := ok0.gh x g
          refine ⟨us, ?_, h2⟩
          show w1.H x = _
          rw [eH, upd_ne (ne_of_none h1 n0)]; exact h1
        · have k1 : (w1.st ++ [Cell.lst xs])[n]? = some (.lst ys) := k1
          rw [List.getElem?_append] at k1
          split at k1
          · exact ok0.pur n ys k1
          · have e3 := List.mem_of_getElem? k1
            simp only [List.mem_singleton] at e3
            cases e3
            exact hpl
        · rcases old k1 k3 with ⟨h1, h3⟩ | ⟨_, h3, _⟩
          · exact ok0.ghd x n c g h1 k2 h3
          · obtain ⟨us, h1, _⟩ := ok0.gh x g
            have e2 : H0 x = some us := h1
            rw [h3, n0] at e2; cases e2
        · show (w1.am ++ [p]).length = (w1.st ++ [Cell.lst xs]).length
          rw [List.length_append, List.length_append, hlen]
          rfl
        · rcases old k1 k3 with ⟨k1, k3⟩ | ⟨k1, k3, _⟩
          · obtain ⟨us, h1, h2⟩ := ok0.lst n ys x k1 k3
            refine ⟨us, ?_, Reps.mono ok0 le02 _ _ h2⟩
            show w1.H x = _
            rw [eH, upd_ne (ne_of_none h1 n0)]; exact h1
          · cases k1
            subst k3
            refine ⟨vs, ?_, Reps.mono ok0 le02 _ _ rs⟩
            show w1.H x = _
            rw [eH, upd_same]
        · rcases old k1 k3 with ⟨k1, k3⟩ | ⟨k1, k3, _⟩
          · rcases ok0.scr n ns x k1 k3 with ⟨u, h1⟩ | h1
            · refine .inl ⟨u, ?_⟩
              show w1.H x = _
              rw [eH, upd_ne (ne_of_none h1 n0)]; exact h1
            · exact .inr h1
          · cases k1
        · rcases old k1 k3 with ⟨k1, k3⟩ | ⟨k1, k3, _⟩
          · exact ok0.nol n c x k1 k3
          · subst k1
            exact ⟨fun k z => (nomatch z), fun k f z => (nomatch z)⟩
        · rcases old k1 k5 with ⟨h1, h5⟩ | ⟨h1, h5, e5⟩
          · rcases old k2 k6 with ⟨h2, h6⟩ | ⟨h2, h6, e6⟩
            · exact ok0.inj n m c d x h1 h2 k3 k4 h5 h6
            · exact absurd h6 (np h1 k3 h5)
          · rcases old k2 k6 with ⟨h2, h6⟩ | ⟨h2, h6, e6⟩
            · exact absurd h5 (np h2 k4 h6)
            · rw [e5, e6]
        · obtain ⟨⟨o, h1⟩, h2⟩ := ok0.off x hx
          refine ⟨⟨o, ?_⟩, fun z => ?_⟩
          · show w1.H x = _
            rw [eH, upd_ne (ne_of_none h1 n0)]; exact h1
          · rcases hlv x z with z | z
            · exact h2 z
            · have e2 : H0 x = some o := h1
              rw [z, n0] at e2; cases e2
      have := sat w2 (l0.trans le02) ok2 (by show w1.st ++ _ = _; rw [st1]) (.ref p) (by
        simp only [Rep]
        refine ⟨p, rfl, ?_⟩
        show (w1.am ++ [p])[st.length]? = some p
        rw [← st1, ← hlen, List.getElem?_append_right (Nat.le_refl _)]
        simp) (fun z => by cases z)
      exact this
    | _ => exact sat.elim
end
end AB

set_option Elab.async false
set_option linter.all false
set_option autoImplicit false
set_option maxRecDepth 100000
/-! AnyI: items, slices, calls. -/
namespace AB
open PySem PySem.Spec L2 PyProof.Rows

section
variable {X : Cx} {S : Sg} {Wh : WX} {a b c : Expr} {pa pb pc : E} {pos p2 : Pos}
theorem d_ix (ha : PE X a (tD S X.K Wh pa)) (hb : PE X b (tD S X.K Wh pb)) (hs : PlainIx b) : PE X (.Subscript a b pos) (tD S X.K Wh (.ix pa pb)) := by
  refine PE.imp ?_ (pe_ix ix_any ha hb hs)
  rintro σ H Q ⟨off, w, env, rfl, ok, re, sat⟩
  simp only [ev] at sat
  refine ⟨off, w, env, rfl, ok, re, sat.bnd.imp fun d w1 l1 ok1 s1 x rx _ => ?_⟩
  refine ⟨off, w1, env, rfl, ok1, re.mono ok l1, s1.bnd.imp fun e w2 l2 ok2 s2 y ry _ => ?_⟩
  cases e with
  | int i =>
    simp only [Rep] at ry
    obtain ⟨r, hr, kk⟩ := Sat.lft (o := ixP (drf w2.st d) i) s2
    exact ⟨off, w2, _, r, i, rfl, ok2, (Rep.mono ok1 l2 _ _ rx).drf ok2, ry, hr, fun v rv => kk w2 (.refl w2) ok2 rfl v rv fun z => by cases z⟩
  | _ => exact s2.elim
theorem sl_in {d : D} {lo hi : Option Int} {Q : VK} {off : Addr → Prop} {w w0 : Wd} {x : V} {ex : Ex → Wd → Prop} (ok : OkW X.K off w) (l0 : Le w0 w) (rx : RepR X.K off w (drf w.st d) x)
    (s2 : Sat X.K off w (lft (slP (drf w.st d) lo hi) w.st) (fun d w' => ∀ v, Rep X.K off w' d v → (True → ∀ xs, d = .lst xs → Frs X.K off w0 w' xs v) → Q v w'.H) ex) : rSlD X.K x lo hi w.H Q := by
  obtain ⟨r, hr, kk⟩ := s2.lft
  exact ⟨off, w, _, r, rfl, ok, rx, hr, gives_of ok l0 fun w' l o q v rv f => kk w' l o q v rv fun _ => f⟩
/-- an int, taken out -/
theorem sat_int {α : Type} {K : PySem.W.Frag} {off : Addr → Prop} {w : Wd} {d : D} {f : Int → M α} {k : α → Wd → Prop} {x : Ex → Wd → Prop} (ok : OkW K off w) (h : Sat K off w (bnd (lft (toI d)) f w.st) k x) : ∃ t, d = .int t ∧ Sat K off w (f t w.st) k x := by
  obtain ⟨t, e, q⟩ := h.bnd.lft
  refine ⟨t, ?_, q w (.refl w) ok rfl⟩
  cases d with
  | int i => exact congrArg D.int (Option.some.inj e)
  | _ => cases e
theorem d_sll (ha : PE X a (tD S X.K Wh pa)) (hb : PE X b (tD S X.K Wh pb)) : PE X (.Subscript a (.Slice (some b) none none p2) pos) (tD S X.K Wh (.sll pa pb)) := by
  refine PE.imp ?_ (pe_slice sl_any ha (po_some hb) po_none)
  rintro σ H Q ⟨off, w, env, rfl, ok, re, sat⟩
  simp only [ev] at sat
  refine ⟨off, w, env, rfl, ok, re, sat.bnd.imp fun d w1 l1 ok1 s1 x rx _ => ?_⟩
  refine ⟨off, w1, env, rfl, ok1, re.mono ok l1, s1.bnd.imp fun e w2 l2 ok2 s2 y ry _ => ?_⟩
  obtain ⟨i, rfl, s3⟩ := sat_int ok2 s2
  simp only [Rep] at ry
  refine ⟨i, ry, sl_in (w0 := w) ok2 (l1.trans l2) ((Rep.mono ok1 l2 _ _ rx).drf ok2) (ex := xk X.K off S Wh σ) ?_⟩
  exact Sat.imp (k := fun d w' => ∀ v, Rep X.K off w' d v → (fr (.sll pa pb) = true → ∀ xs, d = .lst xs → Frs X.K off w w' xs v) → Q v w'.H) s3 fun _ _ _ _ q v rv f => q v rv fun _ => f trivial
theorem d_slh (ha : PE X a (tD S X.K Wh pa)) (hb : PE X b (tD S X.K Wh pb)) : PE X (.Subscript a (.Slice none (some b) none p2) pos) (tD S X.K Wh (.slh pa pb)) := by
  refine PE.imp ?_ (pe_slice sl_any ha po_none (po_some hb))
  rintro σ H Q ⟨off, w, env, rfl, ok, re, sat⟩
  simp only [ev] at sat
  refine ⟨off, w, env, rfl, ok, re, sat.bnd.imp fun d w1 l1 ok1 s1 x rx _ => ?_⟩
  refine ⟨off, w1, env, rfl, ok1, re.mono ok l1, s1.bnd.imp fun e w2 l2 ok2 s2 y ry _ => ?_⟩
  obtain ⟨i, rfl, s3⟩ := sat_int ok2 s2
  simp only [Rep] at ry
  refine ⟨i, ry, sl_in (w0 := w) ok2 (l1.trans l2) ((Rep.mono ok1 l2 _ _ rx).drf ok2) (ex := xk X.K off S Wh σ) ?_⟩
  exact Sat.imp (k := fun d w' => ∀ v, Rep X.K off w' d v → (fr (.slh pa pb) = true → ∀ xs, d = .lst xs → Frs X.K off w w' xs v) → Q v w'.H) s3 fun _ _ _ _ q v rv f => q v rv fun _ => f trivial
theorem d_slb (ha : PE X a (tD S X.K Wh pa)) (hb : PE X b (tD S X.K Wh pb)) (hc : PE X c (tD S X.K Wh pc)) : PE X (.Subscript a (.Slice (some b) (some c) none p2) pos) (tD S X.K Wh (.slb pa pb pc)) := by
  refine PE.imp ?_ (pe_slice sl_any ha (po_some hb) (po_some hc))
  rintro σ H Q ⟨off, w, env, rfl, ok, re, sat⟩
  simp only [ev] at sat
  refine ⟨off, w, env, rfl, ok, re, sat.bnd.imp fun d w1 l1 ok1 s1 x rx _ => ?_⟩
  refine ⟨off, w1, env, rfl, ok1, re.mono ok l1, s1.bnd.imp fun e w2 l2 ok2 s2 y ry _ => ?_⟩
  obtain ⟨i, rfl, s3⟩ := sat_int ok2 s2
  simp only [Rep] at ry
  refine ⟨i, ry, off, w2, env, rfl, ok2, (re.mono ok l1).mono ok1 l2, s3.bnd.imp fun g w3 l3 ok3 s4 z rz _ => ?_⟩
  obtain ⟨j, rfl, s5⟩ := sat_int ok3 s4
  simp only [Rep] at rz
  refine ⟨j, rz, sl_in (w0 := w) ok3 ((l1.trans l2).trans l3) ((Rep.mono ok2 l3 _ _ (Rep.mono ok1 l2 _ _ rx)).drf ok3) (ex := xk X.K off S Wh σ) ?_⟩
  exact Sat.imp (k := fun d w' => ∀ v, Rep X.K off w' d v → (fr (.slb pa pb pc) = true → ∀ xs, d = .lst xs → Frs X.K off w w' xs v) → Q v w'.H) s5 fun _ _ _ _ q v rv f => q v rv fun _ => f trivial

/-! calls -/
def biS : Bi → Str
  | .len => "len" | .all => "all" | .any => "any" | .sorted => "sorted" | .tuple => "tuple" | .list => "list" | .min2 => "min" | .max2 => "max"
  | .minL => "min" | .maxL => "max" | .abs => "abs" | .int => "int" | .str => "str" | .bool => "bool"
theorem d_bi {bb : Bi} {es : List Expr} {ps : Es} {p : Pos} (hr : CallR X (biF bb) (rBi X.K bb)) (hg : Gl X (biS bb)) (hm : X.mg (biS bb) = none) (hs : PA X (a :: es) (tDs S X.K Wh ps)) (st : ∀ e ∈ a :: es, strd e = false) :
    PE X (.Call (.Name (biS bb) p) (a :: es) [] pos) (tD S X.K Wh (.bi bb ps)) := by
  have h1 : starEach (a :: es) X.env = (false, eval a X.env) :: starEach es X.env := star_cons (st a List.mem_cons_self)
  have h2 : (backTo pos (starEach es X.env)).any (·.1) = false := star_any fun e he => st e (List.mem_cons_of_mem _ he)
  have h : PE X (.Call (.Name (biS bb) p) (a :: es) [] pos) (tCB (rBi X.K bb) (tDs S X.K Wh ps)) := by
    cases bb with
    | len => exact pe_callB hr hg hm (by decide +kernel) hs (by decide +kernel) (by decide +kernel) h1 h2
    | all => exact pe_callB hr hg hm (by decide +kernel) hs (by decide +kernel) (by decide +kernel) h1 h2
    | any => exact pe_callB hr hg hm (by decide +kernel) hs (by decide +kernel) (by decide +kernel) h1 h2
    | sorted => exact pe_callB hr hg hm (by decide +kernel) hs (by decide +kernel) (by decide +kernel) h1 h2
    | min2 => exact pe_callB hr hg hm (by decide +kernel) hs (by decide +kernel) (by decide +kernel) h1 h2
    | max2 => exact pe_callB hr hg hm (by decide +kernel) hs (by decide +kernel) (by decide +kernel) h1 h2
    | minL => exact pe_callB hr hg hm (by decide +kernel) hs (by decide +kernel) (by decide +kernel) h1 h2
    | maxL => exact pe_callB hr hg hm (by decide +kernel) hs (by decide +kernel) (by decide +kernel) h1 h2
    | abs => exact pe_callB hr hg hm (by decide +kernel) hs (by decide +kernel) (by decide +kernel) h1 h2
    | tuple => exact pe_callTy hr hg hm (by decide +kernel) hs (by decide +kernel) (by decide +kernel) h1 h2
    | list => exact pe_callTy hr hg hm (by decide +kernel) hs (by decide +kernel) (by decide +kernel) h1 h2
    | int => exact pe_callTy hr hg hm (by decide +kernel) hs (by decide +kernel) (by decide +kernel) h1 h2
    | str => exact pe_callTy hr hg hm (by decide +kernel) hs (by decide +kernel) (by decide +kernel) h1 h2
    | bool => exact pe_callTy hr hg hm (by decide +kernel) hs (by decide +kernel) (by decide +kernel) h1 h2
  refine PE.imp ?_ h
  rintro σ H Q ⟨off, w, env, rfl, ok, re, sat⟩
  simp only [ev] at sat
  refine ⟨off, w, env, rfl, ok, re, sat.bnd.imp fun ds w1 l1 ok1 s1 vs rs => ?_⟩
  obtain ⟨r, hb, kk⟩ := Sat.lft (o := biP bb (ds.map (drf w1.st))) s1
  exact ⟨off, w1, _, r, rfl, ok1, rs.drf ok1, hb, gives_of ok1 l1 fun w' l o q v rv f => kk w' l o q v rv fun _ => f⟩
theorem d_isi {t : Ty} {p p1 : Pos} (hg : Gl X "isinstance") (hm : X.mg "isinstance" = none) (hg2 : Gl X (Str.ofString (tyN t))) (hm2 : X.mg (Str.ofString (tyN t)) = none) (ha : PE X a (tD S X.K Wh pa)) (hs : strd a = false) :
    PE X (.Call (.Name "isinstance" p) [a, .Name (Str.ofString (tyN t)) p1] [] pos) (tD S X.K Wh (.isi pa t)) := by
  have h2 : PE X (.Name (Str.ofString (tyN t)) p1) (tC (.ty (tyN t))) := by
    cases t <;> exact pe_bltn hg2 hm2 (by decide +kernel) rfl (by decide +kernel) (by decide +kernel)
  have h := pe_callB (pos := pos) (p := p) (isi_any t) hg hm boot_isinstance (pa_cons ha (pa_cons h2 pa_nil) (star_cons hs)) (by decide) (by decide) (star_cons hs) (star_any fun e he => by
    simp only [List.mem_singleton] at he; subst he; rfl)
  refine PE.imp ?_ h
  rintro σ H Q ⟨off, w, env, rfl, ok, re, sat⟩
  simp only [ev] at sat
  refine ⟨off, w, env, rfl, ok, re, sat.bnd.imp fun d w1 l1 ok1 s1 x rx _ => ?_⟩
  obtain ⟨r, hb, kk⟩ := Sat.lft (o := (isiP t (drf w1.st d)).map D.bl) s1
  simp only [Option.map_eq_some_iff] at hb
  obtain ⟨t', ht, rfl⟩ := hb
  exact ⟨off, w1, _, x, t', rfl, ok1, rfl, rx.drf ok1, ht, kk w1 (.refl w1) ok1 rfl _ (by simp only [Rep]) fun z => by cases z⟩

/-! a def's call -/
/-- what a def promises: its value by C -/
def spC (S : Sg) (K : PySem.W.Frag) (f : Nat) : Sp := fun vs H Q E => ∃ (off : Addr → Prop) (w : Wd) (ds : List D), w.H = H ∧ OkW K off w ∧ Reps K off w ds vs ∧
  Sat K off w (S.C f ds w.st) (fun d w' => ∀ v, Rep K off w' d v → Q v w'.H) (fun e w' => ∀ d, RepX K off S w' e d → E (S.cv e.cls) d w'.H)
theorem d_call {k f : Nat} {ad : Addr} {fd : FuncData} {ps : List Str} {x : Str} {es : List Expr} {qs : Es} {p : Pos} (F : FnOk X.prog X.w X.K X.mg X.base (L2.CX X.prog X.w) k ad fd ps (spC S X.K f)) (hr : Room k X.A) (hg : Gl X x) (hm : X.mg x = some (.ref ad))
    (hk : PySem.W.keepIn X.K (.ref ad) = true) (hb : Binds X.K fd ps []) (hx : ∀ σ, PassesAt (L2.CX X.prog X.w) X σ (WE Wh σ)) (hs : PA X (a :: es) (tDs S X.K Wh qs)) (st : ∀ e ∈ a :: es, strd e = false) (hdb : (x == ("__debug__" : Str)) = false) :
    PE X (.Call (.Name x p) (a :: es) [] pos) (tD S X.K Wh (.call f qs)) := by
  refine PE.imp ?_ (pe_callS F hr hg hm hk hb hx hs hdb (star_cons (st a List.mem_cons_self)) (star_any fun e he => st e (List.mem_cons_of_mem _ he)))
  rintro σ H Q ⟨off, w, env, rfl, ok, re, sat⟩
  simp only [ev] at sat
  refine ⟨off, w, env, rfl, ok, re, sat.bnd.imp fun ds w1 l1 ok1 s1 vs rs => ?_⟩
  exact ⟨off, w1, ds, rfl, ok1, rs, s1.imp fun d w2 l2 ok2 q v rv => q v rv fun z => by cases z⟩
theorem d_call0 {k f : Nat} {ad : Addr} {fd : FuncData} {ps : List Str} {x : Str} {p : Pos} (F : FnOk X.prog X.w X.K X.mg X.base (L2.CX X.prog X.w) k ad fd ps (spC S X.K f)) (hr : Room k X.A) (hg : Gl X x) (hm : X.mg x = some (.ref ad))
    (hk : PySem.W.keepIn X.K (.ref ad) = true) (hb : Binds X.K fd ps []) (hx : ∀ σ, PassesAt (L2.CX X.prog X.w) X σ (WE Wh σ)) (hdb : (x == ("__debug__" : Str)) = false) :
    PE X (.Call (.Name x p) [] [] pos) (tD S X.K Wh (.call f .nil)) := by
  refine ⟨fun pins s σ H Q I h => ?_⟩
  obtain ⟨off, w, env, rfl, ok, re, sat⟩ := h
  simp only [ev, evs] at sat
  have s1 := sat.bnd.ret ok
  refine wpAny_Call_Name_kw (ld_glob I hg hm ?_ hdb)
  refine PySem.W.callWith_K0 I.kIn hk (run_fnS (us := []) F hr hb (hx σ) I .nil ?_)
  exact ⟨off, w, [], rfl, ok, .nil, s1.imp fun d w2 l2 ok2 q v rv => q v rv fun z => by cases z⟩
end
end AB

set_option Elab.async false
set_option linter.all false
set_option autoImplicit false
set_option maxRecDepth 100000
/-! AnyJ: enumerate and zip of lists, tuples, texts in any mix. -/
namespace AB
open PySem PySem.Spec L2 PyProof.Rows

/-- what zip and enumerate draw from -/
inductive Src where
  | lst (a : Addr) | tup (a : Addr) | txt (x : Str) (t : Tok)
def Src.val : Src → Value
  | .lst a => .ref a
  | .tup a => .ref a
  | .txt x t => .str x t
def Src.adr : Src → List Addr
  | .lst a => [a]
  | .tup a => [a]
  | .txt _ _ => []
def Src.itr (h : Heap) (it : Addr) (k : Nat) : Src → Prop
  | .lst a => h.IsListIter it a k
  | .tup a => h.IsTupleIter it a k
  | .txt x t => h.IsStrIter it (strIterType x) x t k
def Src.has (K : PySem.W.Frag) (H : Hp) (xs : List V) : Src → Prop
  | .lst a => SqL K H a xs
  | .tup a => SqT K H a xs
  | .txt x _ => xs = x.cps.toList.map fun c => V.str ⟨#[c]⟩
theorem itr_there {s : Src} {h : Heap} {it : Addr} {k : Nat} (e : s.itr h it k) : ∃ o, h.get? it = some o ∧ ∀ v, o.data ≠ .cell v := by
  cases s with
  | lst a => obtain ⟨o, h1, _, h2⟩ := e; exact ⟨o, h1, fun v q => by rw [h2] at q; cases q⟩
  | tup a => obtain ⟨o, h1, _, h2⟩ := e; exact ⟨o, h1, fun v q => by rw [h2] at q; cases q⟩
  | txt x t => obtain ⟨o, h1, _, h2⟩ := e; exact ⟨o, h1, fun v q => by rw [h2] at q; cases q⟩
theorem itr_at {s : Src} {h h' : Heap} {it : Addr} {k : Nat} (e : s.itr h it k) (f : ∀ o, h.get? it = some o → h'.get? it = some o) : s.itr h' it k := by
  cases s with
  | lst a => exact Heap.IsListIter.at e f
  | tup a => exact Heap.IsTupleIter.at e f
  | txt x t => obtain ⟨o, h1, r⟩ := e; exact ⟨o, f o h1, r⟩
section
variable {X : Cx} {pins : List (Addr × Obj)} {σ : L2.St} {H : Hp} {s : Shared}
theorem has_inj {c : Src} {xs ys : List V} (I : L2.Inv X pins σ H s) (h : c.has X.K H xs) (h' : c.has X.K H ys) : xs = ys := by
  cases c with
  | lst a => exact I.list_inj h h'
  | tup a => exact I.tuple_inj h h'
  | txt x t => exact Eq.trans h h'.symm
/-- what is drawn -/
theorem src_draws {c : Src} {xs : List V} {A : Around} (hh : A.handled = none) (I : L2.Inv X pins σ H s) (h : c.has X.K H xs) (it : Addr) (hne : it ∉ c.adr) :
    ∃ (P : Nat → Value → Prop) (St : Nat → Heap → Prop), Draws (prog := X.prog) (w := X.w) A it (it :: c.adr) xs.length P St ∧ (∀ i, c.itr s.heap it i → St i s.heap) ∧ (∀ i h, St i h → c.itr h it i) ∧ ∀ i v, P i v → ∃ x, xs[i]? = some x ∧ RelV x v := by
  cases c with
  | lst a =>
    obtain ⟨its, rv, p, _⟩ := I.list h
    have ne : a ≠ it := fun e => hne (by simp [Src.adr, e])
    have D := Draws.list (prog := X.prog) (w := X.w) hh it a ne its.toArray
    rw [show its.toArray.size = xs.length by simp [rv.length]] at D
    refine ⟨_, _, D, fun i q => ⟨q, p.isList⟩, fun i h q => q.1, fun i v e => ?_⟩
    have e2 : its[i]? = some v := by simpa using e
    have hi : i < xs.length := by rw [rv.length]; exact (List.getElem?_eq_some_iff.mp e2).1
    obtain ⟨u, k1, k2⟩ := rv.get (List.getElem?_eq_getElem hi)
    rw [e2] at k1; cases k1
    exact ⟨_, List.getElem?_eq_getElem hi, k2⟩
  | tup a =>
    obtain ⟨its, rv, p, _⟩ := I.tuple h
    have ne : a ≠ it := fun e => hne (by simp [Src.adr, e])
    have D := Draws.tuple (prog := X.prog) (w := X.w) hh it a ne its.toArray
    rw [show its.toArray.size = xs.length by simp [rv.length]] at D
    refine ⟨_, _, D, fun i q => ⟨q, p⟩, fun i h q => q.1, fun i v e => ?_⟩
    have e2 : its[i]? = some v := by simpa using e
    have hi : i < xs.length := by rw [rv.length]; exact (List.getElem?_eq_some_iff.mp e2).1
    obtain ⟨u, k1, k2⟩ := rv.get (List.getElem?_eq_getElem hi)
    rw [e2] at k1; cases k1
    exact ⟨_, List.getElem?_eq_getElem hi, k2⟩
  | txt x t =>
    have e0 : xs = x.cps.toList.map fun c => V.str ⟨#[c]⟩ := h
    have D := Draws.text (prog := X.prog) (w := X.w) hh it x t
    rw [show x.cps.size = xs.length by rw [e0]; simp] at D
    refine ⟨_, _, D, fun i q => q, fun i h q => q, fun i v ⟨c, u, e1, e2⟩ => ?_⟩
    refine ⟨V.str ⟨#[c]⟩, ?_, ⟨u, e2⟩⟩
    rw [e0, List.getElem?_map]
    have : x.cps.toList[i]? = some c := by simpa using e1
    rw [this]; rfl
theorem src_begins {c : Src} {xs : List V} (I : L2.Inv X pins σ H s) (h : c.has X.K H xs) : ∃ (o : Obj) (Hh : Heap → Prop), Begins c.val o Hh ∧ Hh s.heap ∧ (∀ (h : Heap) (it : Addr), h.get? it = some o → c.itr h it 0) ∧ ∀ b ∈ c.adr, b < s.heap.objs.size := by
  cases c with
  | lst a =>
    obtain ⟨its, rv, p, _⟩ := I.list h
    exact ⟨_, _, begins_list a its.toArray, p.isList, fun h it e => ⟨_, e, rfl, rfl⟩, fun b hb => by
      have e : b = a := by simpa [Src.adr] using hb
      subst e; exact p.lt⟩
  | tup a =>
    obtain ⟨its, rv, p, _⟩ := I.tuple h
    exact ⟨_, _, begins_tuple a its.toArray, p, fun h it e => ⟨_, e, rfl, rfl⟩, fun b hb => by
      have e : b = a := by simpa [Src.adr] using hb
      subst e
      obtain ⟨o, ho, _⟩ := id p
      exact Heap.lt_size ho⟩
  | txt x t => exact ⟨_, _, begins_text x t, trivial, fun h it e => ⟨_, e, rfl, rfl⟩, fun b hb => by simp [Src.adr] at hb⟩
end

/-! zip -/
def ItZ (K : PySem.W.Frag) (c d : Src) : It :=
  ⟨fun i H => ∃ xs ys, c.has K H xs ∧ d.has K H ys ∧ i < min xs.length ys.length,
    fun i H v H' => ∃ T x y, v = .ref T ∧ H T = none ∧ H' = upd H T (.tup [x, y]) ∧ (∀ xs, c.has K H xs → xs[i]? = some x) ∧ ∀ ys, d.has K H ys → ys[i]? = some y,
    fun i H => ∃ xs ys, c.has K H xs ∧ d.has K H ys ∧ i = min xs.length ys.length⟩
theorem turn_zipS {P : Program} {w : World} {K : PySem.W.Frag} {elts : List Expr} {kk : Nat} {tpos : Pos} {c d : Src} {z TI TO i1 i2 : Addr} (Z : ZipSep2 z TI TO i1 i2 (i1 :: c.adr) (i2 :: d.adr)) (n1 : i1 ∉ c.adr) (n2 : i2 ∉ d.adr) :
    Turn P w K (.Tuple elts kk tpos) (ItZ K c d) [z, TI, TO, i1, i2] z (fun i h => IsZip h z TI TO .none ∧ IsTupOf2 h TI (.ref i1) (.ref i2) ∧ (∃ x y, IsTupOf2 h TO x y) ∧ c.itr h i1 i ∧ d.itr h i2 i) where
  mem := by simp
  obj := fun i h st b hb => by
    obtain ⟨hz, hTI, ⟨x, y, hTO⟩, h1, h2⟩ := st
    have e' : b = z ∨ b = TI ∨ b = TO ∨ b = i1 ∨ b = i2 := by simpa using hb
    rcases e' with q | q | q | q | q
    · subst q; exact ⟨_, hz, fun v e => nomatch e⟩
    · subst q; exact ⟨_, hTI, fun v e => nomatch e⟩
    · subst q; exact ⟨_, hTO, fun v e => nomatch e⟩
    · subst q; exact itr_there h1
    · subst q; exact itr_there h2
  keep := fun i h h' st k => by
    obtain ⟨hz, hTI, ⟨x, y, hTO⟩, h1, h2⟩ := st
    exact ⟨k z (by simp) _ hz, k TI (by simp) _ hTI, ⟨x, y, k TO (by simp) _ hTO⟩, itr_at h1 fun o q => k i1 (by simp) o q, itr_at h2 fun o q => k i2 (by simp) o q⟩
  item := by
    intro X hP hw hK hc i pins s σ H E I hf st hg
    subst hP hw hK
    obtain ⟨hz, hTI, ⟨x0, y0, hTO⟩, h1, h2⟩ := st
    obtain ⟨xs, ys, qx, qy, hi⟩ := hg
    have hh : X.A.in1.handled = none := I.ok.hd hc
    obtain ⟨P1, St1, D1, a1, b1, c1⟩ := src_draws hh I qx i1 n1
    obtain ⟨P2, St2, D2, a2, b2, c2⟩ := src_draws hh I qy i2 n2
    have W := GoesN.zip2 (elts := elts) (x1 := kk) (pos := tpos) Z D1 D2
    have there : ∀ b ∈ [z, TI, TO, i1, i2], b < s.heap.objs.size := fun b hb => by
      have e' : b = z ∨ b = TI ∨ b = TO ∨ b = i1 ∨ b = i2 := by simpa using hb
      rcases e' with q | q | q | q | q
      · subst q; exact Heap.lt_size hz
      · subst q; exact Heap.lt_size hTI
      · subst q; exact Heap.lt_size hTO
      · subst q; obtain ⟨o, e, _⟩ := itr_there h1; exact Heap.lt_size e
      · subst q; obtain ⟨o, e, _⟩ := itr_there h2; exact Heap.lt_size e
    refine W.goes i s _ E hi ⟨hz, hTI, ⟨x0, y0, hTO⟩, a1 i h1, a2 i h2⟩ fun v h' tk hY st' hk _ => ?_
    obtain ⟨T, u1, u2, rfl, hT, p1, p2, ht⟩ := hY
    obtain ⟨x, ex, rx⟩ := c1 i u1 p1
    obtain ⟨y, ey, ry⟩ := c2 i u2 p2
    have new : ObjOk X.prog X.w (upd H T (.tup [x, y])) h' T (.tup [x, y]) := ⟨by show 2 ≤ sizeLine; decide, [u1, u2], .cons rx (.cons ry .nil), ht⟩
    have I1 : L2.Inv X pins σ (upd H T (.tup [x, y])) { s with heap := h', toks := tk } :=
      I.turnedNew (t' := tk) (ch := [z, TI, TO, i1, i2]) (fun b o hb q => hk b o (fun q' => hb (by
        have e' : b = z ∨ b = TO ∨ b = i1 ∨ b = i2 := by simpa using q'
        simp; rcases e' with e | e | e | e <;> simp [e])) q) hf hT new
    obtain ⟨k1, k2, k3, k4, k5⟩ := st'
    exact ⟨.ref T, _, I1, rfl, ⟨T, x, y, rfl, I.hok.fresh hT, rfl, fun l hl => by rw [has_inj I hl qx]; exact ex, fun l hl => by rw [has_inj I hl qy]; exact ey⟩,
      ⟨k1, k2, k3, b1 _ _ k4, b2 _ _ k5⟩, fun b hb => by
        rw [upd_ne (Nat.ne_of_lt (Nat.lt_of_lt_of_le (there b hb) hT))]
        exact (hf b hb).1⟩
  done := by
    intro X hP hw hK hc i pins s σ H E I hf st hg
    subst hP hw hK
    obtain ⟨hz, hTI, ⟨x0, y0, hTO⟩, h1, h2⟩ := st
    obtain ⟨xs, ys, qx, qy, hi⟩ := hg
    have hh : X.A.in1.handled = none := I.ok.hd hc
    obtain ⟨P1, St1, D1, a1, b1, c1⟩ := src_draws hh I qx i1 n1
    obtain ⟨P2, St2, D2, a2, b2, c2⟩ := src_draws hh I qy i2 n2
    have W := GoesN.zip2 (elts := elts) (x1 := kk) (pos := tpos) Z D1 D2
    subst hi
    exact W.stops s _ E ⟨hz, hTI, ⟨x0, y0, hTO⟩, a1 _ h1, a2 _ h2⟩ fun h' tk hk _ => I.turnedL (t' := tk) (ch := [z, TI, TO, i1, i2]) (fun b o hb q => hk b o (fun q' => hb (by
        have e' : b = z ∨ b = TO ∨ b = i1 ∨ b = i2 := by simpa using q'
        simp; rcases e' with e | e | e | e <;> simp [e])) q) hf
  self := fun A i s Q E st h => wpAny_pyIter_zip st.1 h
/-- the value that a source is -/
def Src.vv : Src → V
  | .lst a => .ref a
  | .tup a => .ref a
  | .txt x _ => .str x
theorem src_tok {c : Src} {u : Value} (r : RelV c.vv u) : ∃ c' : Src, c'.val = u ∧ ∀ K H xs, c'.has K H xs = c.has K H xs := by
  cases c with
  | lst a => cases r; exact ⟨.lst a, rfl, fun _ _ _ => rfl⟩
  | tup a => cases r; exact ⟨.tup a, rfl, fun _ _ _ => rfl⟩
  | txt x t => obtain ⟨t', rfl⟩ := r; exact ⟨.txt x t', rfl, fun _ _ _ => rfl⟩
theorem itZ_tok {K : PySem.W.Frag} {c c' d d' : Src} (h : ∀ K H xs, c'.has K H xs = c.has K H xs) (k : ∀ K H xs, d'.has K H xs = d.has K H xs) : ItZ K c' d' = ItZ K c d := by
  unfold ItZ
  simp only [h, k]
def iZipS (K : PySem.W.Frag) (ta : TA) : TI := fun σ H R => ta σ H fun vs H1 => ∃ (c d : Src) (xs ys : List V), vs = [c.vv, d.vv] ∧ c.has K H1 xs ∧ d.has K H1 ys ∧ R (ItZ K c d) H1
theorem pi_zipS {X : Cx} {e e2 : Expr} {ta : TA} {p pos tpos : Pos} {elts : List Expr} {kk : Nat} (hg : Gl X "zip") (hm : X.mg "zip" = none) (ha : PA X [e, e2] ta)
    (hs : starEach [e, e2] X.env = (false, eval e X.env) :: starEach [e2] X.env) (hpl : (backTo pos (starEach [e2] X.env)).any (·.1) = false) :
    PI X (.Tuple elts kk tpos) (.Call (.Name "zip" p) [e, e2] [] pos) (iZipS X.K ta) := by
  refine ⟨fun pins s σ H R I h => ?_⟩
  refine Call_ (ld_blt I hg hm PyProof.Rows.boot_zip (PyProof.Rows.callWith_type1 (thn (ha.run pos pins s σ H _ I h) fun us s1 ⟨vs, H1, I1, r1, q1⟩ => ?_) hs hpl))
  obtain ⟨c0, d0, xs, ys, rfl, hx, hy, q⟩ := q1
  cases r1 with
  | cons r rr =>
    cases rr with
    | cons r' rr =>
      cases rr
      obtain ⟨c, ec, tc⟩ := src_tok r
      obtain ⟨d, ed, td⟩ := src_tok r'
      have hc : c.has X.K H1 xs := by rw [tc]; exact hx
      have hd : d.has X.K H1 ys := by rw [td]; exact hy
      rw [← itZ_tok tc td] at q
      subst ec ed
      obtain ⟨o1, G1, B1, g1, i1, l1⟩ := src_begins I1 hc
      obtain ⟨o2, G2, B2, g2, i2, l2⟩ := src_begins I1 hd
      refine zip_begins2 B1 B2 g1 g2 fun h' hz hTI hTO h1 h2 hsz hk => wpAny_pyIter_zip hz ?_
      have I2 : L2.Inv X pins σ H1 { s1 with heap := h' } := I1.kept (t' := s1.toks) hk
      have nin : ∀ {c : Src} {k : Nat}, (∀ b ∈ c.adr, b < s1.heap.objs.size) → s1.heap.objs.size + k ∉ c.adr := fun {c k} l hb => by
        have := l _ hb
        exact absurd this (Nat.not_lt.mpr (Nat.le_add_right _ _))
      refine ⟨s1.heap.objs.size + 4, [s1.heap.objs.size + 4, s1.heap.objs.size + 2, s1.heap.objs.size + 3, s1.heap.objs.size, s1.heap.objs.size + 1], _, _, H1, rfl, I2,
        turn_zipS (zip_sep2 l1 l2) (nin (k := 0) l1) (nin l2), ⟨hz, hTI, ⟨_, _, hTO⟩, i1 _ _ h1, i2 _ _ h2⟩, fun b hb => ?_, q⟩
      have hle : s1.heap.objs.size ≤ b := by
        have e' : b = s1.heap.objs.size + 4 ∨ b = s1.heap.objs.size + 2 ∨ b = s1.heap.objs.size + 3 ∨ b = s1.heap.objs.size ∨ b = s1.heap.objs.size + 1 := by simpa using hb
        rcases e' with z | z | z | z | z <;> (rw [z]; first | exact Nat.le_add_right _ _ | exact Nat.le_refl _)
      exact I1.fpOk hle (I1.hok.fresh hle)

/-! enumerate -/
section
open Sem (wp)
open AutoSeq1 (wpAny_loadPart')
theorem enum_new1 {v : Value} {o : Obj} {G : Heap → Prop} (B : Begins v o G) :
    Meets (Builtin.«enumerate.__new__» ⟨[.type "enumerate", v], []⟩) (fun _ R s => G s.heap ∧
      R (.ok (.ret (.ref (s.heap.push o).objs.size))) { s with heap := (s.heap.push o).push { cls := .type "enumerate", data := .fields #[.none, .bool false, .ref s.heap.objs.size, rawInt 0, .none, .none] } }) :=
  .of_wp fun pr wo A R s h => by
    obtain ⟨hp, g, d, tk, os⟩ := s
    obtain ⟨h1, h⟩ := h
    have hsub := sub_enumerate
    have q1 : ∀ {A' : Around} {E' : Value → Shared → Prop} {Q' : Value → Shared → Prop}, Q' (.ref hp.objs.size) ⟨hp.push o, g, d, tk, os⟩ → wpAny (model pr wo) A' (pyIter v) Q' E' ⟨hp, g, d, tk, os⟩ :=
      fun q => B.iter pr wo _ _ ⟨hp, g, d, tk, os⟩ _ h1 q
    wp_walk using q1
    refine wpAny_stack_any fun z => wpAny_pure ?_
    split
    · rename_i c _ _ _ _ _
      cases (c == Value.type "enumerate") <;> (wp_walk using q1; exact ⟨_, rfl, h⟩)
    · wp_walk using q1; exact ⟨_, rfl, h⟩
end
theorem enum_begin1 {pr : Program} {wo : World} {A : Around} {E : Value → Shared → Prop} {s : Shared} {v : Value} {o : Obj} {G : Heap → Prop} {Q : Value → Shared → Prop} (B : Begins v o G) (h1 : G s.heap)
    (h : ∀ h', IsEnum h' (s.heap.objs.size + 1) s.heap.objs.size 0 .none → h'.get? s.heap.objs.size = some o → (∀ b u, s.heap.get? b = some u → h'.get? b = some u) → Q (.ref (s.heap.objs.size + 1)) { s with heap := h' }) :
    wpAny (model pr wo) A (call (.type "enumerate") [v]) Q E s := by
  refine callType_new F.called_enumerate (by decide) (F.typeCall_enumerate_1 _) (F.newCall_enumerate_1 _) (fun obj => F.args_object_init_2 obj _) F.entry_enumerate_new (enum_new1 B) ⟨h1, ?_⟩
  have hz : (s.heap.push o).objs.size = s.heap.objs.size + 1 := Heap.size_push ..
  show _ ∧ _
  rw [hz]
  have he : IsEnum ((s.heap.push o).push { cls := .type "enumerate", data := .fields #[.none, .bool false, .ref s.heap.objs.size, rawInt 0, .none, .none] }) (s.heap.objs.size + 1) s.heap.objs.size 0 .none := by
    have z := Heap.get?_push_size (s.heap.push o) (o := { cls := .type "enumerate", data := .fields #[.none, .bool false, .ref s.heap.objs.size, rawInt 0, .none, .none] }) rfl
    rw [hz] at z; exact z
  exact ⟨⟨_, he, rfl⟩, h _ he (Heap.get?_push_of_some _ (Heap.get?_push_size _ B.free)) fun b u x => Heap.get?_push_of_some _ (Heap.get?_push_of_some _ x)⟩
def ItE (K : PySem.W.Frag) (c : Src) : It :=
  ⟨fun i H => ∃ xs, c.has K H xs ∧ i < xs.length,
    fun i H v H' => ∃ T x, v = .ref T ∧ H T = none ∧ H' = upd H T (.tup [.int (i : Nat), x]) ∧ ∀ xs, c.has K H xs → xs[i]? = some x,
    fun i H => ∃ xs, c.has K H xs ∧ i = xs.length⟩
theorem turn_enumS {P : Program} {w : World} {K : PySem.W.Frag} {elts : List Expr} {kk : Nat} {tpos : Pos} {c : Src} {e it : Addr} (ne : e ≠ it) (n1 : it ∉ c.adr) (n2 : e ∉ c.adr) :
    Turn P w K (.Tuple elts kk tpos) (ItE K c) [e, it] e (fun i h => (∃ old, IsEnum h e it (0 + ((i : Nat) : Int)) old) ∧ c.itr h it i) where
  mem := by simp
  obj := fun i h st b hb => by
    obtain ⟨⟨old, he⟩, h1⟩ := st
    have e' : b = e ∨ b = it := by simpa using hb
    rcases e' with q | q
    · subst q; exact ⟨_, he, fun v e => nomatch e⟩
    · subst q; exact itr_there h1
  keep := fun i h h' st k => by
    obtain ⟨⟨old, he⟩, h1⟩ := st
    exact ⟨⟨old, k e (by simp) _ he⟩, itr_at h1 fun o q => k it (by simp) o q⟩
  item := by
    intro X hP hw hK hc i pins s σ H E I hf st hg
    subst hP hw hK
    obtain ⟨⟨old, he⟩, h1⟩ := st
    obtain ⟨xs, qx, hi⟩ := hg
    have hh : X.A.in1.handled = none := I.ok.hd hc
    obtain ⟨P1, St1, D1, a1, b1, c1⟩ := src_draws hh I qx it n1
    have W := GoesN.enumFrom (elts := elts) (x1 := kk) (pos := tpos) 0 D1 e ne (by simp [ne, n2]) (by simp)
    have there : ∀ b ∈ [e, it], b < s.heap.objs.size := fun b hb => by
      have e' : b = e ∨ b = it := by simpa using hb
      rcases e' with q | q
      · subst q; exact Heap.lt_size he
      · subst q; obtain ⟨o, e, _⟩ := itr_there h1; exact Heap.lt_size e
    refine W.goes i s _ E hi ⟨⟨old, he⟩, a1 i h1⟩ fun v h' tk hY st' hk _ => ?_
    obtain ⟨T, t, u1, rfl, hT, p1, ht⟩ := hY
    obtain ⟨x, ex, rx⟩ := c1 i u1 p1
    have ei : (0 : Int) + (i : Int) = ((i : Nat) : Int) := by omega
    rw [ei] at ht
    have new : ObjOk X.prog X.w (upd H T (.tup [.int (i : Nat), x])) h' T (.tup [.int (i : Nat), x]) := ⟨by show 2 ≤ sizeLine; decide, [.int (i : Nat) t, u1], .cons ⟨_, rfl⟩ (.cons rx .nil), ht⟩
    have I1 : L2.Inv X pins σ (upd H T (.tup [.int (i : Nat), x])) { s with heap := h', toks := tk } := I.turnedNew (t' := tk) (ch := [e, it]) hk hf hT new
    obtain ⟨⟨o2, k1⟩, k2⟩ := st'
    exact ⟨.ref T, _, I1, rfl, ⟨T, x, rfl, I.hok.fresh hT, rfl, fun l hl => by rw [has_inj I hl qx]; exact ex⟩,
      ⟨⟨o2, k1⟩, b1 _ _ k2⟩, fun b hb => by
        rw [upd_ne (Nat.ne_of_lt (Nat.lt_of_lt_of_le (there b hb) hT))]
        exact (hf b hb).1⟩
  done := by
    intro X hP hw hK hc i pins s σ H E I hf st hg
    subst hP hw hK
    obtain ⟨⟨old, he⟩, h1⟩ := st
    obtain ⟨xs, qx, hi⟩ := hg
    have hh : X.A.in1.handled = none := I.ok.hd hc
    obtain ⟨P1, St1, D1, a1, b1, c1⟩ := src_draws hh I qx it n1
    have W := GoesN.enumFrom (elts := elts) (x1 := kk) (pos := tpos) 0 D1 e ne (by simp [ne, n2]) (by simp)
    subst hi
    exact W.stops s _ E ⟨⟨old, he⟩, a1 _ h1⟩ fun h' tk hk _ => I.turnedL (t' := tk) (ch := [e, it]) hk hf
  self := fun A i s Q E st h => let ⟨⟨_, he⟩, _⟩ := st; wpAny_pyIter_enum he h
theorem itE_tok {K : PySem.W.Frag} {c c' : Src} (h : ∀ K H xs, c'.has K H xs = c.has K H xs) : ItE K c' = ItE K c := by
  unfold ItE
  simp only [h]
def iEnumS (K : PySem.W.Frag) (ta : TA) : TI := fun σ H R => ta σ H fun vs H1 => ∃ (c : Src) (xs : List V), vs = [c.vv] ∧ c.has K H1 xs ∧ R (ItE K c) H1
theorem pi_enumS {X : Cx} {e : Expr} {ta : TA} {p pos tpos : Pos} {elts : List Expr} {kk : Nat} (hg : Gl X "enumerate") (hm : X.mg "enumerate" = none) (ha : PA X [e] ta) (hs : starEach [e] X.env = (false, eval e X.env) :: starEach [] X.env) :
    PI X (.Tuple elts kk tpos) (.Call (.Name "enumerate" p) [e] [] pos) (iEnumS X.K ta) := by
  refine ⟨fun pins s σ H R I h => ?_⟩
  refine Call_ (ld_blt I hg hm boot_enumerate (PyProof.Rows.callWith_type1 (thn (ha.run pos pins s σ H _ I h) fun us s1 ⟨vs, H1, I1, r1, q1⟩ => ?_) hs rfl))
  obtain ⟨c0, xs, rfl, hx, q⟩ := q1
  cases r1 with
  | cons r rr =>
    cases rr
    obtain ⟨c, ec, tc⟩ := src_tok r
    have hc : c.has X.K H1 xs := by rw [tc]; exact hx
    rw [← itE_tok tc] at q
    subst ec
    obtain ⟨o1, G1, B1, g1, i1, l1⟩ := src_begins I1 hc
    refine enum_begin1 B1 g1 fun h' he h1 hk => wpAny_pyIter_enum he ?_
    have I2 : L2.Inv X pins σ H1 { s1 with heap := h' } := I1.kept (t' := s1.toks) hk
    have nin : ∀ {c : Src} {k : Nat}, (∀ b ∈ c.adr, b < s1.heap.objs.size) → s1.heap.objs.size + k ∉ c.adr := fun {c k} l hb => by
      have := l _ hb
      exact absurd this (Nat.not_lt.mpr (Nat.le_add_right _ _))
    refine ⟨s1.heap.objs.size + 1, [s1.heap.objs.size + 1, s1.heap.objs.size], _, _, H1, rfl, I2, turn_enumS (Nat.succ_ne_self _) (nin (k := 0) l1) (nin l1), ⟨⟨.none, he⟩, i1 _ _ h1⟩, fun b hb => ?_, q⟩
    have hle : s1.heap.objs.size ≤ b := by
      have e' : b = s1.heap.objs.size + 1 ∨ b = s1.heap.objs.size := by simpa using hb
      rcases e' with z | z <;> (rw [z]; first | exact Nat.le_add_right _ _ | exact Nat.le_refl _)
    exact I1.fpOk hle (I1.hok.fresh hle)
end AB

set_option Elab.async false
set_option linter.all false
set_option autoImplicit false
set_option maxRecDepth 100000
/-! AnyK: what is walked. -/
namespace AB
open PySem PySem.Spec L2 PyProof.Rows

/-- J gives the items xs, one a turn, whatever comes behind w -/
def Itm (K : PySem.W.Frag) (off : Addr → Prop) (w : Wd) (xs : List D) (J : It) : Prop := ∃ (G : Hp → Prop) (Y : Nat → Hp → V → Hp → Prop), Walk J xs.length G Y ∧ (∀ w', LeW w w' → G w'.H) ∧
  ∀ i H x H', i < xs.length → Y i H x H' → ∃ d, xs[i]? = some d ∧ ((H' = H ∧ Rep K off w d x) ∨
    ∃ p d1 d2 x1 x2, d = .tup [d1, d2] ∧ x = .ref p ∧ H p = none ∧ H' = upd H p (.tup [x1, x2]) ∧ Rep K off w d1 x1 ∧ Rep K off w d2 x2)
def iD (S : Sg) (K : PySem.W.Frag) (Wh : WX) (p : I) : TI := fun σ H R => ∃ (off : Addr → Prop) (w : Wd) (env : Env), w.H = H ∧ OkW K off w ∧ REnv K off w env σ ∧
  Sat K off w (its S.C S.sub p env w.st) (fun xs w' => ∀ J, Itm K off w' xs J → R J w'.H) (xk K off S Wh σ)
section
variable {K : PySem.W.Frag} {off : Addr → Prop} {w : Wd}
theorem itm_list {a : Addr} {xs : List D} {vs : List V} (h : w.H a = some (.lst vs)) (n : ¬ Live w a) (r : Reps K off w xs vs) : Itm K off w xs (Itl K a) := by
  have W : Walk (Itl K a) vs.length (fun H => SqL K H a vs) (YAt vs) := walk_list
  rw [← r.length] at W
  refine ⟨_, _, W, fun w' l => SqL.of (l.keep _ _ h n), fun i H x H' _ y => ?_⟩
  obtain ⟨e1, e2⟩ := y
  obtain ⟨d, k1, k2⟩ := r.back e2
  exact ⟨d, k1, .inl ⟨e1, k2⟩⟩
theorem itm_tup {a : Addr} {xs : List D} {vs : List V} (ok : OkW K off w) (h : SqT K w.H a vs) (r : Reps K off w xs vs) : Itm K off w xs (Itt K a) := by
  have W : Walk (Itt K a) vs.length (fun H => SqT K H a vs) (YAt vs) := walk_tup
  rw [← r.length] at W
  refine ⟨_, _, W, fun w' l => l.sqt ok h, fun i H x H' _ y => ?_⟩
  obtain ⟨e1, e2⟩ := y
  obtain ⟨d, k1, k2⟩ := r.back e2
  exact ⟨d, k1, .inl ⟨e1, k2⟩⟩
theorem itm_str {z : Str} : Itm K off w (z.cps.toList.map fun c => D.str ⟨#[c]⟩) (Its z) := by
  have W : Walk (Its z) z.cps.size (fun _ => True) (fun i H v H' => H' = H ∧ ∃ c, z.cps[i]? = some c ∧ v = .str ⟨#[c]⟩) := walk_str
  have e : (z.cps.toList.map fun c => D.str ⟨#[c]⟩).length = z.cps.size := by simp
  rw [← e] at W
  refine ⟨_, _, W, fun w' l => trivial, fun i H x H' _ y => ?_⟩
  obtain ⟨e1, c, e2, e3⟩ := y
  refine ⟨D.str ⟨#[c]⟩, ?_, .inl ⟨e1, by simp only [Rep]; exact e3⟩⟩
  rw [List.getElem?_map]
  have : z.cps.toList[i]? = some c := by simpa using e2
  rw [this]; rfl
theorem range_len (i : Int) : ∀ n, (AB.range i n).length = n
  | 0 => rfl
  | n + 1 => by simp [AB.range, range_len (i + 1) n]
theorem range_at : ∀ (n : Nat) (i : Int) (k : Nat), k < n → (AB.range i n)[k]? = some (.int (i + k))
  | 0, _, _, h => absurd h (Nat.not_lt_zero _)
  | n + 1, i, 0, _ => by simp [AB.range]
  | n + 1, i, k + 1, h => by
    have := range_at n (i + 1) k (by omega)
    simp only [AB.range, List.getElem?_cons_succ, this]
    congr 2
    omega
theorem itm_range {i : Int} {n : Nat} : Itm K off w (AB.range i n) (Itr i n) := by
  have W : Walk (Itr i n) n (fun _ => True) (YFn fun k => .int (i + k)) := walk_range
  rw [← range_len i n] at W
  have e : Itr i (AB.range i n).length = Itr i n := by rw [range_len]
  rw [e] at W
  refine ⟨_, _, W, fun w' l => trivial, fun k H x H' hk y => ?_⟩
  obtain ⟨e1, e2⟩ := y
  rw [range_len] at hk
  exact ⟨_, range_at n i k hk, .inl ⟨e1, by simp only [Rep]; exact e2⟩⟩
theorem enum_len (k : Int) : ∀ xs : List D, (enumD k xs).length = xs.length
  | [] => rfl
  | x :: xs => by simp [enumD, enum_len (k + 1) xs]
theorem enum_at : ∀ (xs : List D) (k : Int) (i : Nat) (d : D), xs[i]? = some d → (enumD k xs)[i]? = some (.tup [.int (k + i), d])
  | [], _, _, _, h => by simp at h
  | x :: xs, k, 0, d, h => by simp at h; subst h; simp [enumD]
  | x :: xs, k, i + 1, d, h => by
    have := enum_at xs (k + 1) i d (by simpa using h)
    simp only [enumD, List.getElem?_cons_succ, this]
    congr 4
    omega
theorem zip_len : ∀ xs ys : List D, (zipD xs ys).length = min xs.length ys.length
  | [], _ => by simp [zipD]
  | _ :: _, [] => by simp [zipD]
  | x :: xs, y :: ys => by simp only [zipD, List.length_cons, zip_len xs ys]; omega
theorem zip_at : ∀ (xs ys : List D) (i : Nat) (a b : D), xs[i]? = some a → ys[i]? = some b → (zipD xs ys)[i]? = some (.tup [a, b])
  | [], _, _, _, _, h, _ => by simp at h
  | _ :: _, [], _, _, _, _, h => by simp at h
  | x :: xs, y :: ys, 0, a, b, h, k => by simp at h k; subst h k; simp [zipD]
  | x :: xs, y :: ys, i + 1, a, b, h, k => by simpa [zipD] using zip_at xs ys i a b (by simpa using h) (by simpa using k)
/-- a value that can be walked, as a source -/
theorem src_items {d : D} {v : V} {xs : List D} (ok : OkW K off w) (r : Rep K off w d v) (h : items d = some xs) : ∃ (c : Src) (vs : List V), v = c.vv ∧ Reps K off w xs vs ∧ ∀ w', LeW w w' → c.has K w'.H vs := by
  cases d with
  | lst ys =>
    cases h
    simp only [Rep] at r
    obtain ⟨a, vs, e, h1, _, h2, h3⟩ := r
    exact ⟨.lst a, vs, e, h3, fun w' l => SqL.of (l.keep _ _ h1 h2)⟩
  | tup ys =>
    cases h
    simp only [Rep] at r
    obtain ⟨a, vs, e, h1, h3⟩ := r
    exact ⟨.tup a, vs, e, h3, fun w' l => l.sqt ok h1.sq⟩
  | str z =>
    simp only [items] at h
    split at h
    · cases h
      simp only [Rep] at r
      refine ⟨.txt z 0, z.cps.toList.map fun c => V.str ⟨#[c]⟩, r, ?_, fun w' l => rfl⟩
      generalize z.cps.toList = l
      induction l with
      | nil => exact .nil
      | cons c l ih => exact .cons (by simp only [Rep]) ih
    · cases h
  | _ => cases h
theorem itm_zip {c d : Src} {xs ys : List D} {vs us : List V} (rx : Reps K off w xs vs) (ry : Reps K off w ys us) (hc : ∀ w', LeW w w' → c.has K w'.H vs) (hd : ∀ w', LeW w w' → d.has K w'.H us) : Itm K off w (zipD xs ys) (ItZ K c d) := by
  refine ⟨fun H => c.has K H vs ∧ d.has K H us, fun i H v H' => ∃ T x y, v = .ref T ∧ H T = none ∧ H' = upd H T (.tup [x, y]) ∧ vs[i]? = some x ∧ us[i]? = some y, ⟨fun i H hi g => ?_, fun H g => ?_, fun i H x H' hi g y => ?_⟩, fun w' l => ⟨hc w' l, hd w' l⟩, fun i H x H' hi y => ?_⟩
  · rw [zip_len, rx.length, ry.length] at hi
    exact ⟨vs, us, g.1, g.2, hi⟩
  · refine ⟨vs, us, g.1, g.2, ?_⟩
    rw [zip_len, rx.length, ry.length]
  · obtain ⟨T, a, b, h1, h2, h3, h4, h5⟩ := y
    exact ⟨T, a, b, h1, h2, h3, h4 vs g.1, h5 us g.2⟩
  · obtain ⟨T, a, b, h1, h2, h3, h4, h5⟩ := y
    obtain ⟨d1, k1, k2⟩ := rx.back h4
    obtain ⟨d2, k3, k4⟩ := ry.back h5
    exact ⟨_, zip_at xs ys i d1 d2 k1 k3, .inr ⟨T, d1, d2, a, b, rfl, h1, h2, h3, k2, k4⟩⟩
theorem itm_enum {c : Src} {xs : List D} {vs : List V} (rx : Reps K off w xs vs) (hc : ∀ w', LeW w w' → c.has K w'.H vs) : Itm K off w (enumD 0 xs) (ItE K c) := by
  refine ⟨fun H => c.has K H vs, fun i H v H' => ∃ T x, v = .ref T ∧ H T = none ∧ H' = upd H T (.tup [.int (i : Nat), x]) ∧ vs[i]? = some x, ⟨fun i H hi g => ?_, fun H g => ?_, fun i H x H' hi g y => ?_⟩, hc, fun i H x H' hi y => ?_⟩
  · rw [enum_len, rx.length] at hi
    exact ⟨vs, g, hi⟩
  · refine ⟨vs, g, ?_⟩
    rw [enum_len, rx.length]
  · obtain ⟨T, a, h1, h2, h3, h4⟩ := y
    exact ⟨T, a, h1, h2, h3, h4 vs g⟩
  · obtain ⟨T, a, h1, h2, h3, h4⟩ := y
    obtain ⟨d1, k1, k2⟩ := rx.back h4
    have e := enum_at xs 0 i d1 k1
    rw [show (0 : Int) + (i : Int) = ((i : Nat) : Int) by omega] at e
    exact ⟨_, e, .inr ⟨T, .int (i : Nat), d1, .int (i : Nat), a, rfl, h1, h2, h3, by simp only [Rep], k2⟩⟩
end
section
variable {X : Cx} {S : Sg} {Wh : WX} {a b : Expr} {pa pb : E} {pos p : Pos} {tg : Expr}
theorem PI.imp {tg e : Expr} {t t' : TI} (f : ∀ σ H Q, t σ H Q → t' σ H Q) (h : PI X tg e t') : PI X tg e t := ⟨fun pins s σ H Q I q => h.run pins s σ H Q I (f σ H Q q)⟩
theorem i_ov (ha : PE X a (tD S X.K Wh pa)) : PI X tg a (iD S X.K Wh (.ov pa)) := by
  refine ⟨fun pins s σ H R I h => ?_⟩
  obtain ⟨off, w, env, rfl, ok, re, sat⟩ := h
  simp only [its] at sat
  have s1 := sat.bnd
  have go : ∀ {t : TI}, PI X tg a t → t σ w.H R → _ := fun {t} P q => P.run pins s σ w.H R I q
  cases q : ev S.C S.sub pa env w.st with
  | no => rw [q] at s1; exact s1.elim
  | ex e st =>
    refine go (pi_list ha) ⟨off, w, env, rfl, ok, re, ?_⟩
    rw [q] at s1 ⊢
    exact s1
  | ok d st =>
    rw [q] at s1
    have fin : ∀ w', Le w w' → OkW X.K off w' → w'.st = st → ∃ xs, items d = some xs ∧ ∀ J, Itm X.K off w' xs J → R J w'.H := fun w' l o e => by
      obtain ⟨xs, e1, k⟩ := (s1 w' l o e).lft
      exact ⟨xs, e1, k w' (.refl w') o rfl⟩
    cases d with
    | lst ys =>
      refine go (pi_list ha) ⟨off, w, env, rfl, ok, re, ?_⟩
      rw [q]
      intro w' l o e v rv _
      obtain ⟨xs, e1, k⟩ := fin w' l o e
      cases e1
      simp only [Rep] at rv
      obtain ⟨c, vs, e2, h1, _, h2, h3⟩ := rv
      exact ⟨c, e2, ⟨vs, SqL.of h1⟩, k _ (itm_list h1 h2 h3)⟩
    | tup ys =>
      refine go (pi_tup ha) ⟨off, w, env, rfl, ok, re, ?_⟩
      rw [q]
      intro w' l o e v rv _
      obtain ⟨xs, e1, k⟩ := fin w' l o e
      cases e1
      simp only [Rep] at rv
      obtain ⟨c, vs, e2, h1, h3⟩ := rv
      exact ⟨c, e2, ⟨vs, h1.sq⟩, k _ (itm_tup o h1.sq h3)⟩
    | str z =>
      refine go (pi_str ha) ⟨off, w, env, rfl, ok, re, ?_⟩
      rw [q]
      intro w' l o e v rv _
      obtain ⟨xs, e1, k⟩ := fin w' l o e
      simp only [items] at e1
      split at e1
      · cases e1
        simp only [Rep] at rv
        exact ⟨z, rv, k _ itm_str⟩
      · cases e1
    | _ =>
      refine go (pi_list ha) ⟨off, w, env, rfl, ok, re, ?_⟩
      rw [q]
      intro w' l o e v rv _
      obtain ⟨xs, e1, k⟩ := fin w' l o e
      cases e1
theorem rng_in {x y : D} {xs : List D} (h : rngP x y = some xs) : ∃ i j : Int, x = .int i ∧ y = .int j ∧ i.natAbs < 2 ^ 24 ∧ j.natAbs < 2 ^ 24 ∧ xs = AB.range i (j - i).toNat := by
  unfold rngP at h
  split at h
  · rename_i i j
    split at h
    · rename_i hz
      cases h
      exact ⟨i, j, rfl, rfl, hz.1, hz.2, rfl⟩
    · cases h
  · cases h
theorem i_rng1 (hg : Gl X "range") (hm : X.mg "range" = none) (ha : PE X a (tD S X.K Wh pa)) (hs : strd a = false) : PI X tg (.Call (.Name "range" p) [a] [] pos) (iD S X.K Wh (.rng1 pa)) := by
  refine PI.imp ?_ (pi_range1 hg hm (pa_cons ha pa_nil (star_cons hs)) (by rw [star_cons hs]; rfl))
  rintro σ H R ⟨off, w, env, rfl, ok, re, sat⟩
  simp only [its] at sat
  refine ⟨off, w, env, rfl, ok, re, sat.bnd.imp fun d w1 l1 ok1 s1 x rx _ => ?_⟩
  obtain ⟨xs, e, k⟩ := s1.lft
  obtain ⟨i, j, e1, rfl, h1, h2, rfl⟩ := rng_in e
  cases e1
  simp only [Rep] at rx
  subst rx
  refine ⟨j, rfl, by omega, by omega, k w1 (.refl w1) ok1 rfl _ ?_⟩
  rw [show (j - 0).toNat = j.toNat by simp]
  exact itm_range
theorem i_rng2 (hg : Gl X "range") (hm : X.mg "range" = none) (ha : PE X a (tD S X.K Wh pa)) (hb : PE X b (tD S X.K Wh pb)) (hs : strd a = false) (hs2 : strd b = false) : PI X tg (.Call (.Name "range" p) [a, b] [] pos) (iD S X.K Wh (.rng2 pa pb)) := by
  refine PI.imp ?_ (pi_range2 hg hm (pa_cons ha (pa_cons hb pa_nil (star_cons hs2)) (star_cons hs)) (by rw [star_cons hs, star_cons hs2]; rfl) (by rw [star_cons hs2]; rfl))
  rintro σ H R ⟨off, w, env, rfl, ok, re, sat⟩
  simp only [its] at sat
  refine ⟨off, w, env, rfl, ok, re, sat.bnd.imp fun d w1 l1 ok1 s1 x rx _ => ?_⟩
  refine ⟨off, w1, env, rfl, ok1, re.mono ok l1, s1.bnd.imp fun e w2 l2 ok2 s2 y ry _ => ?_⟩
  obtain ⟨xs, e, k⟩ := s2.lft
  obtain ⟨i, j, rfl, rfl, h1, h2, rfl⟩ := rng_in e
  simp only [Rep] at rx ry
  subst rx ry
  exact ⟨i, j, rfl, ⟨by omega, by omega, by omega, by omega⟩, k w2 (.refl w2) ok2 rfl _ itm_range⟩
theorem i_enm {elts : List Expr} {kk : Nat} {tpos : Pos} (hg : Gl X "enumerate") (hm : X.mg "enumerate" = none) (ha : PE X a (tD S X.K Wh pa)) (hs : strd a = false) : PI X (.Tuple elts kk tpos) (.Call (.Name "enumerate" p) [a] [] pos) (iD S X.K Wh (.enm pa)) := by
  refine PI.imp ?_ (pi_enumS hg hm (pa_cons ha pa_nil (star_cons hs)) (star_cons hs))
  rintro σ H R ⟨off, w, env, rfl, ok, re, sat⟩
  simp only [its] at sat
  refine ⟨off, w, env, rfl, ok, re, sat.bnd.imp fun d w1 l1 ok1 s1 x rx _ => ?_⟩
  obtain ⟨xs, e, k⟩ := s1.bnd.lft
  obtain ⟨c, vs, e2, r2, st⟩ := src_items ok1 rx e
  subst e2
  exact ⟨c, vs, rfl, st w1 (.refl w1), (k w1 (.refl w1) ok1 rfl).ret ok1 _ (itm_enum r2 st)⟩
theorem i_zip {elts : List Expr} {kk : Nat} {tpos : Pos} (hg : Gl X "zip") (hm : X.mg "zip" = none) (ha : PE X a (tD S X.K Wh pa)) (hb : PE X b (tD S X.K Wh pb)) (hs : strd a = false) (hs2 : strd b = false) :
    PI X (.Tuple elts kk tpos) (.Call (.Name "zip" p) [a, b] [] pos) (iD S X.K Wh (.zip pa pb)) := by
  refine PI.imp ?_ (pi_zipS hg hm (pa_cons ha (pa_cons hb pa_nil (star_cons hs2)) (star_cons hs)) (star_cons hs) (star_any fun e he => by simp only [List.mem_singleton] at he; subst he; exact hs2))
  rintro σ H R ⟨off, w, env, rfl, ok, re, sat⟩
  simp only [its] at sat
  refine ⟨off, w, env, rfl, ok, re, sat.bnd.imp fun d w1 l1 ok1 s1 x rx _ => ?_⟩
  refine ⟨off, w1, env, rfl, ok1, re.mono ok l1, s1.bnd.imp fun e w2 l2 ok2 s2 y ry _ => ?_⟩
  obtain ⟨xs, e1, k⟩ := s2.bnd.lft
  obtain ⟨ys, e2, k2⟩ := (k w2 (.refl w2) ok2 rfl).bnd.lft
  obtain ⟨c, vs, e3, r3, st3⟩ := src_items ok2 (Rep.mono ok1 l2 _ _ rx) e1
  obtain ⟨d', us, e4, r4, st4⟩ := src_items ok2 ry e2
  subst e3 e4
  exact ⟨c, d', vs, us, rfl, st3 w2 (.refl w2), st4 w2 (.refl w2), (k2 w2 (.refl w2) ok2 rfl).ret ok2 _ (itm_zip r3 r4 st3 st4)⟩
end
end AB

set_option Elab.async false
set_option linter.all false
set_option autoImplicit false
set_option maxRecDepth 100000
/-! AnyL: targets, list comprehensions. -/
namespace AB
open PySem PySem.Spec L2 PyProof.Rows

/-! the slots of a target -/
mutual
def T.sl : T → List Nat
  | .n i => [i]
  | .t ts => Ts.sl ts
def Ts.sl : Ts → List Nat
  | .nil => []
  | .cons t ts => T.sl t ++ Ts.sl ts
end
/-- nothing but these slots is another -/
def Fix (l : List Nat) (σ σ' : L2.St) : Prop := σ'.length = σ.length ∧ ∀ (j : Nat), j ∉ l → σ'[j]? = σ[j]?
theorem Fix.refl (l : List Nat) (σ : L2.St) : Fix l σ σ := ⟨rfl, fun _ _ => rfl⟩
theorem Fix.trans {l m : List Nat} {a b c : L2.St} (h : Fix l a b) (k : Fix m b c) : Fix (l ++ m) a c :=
  ⟨k.1.trans h.1, fun j hj => (k.2 j fun z => hj (List.mem_append_right _ z)).trans (h.2 j fun z => hj (List.mem_append_left _ z))⟩
def gD (K : PySem.W.Frag) (t : T) : TG := fun v σ H Q => ∃ (off : Addr → Prop) (w : Wd) (env : Env) (d : D) (env' : Env), w.H = H ∧ OkW K off w ∧ REnv K off w env σ ∧ Rep K off w d v ∧ asg t d env = some env' ∧
  ∀ σ', REnv K off w env' σ' → Fix t.sl σ σ' → Q σ' H
def gDs (K : PySem.W.Frag) (ts : Ts) : TGs := fun vs σ H Q => ∃ (off : Addr → Prop) (w : Wd) (env : Env) (ds : List D) (env' : Env), w.H = H ∧ OkW K off w ∧ REnv K off w env σ ∧ Reps K off w ds vs ∧ asgs ts ds env = some env' ∧
  ∀ σ', REnv K off w env' σ' → Fix ts.sl σ σ' → Q σ' H
theorem REnv.set {K : PySem.W.Frag} {off : Addr → Prop} {w : Wd} {env : Env} {σ : L2.St} {d : D} {v : V} {i : Nat} (h : REnv K off w env σ) (r : Rep K off w d v) : REnv K off w (env.set i (some d)) (σ.set i (some v)) := by
  refine ⟨by simp [h.1], fun j e hj => ?_⟩
  by_cases hi : i = j
  · subst hi
    have hl : i < env.length := by
      have := (List.getElem?_eq_some_iff.mp hj).1
      simpa using this
    rw [List.getElem?_set_self hl] at hj
    cases hj
    exact ⟨v, by rw [List.getElem?_set_self (by rw [← h.1]; exact hl)], r⟩
  · rw [List.getElem?_set_ne hi] at hj
    obtain ⟨u, e1, e2⟩ := h.2 j e hj
    exact ⟨u, by rw [List.getElem?_set_ne hi]; exact e1, e2⟩
section
variable {X : Cx} {pos : Pos}
theorem PG.imp {tg : Expr} {t t' : TG} (f : ∀ v σ H Q, t v σ H Q → t' v σ H Q) (h : PG X tg t') : PG X tg t := ⟨fun pins s σ H v u Q I r q => h.run pins s σ H v u Q I r (f v σ H Q q)⟩
theorem g_n {i : Nat} {x : Str} (hN : X.N.Nodup) (hi : X.N[i]? = some x) (hx : Loc X.env.scope x) (hf : X.fn x = true ∨ X.env.scope.names.lookup x = some .local) : PG X (.Name x pos) (gD X.K (.n i)) := by
  refine PG.imp ?_ (pg_name hN hi hx hf)
  rintro v σ H Q ⟨off, w, env, d, env', rfl, ok, re, rd, e, k⟩
  simp only [asg] at e
  cases e
  refine k _ (re.set rd) ⟨by simp, fun j hj => ?_⟩
  have : i ≠ j := fun z => hj (by simp [T.sl, z])
  rw [List.getElem?_set_ne this]
theorem g_nil : PGs X [] (gDs X.K .nil) := by
  refine ⟨fun pins s σ H vs us Q I r h => ?_⟩
  obtain ⟨off, w, env, ds, env', rfl, ok, re, rd, e, k⟩ := h
  cases ds with
  | nil =>
    simp only [asgs] at e
    cases e
    simp only [Reps] at rd
    subst rd
    exact pgs_nil.run pins s σ _ _ us Q I r ⟨rfl, k σ re (.refl _ _)⟩
  | cons _ _ => simp only [asgs] at e; cases e
theorem g_cons {a : Expr} {es : List Expr} {t : T} {ts : Ts} (h1 : PG X a (gD X.K t)) (h2 : PGs X es (gDs X.K ts)) (hs : strd a = false) : PGs X (a :: es) (gDs X.K (.cons t ts)) := by
  have e0 : (assignEach (a :: es) X.env).map (·.2) = assign a X.env :: (assignEach es X.env).map (·.2) := by
    cases a <;> first | rfl | exact nomatch hs
  refine ⟨fun pins s σ H vs us Q I r h => ?_⟩
  obtain ⟨off, w, env, ds, env', rfl, ok, re, rd, e, k⟩ := h
  refine (pgs_cons h1 h2 e0).run pins s σ _ vs us Q I r ?_
  cases ds with
  | nil => simp only [asgs] at e; cases e
  | cons d ds =>
    simp only [Reps] at rd
    obtain ⟨v, r2, rfl, rv, rr⟩ := rd
    simp only [asgs] at e
    cases q : asg t d env with
    | none => rw [q] at e; cases e
    | some env1 =>
      rw [q] at e
      refine ⟨v, r2, rfl, off, w, env, d, env1, rfl, ok, re, rv, q, fun σ1 re1 f1 => ?_⟩
      exact ⟨off, w, env1, ds, env', rfl, ok, re1, rr, e, fun σ2 re2 f2 => k σ2 re2 (by simpa only [Ts.sl] using f1.trans f2)⟩
theorem each_len {env : PySem.Env} : ∀ {es : List Expr}, (∀ e ∈ es, strd e = false) → (assignEach es env).length = es.length
  | [], _ => rfl
  | a :: es, h => by
    have := each_len (env := env) (es := es) fun z hz => h z (List.mem_cons_of_mem _ hz)
    have hs := h a List.mem_cons_self
    cases a <;> first | (simp only [assignEach, List.length_cons, this]; done) | exact nomatch hs
theorem each_none {env : PySem.Env} : ∀ {es : List Expr}, (∀ e ∈ es, strd e = false) → (assignEach es env).findIdx? (·.1) = none
  | [], _ => rfl
  | a :: es, h => by
    have := each_none (env := env) (es := es) fun z hz => h z (List.mem_cons_of_mem _ hz)
    have hs := h a List.mem_cons_self
    cases a <;> first | (simp only [assignEach, List.findIdx?_cons, Bool.false_eq_true, if_false, this, Option.map_none]; done) | exact nomatch hs
/-- the number of targets -/
def Ts.len : Ts → Nat
  | .nil => 0
  | .cons _ ts => ts.len + 1
theorem asgs_num : ∀ {ts : Ts} {xs : List D} {env env' : Env}, asgs ts xs env = some env' → xs.length = ts.len
  | .nil, [], _, _, _ => rfl
  | .nil, _ :: _, _, _, e => by simp [asgs] at e
  | .cons _ _, [], _, _, e => by simp [asgs] at e
  | .cons t ts, x :: xs, env, env', e => by
    simp only [asgs] at e
    cases q : asg t x env with
    | none => rw [q] at e; cases e
    | some env1 =>
      rw [q] at e
      simp only [List.length_cons, Ts.len, asgs_num e]
theorem g_t {es : List Expr} {k : Nat} {ts : Ts} (hc : X.calm = true) (h : PGs X es (gDs X.K ts)) (hs : ∀ e ∈ es, strd e = false) (hl : es.length = ts.len) : PG X (.Tuple es k pos) (gD X.K (.t ts)) := by
  refine ⟨fun pins s σ H v u Q I r hw => ?_⟩
  obtain ⟨off, w, env, d, env', rfl, ok, re, rd, e, kk⟩ := hw
  cases d with
  | tup xs =>
    simp only [asg] at e
    simp only [Rep] at rd
    obtain ⟨a, vs, rfl, h1, h2⟩ := rd
    refine (pg_tup (n := ts.len) hc h (by rw [each_len hs, hl]) (each_none hs)).run pins s σ _ _ u Q I r ⟨a, vs, rfl, h1.sq, by rw [← h2.length]; exact asgs_num e, ?_⟩
    exact ⟨off, w, env, xs, env', rfl, ok, re, h2, e, fun σ' r' f => kk σ' r' (by simpa only [T.sl] using f)⟩
  | lst xs =>
    simp only [asg] at e
    simp only [Rep] at rd
    obtain ⟨a, vs, rfl, h1, _, _, h2⟩ := rd
    refine (pg_lst (n := ts.len) hc h (by rw [each_len hs, hl]) (each_none hs)).run pins s σ _ _ u Q I r ⟨a, vs, rfl, SqL.of h1, by rw [← h2.length]; exact asgs_num e, ?_⟩
    exact ⟨off, w, env, xs, env', rfl, ok, re, h2, e, fun σ' r' f => kk σ' r' (by simpa only [T.sl] using f)⟩
  | _ => simp only [asg] at e; cases e
end
end AB

set_option Elab.async false
set_option linter.all false
set_option autoImplicit false
set_option maxRecDepth 100000
/-! AnyN: list comprehensions. -/
namespace AB
open PySem PySem.Spec L2 PyProof.Rows

abbrev WF : WX := fun _ _ _ _ => False
section
variable {K : PySem.W.Frag} {off : Addr → Prop} {w w' : Wd} {α : Type}
theorem Sat.from {r : R α} {k : α → Wd → Prop} {x : Ex → Wd → Prop} (l0 : Le w w') (h : Sat K off w r k x) : Sat K off w' r k x := by
  cases r with
  | ok a st => exact fun w2 l o e => h w2 (l0.trans l) o e
  | ex e st => exact fun w2 l o q => h w2 (l0.trans l) o q
  | no => exact h
/-- a new list that is being made: a ghost -/
theorem OkW.gnew {p : Addr} {o0 : HO} (ok : OkW K off w) (n : w.H p = none) (hg : Gho o0) : Le w { w with H := upd w.H p o0, gh := fun a => w.gh a ∨ a = p } ∧ OkW K off { w with H := upd w.H p o0, gh := fun a => w.gh a ∨ a = p } := by
  have lv : ∀ x, Live { w with H := upd w.H p o0, gh := fun a => w.gh a ∨ a = p } x → Live w x ∨ x = p := fun x h => by
    rcases h with h | h | h
    · exact .inl (.inl h)
    · exact .inl (.inr h)
    · exact .inr h
  have kp : ∀ x u, w.H x = some u → upd w.H p o0 x = some u := fun x u h => by rw [upd_ne (ne_of_none h n)]; exact h
  have le : Le w { w with H := upd w.H p o0, gh := fun a => w.gh a ∨ a = p } := by
    refine ⟨⟨fun x u h _ => kp x u h, ⟨[], by simp⟩, fun x h => ?_⟩, fun x u g h => ⟨.inl g, kp x u h⟩⟩
    rcases lv x h with q | q
    · exact .inl q
    · subst q; exact .inr n
  refine ⟨le, ok.len, fun m xs a e1 e2 => ?_, fun m ns a e1 e2 => ?_, ok.nol, ok.inj, fun a h => ?_, fun a h => ?_, ok.pur, fun a m c g e1 e2 e3 => ?_⟩
  · obtain ⟨vs, h1, h2⟩ := ok.lst m xs a e1 e2
    exact ⟨vs, kp a _ h1, Reps.mono ok le xs vs h2⟩
  · rcases ok.scr m ns a e1 e2 with ⟨u, h1⟩ | h1
    · exact .inl ⟨u, kp a _ h1⟩
    · exact .inr h1
  · obtain ⟨⟨u, h1⟩, h2⟩ := ok.off a h
    refine ⟨⟨u, kp a u h1⟩, fun z => ?_⟩
    rcases lv a z with q | q
    · exact h2 q
    · subst q; rw [n] at h1; cases h1
  · rcases h with h | h
    · obtain ⟨vs, h1, h2⟩ := ok.gh a h
      exact ⟨vs, kp a _ h1, h2⟩
    · subst h; exact ⟨_, upd_same, hg⟩
  · rcases g with g | g
    · exact ok.ghd a m c g e1 e2 e3
    · subst g
      obtain ⟨vs, q, _⟩ := ok.live_lst (.inl ⟨m, c, e1, e2, e3⟩)
      rw [n] at q; cases q
/-- a ghost is written -/
theorem OkW.gwr {p : Addr} {o0 o1 : HO} (ok : OkW K off w) (g : w.gh p) (h0 : w.H p = some o0) (hg0 : Gho o0) (hg1 : Gho o1) : LeW w { w with H := upd w.H p o1 } ∧ OkW K off { w with H := upd w.H p o1 } := by
  have le : LeW w { w with H := upd w.H p o1 } := by
    refine ⟨fun x u h nl => ?_, ⟨[], by simp⟩, fun x h => .inl h⟩
    show upd w.H p o1 x = _
    rw [upd_ne (fun z => nl (by subst z; exact .inr g))]; exact h
  refine ⟨le, ok.len, fun m xs a e1 e2 => ?_, fun m ns a e1 e2 => ?_, ok.nol, ok.inj, fun a h => ?_, fun a h => ?_, ok.pur, ok.ghd⟩
  · obtain ⟨vs, h1, h2⟩ := ok.lst m xs a e1 e2
    refine ⟨vs, ?_, Reps.mono' ok.nlv le xs vs h2⟩
    show upd w.H p o1 a = _
    rw [upd_ne (fun z => by subst z; exact ok.ghd a m _ g e1 rfl e2)]; exact h1
  · rcases ok.scr m ns a e1 e2 with ⟨u, h1⟩ | h1
    · refine .inl ⟨u, ?_⟩
      show upd w.H p o1 a = _
      rw [upd_ne (fun z => by subst z; rw [h0] at h1; cases h1; exact hg0)]; exact h1
    · exact .inr h1
  · obtain ⟨⟨u, h1⟩, h2⟩ := ok.off a h
    refine ⟨⟨u, ?_⟩, h2⟩
    show upd w.H p o1 a = _
    rw [upd_ne (fun z => by subst z; exact h2 (.inr g))]; exact h1
  · by_cases q : a = p
    · subst q; exact ⟨_, upd_same, hg1⟩
    · obtain ⟨vs, h1, h2⟩ := ok.gh a h
      refine ⟨vs, ?_, h2⟩
      show upd w.H p o1 a = _
      rw [upd_ne q]; exact h1
/-- a ghost is done -/
theorem OkW.gdrop {p : Addr} {us : List V} {ds : List D} (ok : OkW K off w) (g : w.gh p) (h0 : w.H p = some (.lst us)) (r : Reps K off w ds us) :
    LeW w { w with gh := fun a => w.gh a ∧ a ≠ p } ∧ OkW K off { w with gh := fun a => w.gh a ∧ a ≠ p } ∧ Rep K off { w with gh := fun a => w.gh a ∧ a ≠ p } (.lst ds) (.ref p) := by
  have lv : ∀ x, Live { w with gh := fun a => w.gh a ∧ a ≠ p } x → Live w x := fun x h => by
    rcases h with h | h
    · exact .inl h
    · exact .inr h.1
  have le : LeW w { w with gh := fun a => w.gh a ∧ a ≠ p } := ⟨fun x u h _ => h, ⟨[], by simp⟩, fun x h => .inl (lv x h)⟩
  refine ⟨le, ⟨ok.len, fun m xs a e1 e2 => ?_, ok.scr, ok.nol, ok.inj, fun a h => ⟨(ok.off a h).1, fun z => (ok.off a h).2 (lv a z)⟩, fun a h => ok.gh a h.1, ok.pur, fun a m c g => ok.ghd a m c g.1⟩, ?_⟩
  · obtain ⟨vs, h1, h2⟩ := ok.lst m xs a e1 e2
    exact ⟨vs, h1, Reps.mono' ok.nlv le xs vs h2⟩
  · simp only [Rep]
    refine ⟨p, us, rfl, h0, fun z => (ok.off p z).2 (.inr g), fun z => ?_, Reps.mono' ok.nlv le _ _ r⟩
    rcases z with ⟨m, c, e1, e2, e3⟩ | z
    · exact ok.ghd p m c g e1 e2 e3
    · exact z.2 rfl
/-- behind a world without p, p may be written, or be done -/
theorem Le.gwr {w0 : Wd} {p : Addr} {o : HO} (l : Le w0 w) (n : w0.H p = none) : Le w0 { w with H := upd w.H p o } := by
  have kp : ∀ x u, w0.H x = some u → w.H x = some u → upd w.H p o x = some u := fun x u h h' => by rw [upd_ne (ne_of_none h n)]; exact h'
  exact ⟨⟨fun x u h nl => kp x u h (l.keep x u h nl), l.pre, l.liv⟩, fun x u g h => ⟨(l.ghk x u g h).1, kp x u h (l.ghk x u g h).2⟩⟩
theorem Le.gdrop {w0 : Wd} {p : Addr} (l : Le w0 w) (n : w0.H p = none) : Le w0 { w with gh := fun a => w.gh a ∧ a ≠ p } :=
  ⟨⟨l.keep, l.pre, fun x h => by
    rcases h with h | h
    · exact l.liv x (.inl h)
    · exact l.liv x (.inr h.1)⟩, fun x u g h => ⟨⟨(l.ghk x u g h).1, ne_of_none h n⟩, (l.ghk x u g h).2⟩⟩
theorem REnv.mono' {env : Env} {σ : L2.St} (h : REnv K off w env σ) (o : Nlv w) (l : LeW w w') : REnv K off w' env σ :=
  ⟨h.1, fun i d e => let ⟨v, a, b⟩ := h.2 i d e; ⟨v, a, Rep.mono' o l d v b⟩⟩
theorem itm_step0 {w1 w2 : Wd} {H' : Hp} {d : D} {x : V} (nl : Nlv w1) (ok2 : OkW K off w2) (l : LeW w1 w2)
    (h : (H' = w2.H ∧ Rep K off w1 d x) ∨ ∃ p d1 d2 x1 x2, d = .tup [d1, d2] ∧ x = .ref p ∧ w2.H p = none ∧ H' = upd w2.H p (.tup [x1, x2]) ∧ Rep K off w1 d1 x1 ∧ Rep K off w1 d2 x2) :
    ∃ w3 : Wd, w3.H = H' ∧ w3.st = w2.st ∧ Le w2 w3 ∧ OkW K off w3 ∧ Rep K off w3 d x := by
  rcases h with ⟨e, r⟩ | ⟨p, d1, d2, x1, x2, rfl, rfl, e1, e2, r1, r2⟩
  · exact ⟨w2, e.symm, rfl, .refl _, ok2, Rep.mono' nl l d x r⟩
  · have l3 : Le w2 { w2 with H := upd w2.H p (.tup [x1, x2]) } := .new e1 (ok2.nlive_new e1)
    refine ⟨{ w2 with H := upd w2.H p (.tup [x1, x2]) }, e2.symm, rfl, l3, ok2.new e1, ?_⟩
    simp only [Rep]
    exact ⟨p, [x1, x2], rfl, .inl upd_same, .cons (Rep.mono' nl (l.trans l3.toLeW) _ _ r1) (.cons (Rep.mono' nl (l.trans l3.toLeW) _ _ r2) .nil)⟩
end
/-! wiping -/
theorem wipe_at (σ : L2.St) (j : Nat) : ∀ vs : List Nat, (wipe σ vs)[j]? = if j ∈ vs ∧ j < σ.length then some none else σ[j]?
  | [] => by simp [wipe]
  | v :: vs => by
    have ih := wipe_at σ j vs
    unfold wipe
    by_cases e : v = j
    · subst e
      by_cases hl : v < σ.length
      · rw [List.getElem?_set_self (by rw [wipe_length]; exact hl)]
        simp [hl]
      · rw [List.getElem?_eq_none (by rw [List.length_set, wipe_length]; omega), List.getElem?_eq_none (by omega)]
        simp [hl]
    · rw [List.getElem?_set_ne e, ih]
      have : j ≠ v := fun q => e q.symm
      simp [List.mem_cons, this]
theorem wipeE_len (env : Env) : ∀ vs : List Nat, (wipeE env vs).length = env.length
  | [] => rfl
  | v :: vs => by unfold wipeE; rw [List.length_set, wipeE_len env vs]
theorem wipeE_some {env : Env} {j : Nat} {d : D} : ∀ {vs : List Nat}, (wipeE env vs)[j]? = some (some d) → env[j]? = some (some d) ∧ j ∉ vs
  | [], h => ⟨h, by simp⟩
  | v :: vs, h => by
    unfold wipeE at h
    by_cases e : v = j
    · subst e
      by_cases hl : v < (wipeE env vs).length
      · rw [List.getElem?_set_self hl] at h; cases h
      · rw [List.getElem?_eq_none (by rw [List.length_set]; omega)] at h; cases h
    · rw [List.getElem?_set_ne e] at h
      obtain ⟨h1, h2⟩ := wipeE_some h
      exact ⟨h1, by simp only [List.mem_cons, not_or]; exact ⟨fun q => e q.symm, h2⟩⟩
theorem REnv.wipe {K : PySem.W.Frag} {off : Addr → Prop} {w : Wd} {env : Env} {σ : L2.St} (h : REnv K off w env σ) (vs : List Nat) : REnv K off w (wipeE env vs) (L2.wipe σ vs) := by
  refine ⟨by rw [wipeE_len, wipe_length, h.1], fun i d e => ?_⟩
  obtain ⟨e1, e2⟩ := wipeE_some e
  obtain ⟨v, h1, h2⟩ := h.2 i d e1
  refine ⟨v, ?_, h2⟩
  rw [wipe_at, if_neg (fun z => e2 z.1)]
  exact h1
theorem Fix.wipe {l vs : List Nat} {σ σ2 : L2.St} (h : Fix l (L2.wipe σ vs) σ2) (s : ∀ i ∈ l, i ∈ vs) : L2.wipe σ2 vs = L2.wipe σ vs := by
  have hl : σ2.length = σ.length := by rw [h.1, wipe_length]
  refine List.ext_getElem? fun j => ?_
  rw [wipe_at, wipe_at, hl]
  by_cases hj : j ∈ vs ∧ j < σ.length
  · rw [if_pos hj, if_pos hj]
  · rw [if_neg hj, if_neg hj]
    by_cases hv : j ∈ vs
    · have : ¬ j < σ.length := fun z => hj ⟨hv, z⟩
      rw [List.getElem?_eq_none (by omega), List.getElem?_eq_none (by omega)]
    · rw [h.2 j fun z => hv (s j z), wipe_at, if_neg (fun z => hv z.1)]
/-! what a comprehension's turns come to, without a program -/
theorem bnd_ok {α β : Type} {m : M α} {f : α → M β} {st st2 : Store} {b : β} (h : bnd m f st = .ok b st2) : ∃ a st1, m st = .ok a st1 ∧ f a st1 = .ok b st2 := by
  unfold bnd at h
  cases q : m st with
  | ok a st1 => rw [q] at h; exact ⟨a, st1, rfl, h⟩
  | ex e st1 => rw [q] at h; cases h
  | no => rw [q] at h; cases h
theorem lft_ok {α : Type} {o : Option α} {st st2 : Store} {a : α} (h : lft o st = .ok a st2) : o = some a ∧ st2 = st := by
  cases o with
  | none => cases h
  | some b => cases h; exact ⟨rfl, rfl⟩
theorem ret_ok {α : Type} {a b : α} {st st2 : Store} (h : ret a st = .ok b st2) : b = a ∧ st2 = st := by cases h; exact ⟨rfl, rfl⟩
theorem noex_ok {α : Type} {m : M α} {st st2 : Store} {a : α} (h : noex m st = .ok a st2) : m st = .ok a st2 := by
  unfold noex at h
  cases q : m st with
  | ok b st1 => rw [q] at h; exact h
  | ex e st1 => rw [q] at h; cases h
  | no => rw [q] at h; cases h
theorem bnd_ex {α β : Type} {m : M α} {f : α → M β} {st st2 : Store} {e : Ex} (h : bnd m f st = .ex e st2) : m st = .ex e st2 ∨ ∃ a st1, m st = .ok a st1 ∧ f a st1 = .ex e st2 := by
  unfold bnd at h
  cases q : m st with
  | ok a st1 => rw [q] at h; exact .inr ⟨a, st1, rfl, h⟩
  | ex e st1 => rw [q] at h; cases h; exact .inl rfl
  | no => rw [q] at h; cases h
theorem noex_ex {α : Type} {m : M α} {st st2 : Store} {e : Ex} (h : noex m st = .ex e st2) : False := by
  unfold noex at h
  cases q : m st with
  | ok b st1 => rw [q] at h; cases h
  | ex e st1 => rw [q] at h; cases h
  | no => rw [q] at h; cases h
theorem sizeOk_ex {xs : List D} {st st2 : Store} {e : Ex} (h : sizeOk xs st = .ex e st2) : False := by
  unfold sizeOk at h
  split at h <;> cases h
theorem compL_cons {f : D → M (Option D)} {x : D} {xs ys : List D} {st st3 : Store} (h : compL f (x :: xs) st = .ok ys st3) : ∃ o st1 zs, f x st = .ok o st1 ∧ compL f xs st1 = .ok zs st3 ∧ ys = (match o with
    | some y => y :: zs
    | none => zs) := by
  unfold compL at h
  obtain ⟨o, st1, h1, h⟩ := bnd_ok h
  obtain ⟨zs, st2, h2, h⟩ := bnd_ok h
  obtain ⟨e1, e2⟩ := ret_ok h
  subst e2
  exact ⟨o, st1, zs, h1, h2, e1⟩
section
variable {S : Sg} {K : PySem.W.Frag} {off : Addr → Prop} {Wh : WX}
abbrev turnD (S : Sg) (elt : E) (tg : T) (cond : E) (env0 : Env) : D → M (Option D) := fun x => match asg tg x env0 with
      | some env' => bnd (ev S.C S.sub cond env') fun t => bnd (lft (truth t)) fun b => if b then bnd (ev S.C S.sub elt env') fun y => ret (some y) else ret none
      | none => non
theorem turnD_ok {elt cond : E} {tg : T} {env0 : Env} {x : D} {o : Option D} {st st2 : Store} (h : turnD S elt tg cond env0 x st = .ok o st2) : ∃ env' b st1, asg tg x env0 = some env' ∧ bnd (ev S.C S.sub cond env') (fun t => lft (truth t)) st = .ok b st1 ∧
    ((b = true ∧ ∃ y, ev S.C S.sub elt env' st1 = .ok y st2 ∧ o = some y) ∨ (b = false ∧ st1 = st2 ∧ o = none)) := by
  unfold turnD at h
  cases q : asg tg x env0 with
  | none => rw [q] at h; cases h
  | some env' =>
    rw [q] at h
    obtain ⟨t, st1, h1, h⟩ := bnd_ok h
    obtain ⟨b, st1', h2, h⟩ := bnd_ok h
    refine ⟨env', b, st1', rfl, ?_, ?_⟩
    · unfold bnd; rw [h1]; exact h2
    · cases b with
      | true =>
        simp only [if_true] at h
        obtain ⟨y, st3, h3, h⟩ := bnd_ok h
        obtain ⟨e1, e2⟩ := ret_ok h
        subst e2
        exact .inl ⟨rfl, y, h3, e1⟩
      | false =>
        simp only [Bool.false_eq_true, if_false] at h
        obtain ⟨e1, e2⟩ := ret_ok h
        exact .inr ⟨rfl, e2.symm, e1⟩
end
section
variable {S : Sg} {K : PySem.W.Frag} {off : Addr → Prop} {Wh : WX}
/-- the whole comes to a list -/
theorem comp_fin {g : M (List D)} {σ : L2.St} {w w1 : Wd} {Q : VK} {e : E} (hfr : fr e = false)
    (s1 : Sat K off w1 (bnd (noex g) (fun ys => bnd (sizeOk ys) fun ys => ret (D.lst ys)) w1.st) (fun d w' => ∀ v, Rep K off w' d v → (fr e = true → ∀ xs, d = .lst xs → Frs K off w w' xs v) → Q v w'.H) (xk K off S Wh σ)) :
    ∃ zs st3, g w1.st = .ok zs st3 ∧ zs.length < szLine ∧ ∀ w', Le w1 w' → OkW K off w' → w'.st = st3 → ∀ v, Rep K off w' (.lst zs) v → Q v w'.H := by
  generalize hr : (bnd (noex g) fun ys => bnd (sizeOk ys) fun ys => ret (D.lst ys)) w1.st = r at s1
  cases r with
  | no => exact s1.elim
  | ex e st =>
    rcases bnd_ex hr with h | ⟨a, b, _, h⟩
    · exact (noex_ex h).elim
    · rcases bnd_ex h with h | ⟨a, b, _, h⟩
      · exact (sizeOk_ex h).elim
      · cases h
  | ok d st =>
    obtain ⟨zs, st1, h1, h2⟩ := bnd_ok hr
    obtain ⟨zs', st2, h3, h4⟩ := bnd_ok h2
    obtain ⟨rfl, rfl⟩ := ret_ok h4
    unfold sizeOk at h3
    split at h3
    · rename_i hz
      obtain ⟨rfl, rfl⟩ := ret_ok h3
      exact ⟨zs', st, noex_ok h1, hz, fun w' l o e v rv => s1 w' l o e v rv fun z => by rw [hfr] at z; cases z⟩
    · cases h3
end
/-- a loop over a walk, whatever a turn is -/
theorem lp {J : It} {n : Nat} {G : Hp → Prop} {Y : Nat → Hp → V → Hp → Prop} (w : Walk J n G Y) {step : V → Hp → (Hp → Prop) → Prop} {H0 : Hp} {Qd : Hp → Prop} (Pv : Nat → Hp → Prop) (h0 : Pv 0 H0) (hG : ∀ i H, i ≤ n → Pv i H → G H)
    (hs : ∀ i x H H', i < n → Pv i H → Y i H x H' → step x H' (Pv (i + 1))) (hd : ∀ H, Pv n H → Qd H) :
    ∃ W : Nat → Nat → Hp → Prop, (∃ m, W 0 m H0) ∧ ∀ i m H, W i m H → (J.stop i H ∧ Qd H) ∨ (J.go i H ∧ ∃ Nx : Hp → Prop, (∀ H', Nx H' → ∃ m', m' < m ∧ W (i + 1) m' H') ∧ ∀ x H', J.yld i H x H' → step x H' Nx) := by
  refine ⟨fun i m H => m + i = n ∧ Pv i H, ⟨n, rfl, h0⟩, fun i m H hW => ?_⟩
  obtain ⟨e, pv⟩ := hW
  have g := hG i H (by omega) pv
  cases m with
  | zero =>
    have e : i = n := by omega
    subst e
    exact .inl ⟨w.stops H g, hd H pv⟩
  | succ m => exact .inr ⟨w.goes i H (by omega) g, Pv (i + 1), fun H' q => ⟨m, by omega, by omega, q⟩, fun x H' y => hs i x H H' (by omega) pv (w.yields i H x H' (by omega) g y)⟩
/-- the invariant of a comprehension's loop: w1 ahead of the new list, wb where the items come from -/
def PvG (K : PySem.W.Frag) (off : Addr → Prop) (w1 wb : Wd) (p : Addr) (f : List D → M (List D)) (xs : List D) (k : List D → Store → Prop) (i : Nat) (H : Hp) : Prop :=
  ∃ (w2 : Wd) (acc : List V) (ys rest : List D) (st3 : Store), w2.H = H ∧ Le w1 w2 ∧ LeW wb w2 ∧ OkW K off w2 ∧ w2.gh p ∧ H p = some (.lst acc) ∧ Reps K off w2 ys acc ∧ f (xs.drop i) w2.st = .ok rest st3 ∧ k (ys ++ rest) st3
section
variable {S : Sg} {K : PySem.W.Frag} {off : Addr → Prop} {Wh : WX}
/-- one turn of a comprehension -/
theorem lc_turn {elt cond : E} {tg : T} {vs : List Nat} (hv : ∀ i ∈ tg.sl, i ∈ vs) {w1 wb : Wd} {p : Addr} {xs : List D} {k : List D → Store → Prop} {i : Nat} {H H' : Hp} {x : V} {env : Env} {σ : L2.St} (n0 : w1.H p = none) (nlb : Nlv wb) (re : REnv K off wb env σ)
    (hk : ∀ zs st, k zs st → zs.length < szLine) (P : PvG K off w1 wb p (compL (turnD S elt tg cond (wipeE env vs))) xs k i H)
    (hr : ∃ d, xs[i]? = some d ∧ ((H' = H ∧ Rep K off wb d x) ∨ ∃ p d1 d2 x1 x2, d = .tup [d1, d2] ∧ x = .ref p ∧ H p = none ∧ H' = upd H p (.tup [x1, x2]) ∧ Rep K off wb d1 x1 ∧ Rep K off wb d2 x2)) :
    gD K tg x (wipe σ vs) H' fun σ2 H2 => wipe σ2 vs = wipe σ vs ∧ tDT S K WF cond σ2 H2 fun b H3 =>
      if b = true then tD S K WF elt σ2 H3 fun y H4 => ∃ acc, H4 p = some (.lst acc) ∧ acc.length < sizeLine ∧ PvG K off w1 wb p (compL (turnD S elt tg cond (wipeE env vs))) xs k (i + 1) (upd H4 p (.lst (acc ++ [y])))
      else PvG K off w1 wb p (compL (turnD S elt tg cond (wipeE env vs))) xs k (i + 1) H3 := by
  obtain ⟨w2, acc, ys, rest, st, rfl, l1, lb, ok2, gp, hD, ra, hc, hkk⟩ := P
  obtain ⟨d, hd, hr⟩ := hr
  obtain ⟨w3, rfl, e3, l3, ok3, rx⟩ := itm_step0 nlb ok2 lb hr
  have e4 : xs.drop i = d :: xs.drop (i + 1) := by
    obtain ⟨hl, he⟩ := List.getElem?_eq_some_iff.mp hd
    rw [List.drop_eq_getElem_cons hl, he]
  rw [e4] at hc
  obtain ⟨o, st1, us, h1, h2, h5⟩ := compL_cons hc
  obtain ⟨env', b, st2, h6, h7, h8⟩ := turnD_ok h1
  have re3 : REnv K off w3 (wipeE env vs) (wipe σ vs) := (re.mono' nlb (lb.trans l3.toLeW)).wipe vs
  obtain ⟨gp3, hD3⟩ := l3.ghk p _ gp hD
  have ra3 := Reps.mono ok2 l3 _ _ ra
  refine ⟨off, w3, wipeE env vs, d, env', rfl, ok3, re3, rx, h6, fun σ2 re4 fx => ⟨fx.wipe hv, ?_⟩⟩
  refine ⟨off, w3, env', rfl, ok3, re4, ?_⟩
  rw [e3, h7]
  intro w4 l4 ok4 e4'
  obtain ⟨gp4, hD4⟩ := l4.ghk p _ gp3 hD3
  have ra4 := Reps.mono ok3 l4 _ _ ra3
  rcases h8 with ⟨rfl, y, h9, rfl⟩ | ⟨rfl, rfl, rfl⟩
  · simp only [if_true]
    refine ⟨off, w4, env', rfl, ok4, re4.mono ok3 l4, ?_⟩
    rw [e4', h9]
    intro w5 l5 ok5 e5 v rv _
    obtain ⟨gp5, hD5⟩ := l5.ghk p _ gp4 hD4
    have ra5 := Reps.mono ok4 l5 _ _ ra4
    have h5 : rest = y :: us := h5
    subst h5
    obtain ⟨l6, ok6⟩ := ok5.gwr (o1 := .lst (acc ++ [v])) gp5 hD5 trivial trivial
    refine ⟨acc, hD5, ?_, { w5 with H := upd w5.H p (.lst (acc ++ [v])) }, acc ++ [v], ys ++ [y], us, st, rfl, ?_, ?_, ok6, gp5, upd_same, ?_, ?_, ?_⟩
    · have := hk _ _ hkk
      rw [← ra.length, ← szLine_eq]
      simp only [List.length_append] at this
      omega
    · exact (((l1.trans l3).trans l4).trans l5).gwr n0
    · exact (((lb.trans l3.toLeW).trans l4.toLeW).trans l5.toLeW).trans l6
    · exact Reps.mono' ok5.nlv l6 _ _ (ra5.append (.cons rv .nil))
    · show compL _ _ w5.st = _
      rw [e5]; exact h2
    · simpa using hkk
  · simp only [Bool.false_eq_true, if_false]
    have h5 : rest = us := h5
    subst h5
    refine ⟨w4, acc, ys, rest, st, rfl, (l1.trans l3).trans l4, (lb.trans l3.toLeW).trans l4.toLeW, ok4, gp4, hD4, ra4, ?_, hkk⟩
    rw [e4']; exact h2
/-- the end of a comprehension -/
theorem lc_end {w1 wb : Wd} {p : Addr} {f : List D → M (List D)} {xs zs : List D} {st3 : Store} {H : Hp} {Q : VK} (n0 : w1.H p = none) (hf : ∀ st, f [] st = .ok [] st) (P : PvG K off w1 wb p f xs (fun ys st => ys = zs ∧ st = st3) xs.length H)
    (fin : ∀ w', Le w1 w' → OkW K off w' → w'.st = st3 → ∀ v, Rep K off w' (.lst zs) v → Q v w'.H) : Q (.ref p) H := by
  obtain ⟨w2, acc, ys, rest, st, rfl, l1, lb, ok2, gp, hD, ra, hc, h1, h2⟩ := P
  rw [List.drop_length, hf] at hc
  cases hc
  rw [List.append_nil] at h1
  subst h1
  obtain ⟨l, o, r⟩ := ok2.gdrop gp hD ra
  exact fin _ (l1.gdrop n0) o h2 _ r
theorem lcD {elt cond : E} {tg : T} {it : I} {vs : List Nat} (hv : ∀ i ∈ tg.sl, i ∈ vs) {σ : L2.St} {H : Hp} {Q : VK} (h : tD S K Wh (.comp elt tg it cond vs) σ H Q) :
    tLc (iD S K Wh it) (gD K tg) (tDT S K WF cond) (tD S K WF elt) vs σ H Q := by
  obtain ⟨off, w, env, rfl, ok, re, sat⟩ := h
  simp only [ev] at sat
  refine ⟨off, w, env, rfl, ok, re, sat.bnd.imp fun xs w1 l1 ok1 s1 J hJ => ?_⟩
  intro p hp
  obtain ⟨G, Y, W, hG, hY⟩ := hJ
  have re1 := re.mono ok l1
  obtain ⟨zs, st3, q', hz, fin⟩ := comp_fin (S := S) (g := compL (turnD S elt tg cond (wipeE env vs)) xs) (e := .comp elt tg it cond vs) rfl s1
  obtain ⟨l2, ok2⟩ := ok1.gnew (o0 := .lst []) hp trivial
  refine lp W (step := fun x H' Nx => gD K tg x (wipe σ vs) H' fun σ2 H2 => wipe σ2 vs = wipe σ vs ∧ tDT S K WF cond σ2 H2 fun b H3 =>
      if b = true then tD S K WF elt σ2 H3 fun y H4 => ∃ acc, H4 p = some (.lst acc) ∧ acc.length < sizeLine ∧ Nx (upd H4 p (.lst (acc ++ [y]))) else Nx H3) (Qd := fun H => Q (.ref p) H)
    (PvG K off w1 w1 p (compL (turnD S elt tg cond (wipeE env vs))) xs fun ys st => ys = zs ∧ st = st3) ?_ ?_ ?_ ?_
  · exact ⟨_, [], [], zs, st3, rfl, l2, l2.toLeW, ok2, .inr rfl, upd_same, .nil, by simpa using q', by simp⟩
  · rintro i H _ ⟨w2, acc, ys, rest, st, rfl, _, l, _⟩
    exact hG w2 l
  · intro i x H H' hi P y
    exact lc_turn hv hp ok1.nlv re1 (fun zs' st hh => by rw [hh.1]; exact hz) P (hY i H x H' hi y)
  · intro H P
    exact lc_end (f := compL (turnD S elt tg cond (wipeE env vs))) hp (fun _ => rfl) P fin
end
end AB

set_option Elab.async false
set_option linter.all false
set_option autoImplicit false
set_option maxRecDepth 100000
/-! AnyN2: comprehensions of two clauses; a comprehension's keys. -/
namespace AB
open PySem PySem.Spec L2 PyProof.Rows

theorem catL_cons {f : D → M (List D)} {x : D} {xs ys : List D} {st st3 : Store} (h : catL f (x :: xs) st = .ok ys st3) : ∃ rows st1 zs, f x st = .ok rows st1 ∧ catL f xs st1 = .ok zs st3 ∧ ys = rows ++ zs := by
  unfold catL at h
  obtain ⟨o, st1, h1, h⟩ := bnd_ok h
  obtain ⟨zs, st2, h2, h⟩ := bnd_ok h
  obtain ⟨e1, e2⟩ := ret_ok h
  subst e2
  exact ⟨o, st1, zs, h1, h2, e1⟩
section
variable {S : Sg} {K : PySem.W.Frag} {off : Addr → Prop} {Wh : WX}
abbrev turn2D (S : Sg) (elt : E) (tg : T) (cond : E) (tg1 : T) (it1 : I) (cond1 : E) (own1 : List Nat) (env0 : Env) : D → M (List D) := fun x => match asg tg x env0 with
      | some env' => bnd (ev S.C S.sub cond env') fun t => bnd (lft (truth t)) fun b => if b then bnd (its S.C S.sub it1 env') fun xs1 => compL (turnD S elt tg1 cond1 (wipeE env' own1)) xs1 else ret []
      | none => non
theorem turn2D_ok {elt cond cond1 : E} {tg tg1 : T} {it1 : I} {own1 : List Nat} {env0 : Env} {x : D} {rows : List D} {st st2 : Store} (h : turn2D S elt tg cond tg1 it1 cond1 own1 env0 x st = .ok rows st2) :
    ∃ env' b st1, asg tg x env0 = some env' ∧ bnd (ev S.C S.sub cond env') (fun t => lft (truth t)) st = .ok b st1 ∧
    ((b = true ∧ ∃ xs1 sti, its S.C S.sub it1 env' st1 = .ok xs1 sti ∧ compL (turnD S elt tg1 cond1 (wipeE env' own1)) xs1 sti = .ok rows st2) ∨ (b = false ∧ st1 = st2 ∧ rows = [])) := by
  unfold turn2D at h
  cases q : asg tg x env0 with
  | none => rw [q] at h; cases h
  | some env' =>
    rw [q] at h
    obtain ⟨t, st1, h1, h⟩ := bnd_ok h
    obtain ⟨b, st1', h2, h⟩ := bnd_ok h
    refine ⟨env', b, st1', rfl, ?_, ?_⟩
    · unfold bnd; rw [h1]; exact h2
    · cases b with
      | true =>
        simp only [if_true] at h
        obtain ⟨y, st3, h3, h⟩ := bnd_ok h
        exact .inl ⟨rfl, y, st3, h3, h⟩
      | false =>
        simp only [Bool.false_eq_true, if_false] at h
        obtain ⟨e1, e2⟩ := ret_ok h
        exact .inr ⟨rfl, e2.symm, e1⟩
theorem lcD2 {elt cond cond1 : E} {tg tg1 : T} {it it1 : I} {vs vs1 : List Nat} (hv : ∀ i ∈ tg.sl, i ∈ vs) (hv1 : ∀ i ∈ tg1.sl, i ∈ vs1) {σ : L2.St} {H : Hp} {Q : VK} (h : tD S K Wh (.comp2 elt tg it cond tg1 it1 cond1 vs vs1) σ H Q) :
    tLc2 (iD S K Wh it) (gD K tg) (tDT S K WF cond) (iD S K WF it1) (gD K tg1) (tDT S K WF cond1) (tD S K WF elt) vs vs1 σ H Q := by
  obtain ⟨off, w, env, rfl, ok, re, sat⟩ := h
  simp only [ev] at sat
  refine ⟨off, w, env, rfl, ok, re, sat.bnd.imp fun xs w1 l1 ok1 s1 J hJ => ?_⟩
  intro p hp
  obtain ⟨G, Y, W, hG, hY⟩ := hJ
  have re1 := re.mono ok l1
  obtain ⟨zs, st3, q', hz, fin⟩ := comp_fin (S := S) (g := catL (turn2D S elt tg cond tg1 it1 cond1 vs1 (wipeE env vs)) xs) (e := .comp2 elt tg it cond tg1 it1 cond1 vs vs1) rfl s1
  obtain ⟨l2, ok2⟩ := ok1.gnew (o0 := .lst []) hp trivial
  refine lp W (step := fun x H' Nx => gD K tg x (wipe σ vs) H' fun σ2 H2 => wipe σ2 vs = wipe σ vs ∧ tDT S K WF cond σ2 H2 fun b H3 =>
      if b = true then iD S K WF it1 σ2 H3 fun J1 H4 => ∃ W1 : Nat → Nat → Hp → Prop, (∃ m, W1 0 m H4) ∧ ∀ j k H, W1 j k H →
        (J1.stop j H ∧ Nx H) ∨ (J1.go j H ∧ ∃ Nx1 : Hp → Prop, (∀ H', Nx1 H' → ∃ k', k' < k ∧ W1 (j + 1) k' H') ∧ ∀ x H', J1.yld j H x H' → gD K tg1 x (wipe σ2 vs1) H' fun σ3 H5 => wipe σ3 vs1 = wipe σ2 vs1 ∧ tDT S K WF cond1 σ3 H5 fun b H6 =>
          if b = true then tD S K WF elt σ3 H6 fun y H7 => ∃ acc, H7 p = some (.lst acc) ∧ acc.length < sizeLine ∧ Nx1 (upd H7 p (.lst (acc ++ [y]))) else Nx1 H6)
      else Nx H3) (Qd := fun H => Q (.ref p) H)
    (PvG K off w1 w1 p (catL (turn2D S elt tg cond tg1 it1 cond1 vs1 (wipeE env vs))) xs fun ys st => ys = zs ∧ st = st3) ?_ ?_ ?_ ?_
  · exact ⟨_, [], [], zs, st3, rfl, l2, l2.toLeW, ok2, .inr rfl, upd_same, .nil, by simpa using q', by simp⟩
  · rintro i H _ ⟨w2, acc, ys, rest, st, rfl, _, l, _⟩
    exact hG w2 l
  · rintro i x H H' hi ⟨w2, acc, ys, rest, st, rfl, l1, lb, ok2, gp, hD, ra, hc, hkk⟩ y
    obtain ⟨d, hd, hr⟩ := hY i _ x H' hi y
    obtain ⟨w3, rfl, e3, l3, ok3, rx⟩ := itm_step0 ok1.nlv ok2 lb hr
    have e4 : xs.drop i = d :: xs.drop (i + 1) := by
      obtain ⟨hl, he⟩ := List.getElem?_eq_some_iff.mp hd
      rw [List.drop_eq_getElem_cons hl, he]
    rw [e4] at hc
    obtain ⟨rows, st1, us, h1, h2, h5⟩ := catL_cons hc
    obtain ⟨env', b, st2, h6, h7, h8⟩ := turn2D_ok h1
    have re3 : REnv K off w3 (wipeE env vs) (wipe σ vs) := (re1.mono' ok1.nlv (lb.trans l3.toLeW)).wipe vs
    obtain ⟨gp3, hD3⟩ := l3.ghk p _ gp hD
    have ra3 := Reps.mono ok2 l3 _ _ ra
    refine ⟨off, w3, wipeE env vs, d, env', rfl, ok3, re3, rx, h6, fun σ2 re4 fx => ⟨fx.wipe hv, ?_⟩⟩
    refine ⟨off, w3, env', rfl, ok3, re4, ?_⟩
    rw [e3, h7]
    intro w4 l4 ok4 e4'
    obtain ⟨gp4, hD4⟩ := l4.ghk p _ gp3 hD3
    have ra4 := Reps.mono ok3 l4 _ _ ra3
    have re4' := re4.mono ok3 l4
    obtain ⟨hk1, hk2⟩ := hkk
    subst h5
    rcases h8 with ⟨rfl, xs1, sti, h9, h10⟩ | ⟨rfl, rfl, rfl⟩
    · simp only [if_true]
      refine ⟨off, w4, env', rfl, ok4, re4', ?_⟩
      rw [e4', h9]
      intro w5 l5 ok5 e5 J1 hJ1
      obtain ⟨G1, Y1, W1, hG1, hY1⟩ := hJ1
      obtain ⟨gp5, hD5⟩ := l5.ghk p _ gp4 hD4
      have ra5 := Reps.mono ok4 l5 _ _ ra4
      have re5 := re4'.mono ok4 l5
      refine lp W1 (step := fun x H' Nx1 => gD K tg1 x (wipe σ2 vs1) H' fun σ3 H5 => wipe σ3 vs1 = wipe σ2 vs1 ∧ tDT S K WF cond1 σ3 H5 fun b H6 =>
          if b = true then tD S K WF elt σ3 H6 fun y H7 => ∃ acc, H7 p = some (.lst acc) ∧ acc.length < sizeLine ∧ Nx1 (upd H7 p (.lst (acc ++ [y]))) else Nx1 H6)
        (PvG K off w1 w5 p (compL (turnD S elt tg1 cond1 (wipeE env' vs1))) xs1 fun zs' st' => ∃ rest' st3', catL (turn2D S elt tg cond tg1 it1 cond1 vs1 (wipeE env vs)) (xs.drop (i + 1)) st' = .ok rest' st3' ∧ zs' ++ rest' = zs ∧ st3' = st3) ?_ ?_ ?_ ?_
      · refine ⟨w5, acc, ys, rows, st1, rfl, ((l1.trans l3).trans l4).trans l5, .refl _, ok5, gp5, hD5, ra5, ?_, us, st, h2, ?_, hk2⟩
        · rw [e5]; simpa using h10
        · rw [List.append_assoc]; exact hk1
      · rintro j H _ ⟨w2, acc, ys, rest, st, rfl, _, l, _⟩
        exact hG1 w2 l
      · intro j x H H' hj P y
        refine lc_turn hv1 hp ok5.nlv re5 (fun zs' st' hh => ?_) P (hY1 j H x H' hj y)
        obtain ⟨r', s', _, e, _⟩ := hh
        rw [← e] at hz
        simp only [List.length_append] at hz
        omega
      · rintro H ⟨w6, acc6, ys6, rest6, st6, rfl, m1, m2, ok6, gp6, hD6, ra6, hc6, rest', st3', k1, k2, k3⟩
        rw [List.drop_length] at hc6
        obtain ⟨q1, q2⟩ := ret_ok (a := []) (b := rest6) hc6
        subst q1
        rw [List.append_nil] at k2
        subst q2
        exact ⟨w6, acc6, ys6, rest', st3', rfl, m1, m1.toLeW, ok6, gp6, hD6, ra6, k1, k2, k3⟩
    · simp only [Bool.false_eq_true, if_false]
      refine ⟨w4, acc, ys, us, st, rfl, (l1.trans l3).trans l4, (lb.trans l3.toLeW).trans l4.toLeW, ok4, gp4, hD4, ra4, ?_, by simpa using hk1, hk2⟩
      rw [e4']; exact h2
  · intro H P
    exact lc_end (f := catL (turn2D S elt tg cond tg1 it1 cond1 vs1 (wipeE env vs))) hp (fun _ => rfl) P fin
end
end AB

set_option Elab.async false
set_option linter.all false
set_option autoImplicit false
set_option maxRecDepth 100000
/-! AnyDc: a dict comprehension, whatever its keys are: how the dict is begun (o0) and filled (Put) is told from outside; then for keys that are tuples. -/
namespace AB
open PySem PySem.Spec L2 PyProof.Rows
/-- what the parts of a comprehension give: what is walked, the target, the tests, the key, the value -/
structure DcR where
  it : TI
  tg : TG
  ts : TT
  ky : TE
  vl : TE
/-- what the dict at D asks of a pair that comes, so that Nx is so behind it -/
abbrev PutR := Addr → V → V → Hp → (Hp → Prop) → Prop
/-- what one turn asks -/
def turnR (p : DcR) (Put : PutR) (vs : List Nat) (σ : L2.St) (D : Addr) (Nx : Hp → Prop) (x : V) (H : Hp) : Prop :=
  p.tg x (wipe σ vs) H fun σ2 H2 => wipe σ2 vs = wipe σ vs ∧ p.ts σ2 H2 fun b H3 => if b = true then p.ky σ2 H3 fun y H4 => p.vl σ2 H4 fun z H5 => Put D y z H5 Nx else Nx H3
/-- what the turns ask, by an invariant of the turn's number and of a measure -/
def turnsR (p : DcR) (Put : PutR) (vs : List Nat) (σ : L2.St) (J : It) (D : Addr) (Q : Hp → Prop) (W : Nat → Nat → Hp → Prop) : Prop :=
  ∀ i m H, W i m H → (J.stop i H ∧ Q H) ∨ (J.go i H ∧ ∃ Nx : Hp → Prop, (∀ H', Nx H' → ∃ m', m' < m ∧ W (i + 1) m' H') ∧ ∀ x H', J.yld i H x H' → turnR p Put vs σ D Nx x H')
/-- what the whole comprehension asks -/
def compR (p : DcR) (o0 : HO) (Put : PutR) (vs : List Nat) : TE := fun σ H Q => p.it σ H fun J H1 => ∀ D, H1 D = none → ∃ W : Nat → Nat → Hp → Prop, (∃ m, W 0 m (upd H1 D o0)) ∧ turnsR p Put vs σ J D (Q (.ref D)) W
/-- the iterator's own objects are apart from the block's -/
theorem apartB {X : Cx} {s3 : Shared} {H3 : Hp} {sc : Scope} {ce : PySem.Env} {fp : List Addr} {σ : L2.St} {H : Hp} {s : Shared} (I : Inv (X.blk s3 H3 sc ce fp) [] σ H s) (hn : ∀ b ∈ fp, H b = none) (b : Addr) (hb : b ∈ fp) : FpOk (X.blk s3 H3 sc ce fp) [] H b := by
  obtain ⟨h1, h2⟩ := I.ok.exf b hb
  refine ⟨hn b hb, h1, I.ok.exfs b hb, Or.inl hb, fun x c e => h2 x c e, ?_⟩
  intro p hp
  exact absurd hp (by simp [Cx.blk])
/-- a turn's end: what was held is let go, the block's names are forgotten -/
theorem shutB {B : Cx} {tE : Expr} {J : It} {it : Addr} {fp : List Addr} {tn : Nat → Heap → Prop} (T : L2.Turn B.prog B.w B.K tE J fp it tn) {σ σ2 : L2.St} {vs : List Nat} {H : Hp} {s s' : Shared} {i : Nat}
    (hw : wipe σ2 vs = wipe σ vs) (hh : tn i s.heap) (I : Inv B ([] ++ pinsAt fp s.heap) σ2 H s') : Inv B [] (wipe σ vs) H s' ∧ tn i s'.heap ∧ ∀ b ∈ fp, H b = none := by
  have held : ∀ b ∈ fp, ∀ o, s.heap.get? b = some o → s'.heap.get? b = some o ∧ H b = none := by
    intro b hb o e
    have z := I.pin (b, o) (List.mem_append.mpr (Or.inr (List.mem_append.mpr (Or.inr (mem_pinsAt hb e)))))
    exact ⟨z.1, z.2.1⟩
  have len : (wipe σ vs).length = σ2.length := by rw [← hw]; exact wipe_length σ2 vs
  have I' : Inv B [] σ2 H s' := I.unpinned
  refine ⟨I'.weak len ?_, ?_, ?_⟩
  · intro j v e
    rw [← hw] at e
    exact (wipe_some e).1
  · exact T.keep i _ _ hh fun b hb o e => (held b hb o e).1
  · intro b hb
    obtain ⟨o, e, _⟩ := T.obj i _ hh b hb
    exact (held b hb o e).2
/-- how it stands ahead of a turn, the measure being n -/
def StandB (B : Cx) (fp : List Addr) (tn : Nat → Heap → Prop) (σ : L2.St) (W : Nat → Nat → Hp → Prop) (n : Nat) (s : Shared) : Prop := ∃ i H, Inv B [] σ H s ∧ tn i s.heap ∧ (∀ b ∈ fp, H b = none) ∧ W i n H
section
variable {X : Cx} {p : DcR} {Put : PutR} {σ : L2.St} {vs : List Nat} {kE vE tE itE : Expr} {tests : List Expr} {sc : Scope} {at_ : Pos}
/-- a pair is put: in each context of the program -/
def PutOk (X : Cx) (Put : PutR) : Prop := ∀ (B : Cx), B.prog = X.prog → B.w = X.w → B.A = X.A → ∀ (pins : List (Addr × Obj)) (σ : L2.St) (H : Hp) (s : Shared) (E : Value → Shared → Prop) (D : Addr) (y z : V) (u r : Value) (Nx : Hp → Prop),
  Inv B pins σ H s → RelV y u → RelV z r → Put D y z H Nx → wpAny (model X.prog X.w) X.A (dictSet D u r) (fun _ s' => ∃ H', Inv B pins σ H' s' ∧ Nx H') E s
/-- the parts keep what they promise in a block -/
structure PartsB (B : Cx) (p : DcR) (kE vE tE : Expr) (tests : List Expr) : Prop where
  tg : PG B tE p.tg
  ts : PTs B tests p.ts
  ky : PE B kE p.ky
  vl : PE B vE p.vl
/-- the loop of the block, from a stand to what is behind it -/
theorem loopB {s3 : Shared} {H3 : Hp} {ce : PySem.Env} {fp : List Addr} {tn : Nat → Heap → Prop} {J : It} {it D : Addr} {W : Nat → Nat → Hp → Prop} {Q : Hp → Prop} {R : Result → Shared → Prop} {s4 : Shared} {n0 : Nat}
    (calm : X.calm = true) (put : PutOk X Put) (P : PartsB (X.blk s3 H3 sc ce fp) p kE vE tE tests) (T : L2.Turn X.prog X.w X.K tE J fp it tn) (turns : turnsR p Put vs σ J D Q W)
    (out : ∀ H s, Inv (X.blk s3 H3 sc ce fp) [] (wipe σ vs) H s → Q H → R (.ok .next) s) (h0 : StandB (X.blk s3 H3 sc ce fp) fp tn (wipe σ vs) W n0 s4) :
    codeAny (model X.prog X.w) X.A (.compLoop (.DictComp kE vE [⟨tE, itE, tests, 0⟩] sc at_) 0 (.ref it) (.ref D) ce) R s4 := by
  refine compLoop_anyD (StandB (X.blk s3 H3 sc ce fp) fp tn (wipe σ vs) W) ?_ n0 h0
  intro n s5 ⟨i, H5, I5, t5, a5, w5⟩
  cases turns i n H5 w5 with
  | inl fin =>
    have stops := T.done (X.blk s3 H3 sc ce fp) rfl rfl rfl calm i [] s5 _ H5 (fun _ _ => False) I5 (apartB I5 a5) t5 fin.1
    refine thnF stops fun r s6 q => ?_
    rw [q.1]
    exact out H5 s6 q.2 fin.2
  | inr more =>
    obtain ⟨goes, Nx, down, step⟩ := more
    have yields := T.item (X.blk s3 H3 sc ce fp) rfl rfl rfl calm i [] s5 _ H5 (fun _ _ => False) I5 (apartB I5 a5) t5 goes
    refine thnF yields fun r s6 q => ?_
    obtain ⟨u, hr, own⟩ := q
    rw [hr]
    refine thnF own fun _ s7 q => ?_
    obtain ⟨x, H7, I7, rel, came, t7, a7⟩ := q
    have next : ∀ {σ2 : L2.St} {H : Hp} {s' : Shared}, wipe σ2 vs = wipe σ vs → Inv (X.blk s3 H3 sc ce fp) ([] ++ pinsAt fp s7.heap) σ2 H s' → Nx H → ∃ m, m < n ∧ StandB (X.blk s3 H3 sc ce fp) fp tn (wipe σ vs) W m s' := by
      intro σ2 H s' hw I nx
      obtain ⟨m, lt, w⟩ := down H nx
      obtain ⟨e1, e2, e3⟩ := shutB (B := X.blk s3 H3 sc ce fp) T hw t7 I
      exact ⟨m, lt, i + 1, H, e1, e2, e3, w⟩
    refine thnF (P.tg.run _ s7 _ H7 x u _ (I7.pinned (apartB I7 a7) (T.obj _ _ t7)) rel (step x H7 came)) fun _ s8 q => ?_
    obtain ⟨σ2, H8, I8, hw, q8⟩ := q
    refine thnF (P.ts.run _ s8 σ2 H8 _ I8 q8) fun b s9 q => ?_
    obtain ⟨H9, I9, q9⟩ := q
    by_cases hb : b = true
    · rw [if_pos hb] at q9
      rw [if_pos hb]
      refine thnF (P.ky.run _ s9 σ2 H9 _ I9 q9) fun yv sa q => ?_
      obtain ⟨y, Ha, Ia, ry, qa⟩ := q
      refine thnF (P.vl.run _ sa σ2 Ha _ Ia qa) fun zv sb q => ?_
      obtain ⟨z, Hb, Ib, rz, qb⟩ := q
      refine thnF (put (X.blk s3 H3 sc ce fp) rfl rfl rfl _ σ2 Hb sb (fun _ _ => False) D y z yv zv Nx Ib ry rz qb) fun _ sc' q => ?_
      obtain ⟨Hc, Ic, nx⟩ := q
      exact next hw Ic nx
    · rw [if_neg hb] at q9
      rw [if_neg hb]
      exact next hw I9 q9
/-- the whole comprehension as a value -/
theorem pe_comp {o0 : HO} {mine : List (Str × Nat)} (calm : X.calm = true) (nd : X.N.Nodup) (put : PutOk X Put) (empty : ∀ (H : Hp) (h : Heap), sysModules < h.objs.size → ObjOk X.prog X.w H (h.push { cls := .type "dict", data := .dict #[] }) h.objs.size o0)
    (pit : PI X tE itE p.it) (blk : BlkOk X.N X.env.scope sc mine) (parts : ∀ (s : Shared) (H : Hp) (C : Addr) (cl : List (Str × Addr)) (fp : List Addr), PartsB (X.blk s H sc (compEnvC sc cl C X.env) fp) p kE vE tE tests) (nofold : ∀ x, foldedSetIterable itE X.env x = pure x) :
    PE X (.DictComp kE vE [⟨tE, itE, tests, 0⟩] sc at_) (compR p o0 Put (mine.map (·.2))) := by
  constructor
  intro pins s σ H Q I ask
  rw [arm_eval_DictComp]
  have outer : ∀ y ∈ sc.names, y.2 = .free → ∃ c, X.env.cells.lookup y.1 = some c := by
    intro y hy e
    cases blk.free y hy e with
    | inl k => exact I.ok.has _ (Or.inl k)
    | inr k => exact I.ok.has _ (Or.inr k)
  refine wpAny_comprehension_free (use := none) rfl nofold (closure_ok outer) blk.kind (fun y hy e => by rw [blk.uniq y hy, e]) ?_
  refine thn (pit.run pins s σ H _ I ask) fun v s1 walk => thn walk fun iv s2 came => ?_
  obtain ⟨it, fp, tn, J, G, ei, I2, T, t2, f2, q⟩ := came
  rw [ei]
  refine wpAny_newObj_type (newEnv_comp ?_)
  -- the dict is laid
  have fresh : G s2.heap.objs.size = none := I2.hok.fresh (Nat.le_refl _)
  obtain ⟨W, ⟨n0, w0⟩, turns⟩ := q s2.heap.objs.size fresh
  generalize eD : s2.heap.objs.size = D at fresh w0 turns ⊢
  have I3 : Inv X pins σ (upd G D o0) { s2 with heap := s2.heap.push { cls := .type "dict", data := .dict #[] } } := by
    have new := empty (upd G D o0) s2.heap I2.big
    rw [eD] at new
    exact I2.laid (t' := s2.toks) (fun b u e => Heap.get?_push_of_some _ e) (Nat.le_of_eq eD) new
  generalize es : ({ s2 with heap := s2.heap.push { cls := .type "dict", data := .dict #[] } } : Shared) = s3 at I3
  have heap3 : s3.heap = s2.heap.push { cls := .type "dict", data := .dict #[] } := by rw [← es]
  have t3 : tn 0 s3.heap := T.keep 0 _ _ t2 fun b _ o e => by rw [heap3]; exact Heap.get?_push_of_some _ e
  have f3 : ∀ b ∈ fp, FpOk X pins (upd G D o0) b ∧ b < s3.heap.objs.size := by
    intro b hb
    obtain ⟨o, e, _⟩ := T.obj 0 _ t2 b hb
    have lt := Heap.lt_size e
    constructor
    · refine ⟨?_, (f2 b hb).2⟩
      rw [upd_ne (by rw [← eD]; exact Nat.ne_of_lt lt)]
      exact (f2 b hb).1
    · rw [heap3, Heap.size_push]
      exact Nat.lt_succ_of_lt lt
  -- the block begins
  have I4 := block_start I3 blk nd f3
  have prt := parts s3 (upd G D o0) s3.heap.objs.size (cellsFrom (s3.heap.objs.size + 1) sc.names (cloFrom X.env.cells sc.names [])) fp
  have locs : (compEnvC sc (cellsFrom (s3.heap.objs.size + 1) sc.names (cloFrom X.env.cells sc.names [])) s3.heap.objs.size X.env).locals = s3.heap.objs.size := rfl
  generalize ece : compEnvC sc (cellsFrom (s3.heap.objs.size + 1) sc.names (cloFrom X.env.cells sc.names [])) s3.heap.objs.size X.env = ce at I4 prt locs
  have t4 : tn 0 (pushCells (s3.heap.push { cls := .type "dict", data := .dict #[] }) sc.names) := T.keep 0 _ _ t3 fun b _ o e => pushCells_keeps _ _ _ _ (Heap.get?_push_of_some _ e)
  have loop := loopB (kE := kE) (vE := vE) (itE := itE) (at_ := at_) (R := compPost (model X.prog X.w) X.A X.xe none (EP X pins σ Q) (.ref D) s3.heap.objs.size) (n0 := n0) calm put prt T turns (fun H' s' I' q' => by
      -- back where the comprehension stands
      have none' : H' s3.heap.objs.size = none := by
        have z : H' ce.locals = none := I'.free
        rw [locs] at z
        exact z
      have back : Inv X pins σ H' s' := I3.call' (ch := fp) I'.os I'.base I'.hok I'.bare fun b hb => by
        obtain ⟨⟨_, a2, _, a4, a5, a6⟩, _⟩ := f3 b hb
        exact ⟨a4, a2, a5, a6⟩
      obtain ⟨m, names, _⟩ := I'.loc
      have names : s'.heap.Ns ce.locals m := names
      rw [locs] at names
      obtain ⟨g0, g1, g2, g3, g4, g5⟩ := I3.fpOk (Nat.le_refl _) none'
      exact ⟨m, names, fun h'' same => ⟨.ref D, H', back.turned (t' := s'.toks) (fun b o hb e => (same.2 b hb).trans e) g0 g1 g3 g4 g5, rfl, q'⟩⟩)
    ⟨0, upd G D o0, I4, t4, fun b hb => (f3 b hb).1.1, w0⟩
  subst ece
  subst es
  exact codeAny_compStart_dict loop (T.self X.A 0 _ _ _ t4 loop)
end
/-! ### keys that are tuples of ints and texts -/
/-- a pair comes whose key is a tuple -/
def putT : PutR := fun D y z H Nx => ∃ (kvs : List (List L2.Key × V)) (k : List L2.Key) (b : Addr), y = .ref b ∧ H b = some (.tup (k.map kV)) ∧ H D = some (.dT kvs) ∧ kvs.length < sizeLine ∧ Nx (upd H D (.dT (putK kvs k z)))
theorem putT_ok {X : Cx} (room : X.A.units + 1 < cLine) : PutOk X putT := by
  intro B e1 e2 e3 pins σ H s E D y z u r Nx I ry rz h
  obtain ⟨kvs, k, b, rfl, hb, hD, less, nx⟩ := h
  have eu : u = Value.ref b := ry
  rw [eu, ← e1, ← e2, ← e3]
  rw [← e3] at room
  obtain ⟨small, differ, xs, rel, laid⟩ := dt_of I.hok hD
  have small2 : xs.length ≤ sizeLine := by rw [← Paired.length rel]; exact small
  have small3 : (putK kvs k z).length ≤ sizeLine := by have := length_putK kvs k z; omega
  refine wpAny_dictSet_heap (hsz := small2) (knd := tupleKind (mixKind B.prog B.w)) (show B.A.units < cLine by omega) (key_of I.hok hb) laid fun h2 laid2 same => ?_
  obtain ⟨q, es, ep, hq, p2, p3, p4, _, p5⟩ := laid2
  refine ⟨upd H D (.dT (putK kvs k z)), d_write (ob := .dT (putK kvs k z)) I (by rw [hD]; trivial) same ⟨q, hq⟩ ⟨small3, differ, _, KT.keeps (KT.put rel k hb rz) ?_, q, es, ep, hq, p2, p3, p4, p5⟩, nx⟩
  intro c ys ec
  rw [upd_ne (ne_of ec hD (fun z => nomatch z))]
  exact ec
theorem pe_compT {X : Cx} {p : DcR} {kE vE tE itE : Expr} {tests : List Expr} {sc : Scope} {at_ : Pos} {mine : List (Str × Nat)} (room : X.A.units + 1 < cLine) (calm : X.calm = true) (nd : X.N.Nodup)
    (pit : PI X tE itE p.it) (blk : BlkOk X.N X.env.scope sc mine) (parts : ∀ (s : Shared) (H : Hp) (C : Addr) (cl : List (Str × Addr)) (fp : List Addr), PartsB (X.blk s H sc (compEnvC sc cl C X.env) fp) p kE vE tE tests) (nofold : ∀ x, foldedSetIterable itE X.env x = pure x) :
    PE X (.DictComp kE vE [⟨tE, itE, tests, 0⟩] sc at_) (compR p (.dT []) putT (mine.map (·.2))) :=
  pe_comp calm nd (putT_ok room) (fun H h hb => dt_empty h hb) pit blk parts nofold
end AB

set_option Elab.async false
set_option linter.all false
set_option autoImplicit false
set_option maxRecDepth 100000
/-! AnyN3: list({k: True for ..}), the keys tuples. -/
namespace AB
open PySem PySem.Spec L2 PyProof.Rows

def kD : L2.Key → D
  | .inl i => .int i
  | .inr x => .str x
def tK (k : List L2.Key) : D := .tup (k.map kD)
theorem kD_eqb (a b : L2.Key) : D.eqb (kD a) (kD b) = decide (a = b) := by
  cases a with
  | inl i => cases b with
    | inl j =>
      simp only [kD, D.eqb]
      by_cases h : i = j
      · subst h; simp
      · simp [h]
    | inr y => simp [kD, D.eqb]
  | inr x => cases b with
    | inl j => simp [kD, D.eqb]
    | inr y =>
      simp only [kD, D.eqb]
      by_cases h : x = y
      · subst h; simp
      · simp [h]
theorem kDs_eqb : ∀ (a b : List L2.Key), D.eqbs (a.map kD) (b.map kD) = decide (a = b)
  | [], [] => by simp [D.eqbs]
  | [], _ :: _ => by simp [D.eqbs]
  | _ :: _, [] => by simp [D.eqbs]
  | x :: a, y :: b => by
    simp only [List.map_cons, D.eqbs, kD_eqb, kDs_eqb a b, List.cons.injEq]
    by_cases h1 : x = y <;> by_cases h2 : a = b <;> simp [h1, h2]
theorem tK_eqb (a b : List L2.Key) : D.eqb (tK a) (tK b) = decide (a = b) := by
  simp only [tK, D.eqb, kDs_eqb]
theorem key_of_D : ∀ {xs : List D}, xs.all keyAt = true → ∃ k : List L2.Key, xs = k.map kD
  | [], _ => ⟨[], rfl⟩
  | d :: xs, h => by
    simp only [List.all_cons, Bool.and_eq_true] at h
    obtain ⟨k, rfl⟩ := key_of_D h.2
    cases d with
    | int i => exact ⟨.inl i :: k, rfl⟩
    | str x => exact ⟨.inr x :: k, rfl⟩
    | _ => exact absurd h.1 (by simp [keyAt])
/-- the keys behind one more -/
theorem put_keys (kvs : List (List L2.Key × V)) (k : List L2.Key) (v : V) : (putK kvs k v).map (fun q => tK q.1) = addKey (tK k) (kvs.map fun q => tK q.1) := by
  have e : (kvs.map fun q => tK q.1).any (D.eqb (tK k)) = kvs.any fun kv => decide (kv.1 = k) := by
    rw [List.any_map]
    congr 1
    funext q
    show D.eqb (tK k) (tK q.1) = _
    rw [tK_eqb]
    exact decide_eq_decide.mpr eq_comm
  unfold putK addKey
  rw [e]
  split
  · rw [List.map_map]
    refine List.map_congr_left fun q _ => ?_
    show tK (if q.1 = k then (q.1, v) else q).1 = _
    split <;> rfl
  · simp
theorem lft_ex {α : Type} {o : Option α} {st st2 : Store} {e : Ex} (h : lft o st = .ex e st2) : False := by
  cases o <;> cases h
theorem put_len (kvs : List (List L2.Key × V)) (k : List L2.Key) (v : V) : (putK kvs k v).length ≤ kvs.length + 1 := by
  unfold putK
  split <;> simp
section
variable {K : PySem.W.Frag} {off : Addr → Prop} {w w' : Wd}
theorem OkW.gdrop0 {p : Addr} (ok : OkW K off w) : LeW w { w with gh := fun a => w.gh a ∧ a ≠ p } ∧ OkW K off { w with gh := fun a => w.gh a ∧ a ≠ p } := by
  have lv : ∀ x, Live { w with gh := fun a => w.gh a ∧ a ≠ p } x → Live w x := fun x h => by
    rcases h with h | h
    · exact .inl h
    · exact .inr h.1
  have le : LeW w { w with gh := fun a => w.gh a ∧ a ≠ p } := ⟨fun x u h _ => h, ⟨[], by simp⟩, fun x h => .inl (lv x h)⟩
  refine ⟨le, ok.len, fun m xs a e1 e2 => ?_, ok.scr, ok.nol, ok.inj, fun a h => ⟨(ok.off a h).1, fun z => (ok.off a h).2 (lv a z)⟩, fun a h => ok.gh a h.1, ok.pur, fun a m c g => ok.ghd a m c g.1⟩
  obtain ⟨vs, h1, h2⟩ := ok.lst m xs a e1 e2
  exact ⟨vs, h1, Reps.mono' ok.nlv le xs vs h2⟩
theorem rep_key {d : D} {v : V} (h : keyOk d = true) (r : Rep K off w d v) : ∃ (k : List L2.Key) (b : Addr), d = tK k ∧ v = .ref b ∧ w.H b = some (.tup (k.map kV)) := by
  unfold keyOk at h
  split at h
  · rename_i xs
    simp only [Bool.and_eq_true] at h
    obtain ⟨k, rfl⟩ := key_of_D h.1
    simp only [Rep] at r
    obtain ⟨a, vs, rfl, h1, h2⟩ := r
    have ev : vs = k.map kV := by
      clear h h1
      induction k generalizing vs with
      | nil => simp only [List.map_nil, Reps] at h2; exact h2
      | cons x k ih =>
        simp only [List.map_cons, Reps] at h2
        obtain ⟨v, r, rfl, g1, g2⟩ := h2
        rw [List.map_cons, ih r g2]
        cases x <;> (simp only [kD, Rep] at g1; rw [g1]; rfl)
    subst ev
    refine ⟨k, a, rfl, rfl, ?_⟩
    rcases h1 with h1 | ⟨_, h1⟩
    · exact h1
    · exfalso
      have h3 := h.2
      rw [List.any_eq_true] at h3
      obtain ⟨y, hy, hi⟩ := h3
      have := List.all_eq_true.mp h1 y hy
      cases y <;> simp [isStr, isInt] at this hi
  · exact nomatch h
end
section
variable {S : Sg} {K : PySem.W.Frag} {off : Addr → Prop} {Wh : WX}
/-- the invariant: the keys so far -/
def PvK (K : PySem.W.Frag) (off : Addr → Prop) (w1 : Wd) (p : Addr) (f : List D → M (List D)) (xs zs : List D) (st0 : Store) (i : Nat) (H : Hp) : Prop :=
  ∃ (w2 : Wd) (kvs : List (List L2.Key × V)) (ys rest : List D), w2.H = H ∧ Le w1 w2 ∧ OkW K off w2 ∧ w2.gh p ∧ H p = some (.dT kvs) ∧ (kvs.map fun q => tK q.1) = ys.foldl (fun ks k => addKey k ks) [] ∧ kvs.length ≤ ys.length ∧
    f (xs.drop i) w2.st = .ok rest st0 ∧ ys ++ rest = zs
/-- what list({..}) asks -/
abbrev rKeys : List V → Hp → VK → Prop := fun xs H Q => ∃ d kvs, xs = [V.ref d] ∧ Rd H d (.dT kvs) ∧ ∀ p bs, H p = none → IsKeys H kvs bs → Q (.ref p) (upd H p (.lst (bs.map V.ref)))
theorem isKeys_reps {w : Wd} : ∀ {kvs : List (List L2.Key × V)} {bs : List Addr}, IsKeys w.H kvs bs → Reps K off w (kvs.map fun q => tK q.1) (bs.map V.ref)
  | [], bs, h => by
    cases h
    exact .nil
  | q :: kvs, bs, h => by
    cases h with
    | cons h1 h2 =>
      refine .cons ?_ (isKeys_reps h2)
      simp only [tK, Rep]
      refine ⟨_, _, rfl, .inl h1, ?_⟩
      generalize q.1 = k
      induction k with
      | nil => exact .nil
      | cons x k ih => exact .cons (by cases x <;> simp only [kD, kV, Rep]) ih
theorem lcK {elt cond : E} {tg : T} {it : I} {vs : List Nat} (hv : ∀ i ∈ tg.sl, i ∈ vs) {σ : L2.St} {H : Hp} {Q : VK} (h : tD S K Wh (.keys elt tg it cond vs) σ H Q) :
    tCB rKeys (tCons (compR ⟨iD S K Wh it, gD K tg, tDT S K WF cond, tD S K WF elt, tC (.bl true)⟩ (.dT []) putT vs) tNil) σ H Q := by
  obtain ⟨off, w, env, rfl, ok, re, sat⟩ := h
  simp only [ev] at sat
  refine ⟨off, w, env, rfl, ok, re, sat.bnd.imp fun xs w1 l1 ok1 s1 J hJ => ?_⟩
  intro p hp
  obtain ⟨G, Y, W, hG, hY⟩ := hJ
  have re1 := re.mono ok l1
  have fin0 : ∃ zs st3, compL (turnD S elt tg cond (wipeE env vs)) xs w1.st = .ok zs st3 ∧ zs.length < szLine ∧ zs.all keyOk = true ∧ ∀ w', Le w1 w' → OkW K off w' → w'.st = st3 → ∀ v, Rep K off w' (.lst (zs.foldl (fun ks k => addKey k ks) [])) v → Q v w'.H := by
    have s1 : Sat K off w1 ((bnd (noex (compL (turnD S elt tg cond (wipeE env vs)) xs)) fun ys => bnd (sizeOk ys) fun ys => bnd (lft (keysP ys)) fun ks => ret (D.lst ks)) w1.st) _ _ := s1
    generalize hr : (bnd (noex (compL (turnD S elt tg cond (wipeE env vs)) xs)) fun ys => bnd (sizeOk ys) fun ys => bnd (lft (keysP ys)) fun ks => ret (D.lst ks)) w1.st = r at s1
    cases r with
    | no => exact s1.elim
    | ex e st =>
      rcases bnd_ex hr with h | ⟨a, b, _, h⟩
      · exact (noex_ex h).elim
      · rcases bnd_ex h with h | ⟨a, b, _, h⟩
        · exact (sizeOk_ex h).elim
        · rcases bnd_ex h with h | ⟨a, b, _, h⟩
          · exact (lft_ex h).elim
          · cases h
    | ok d st =>
      obtain ⟨zs, st1, h1, h2⟩ := bnd_ok hr
      obtain ⟨zs', st2, h3, h4⟩ := bnd_ok h2
      obtain ⟨ks, st4, h5, h6⟩ := bnd_ok h4
      obtain ⟨rfl, rfl⟩ := ret_ok h6
      obtain ⟨h7, rfl⟩ := lft_ok h5
      unfold sizeOk at h3
      split at h3
      · rename_i hz
        obtain ⟨rfl, rfl⟩ := ret_ok h3
        unfold keysP at h7
        split at h7
        · rename_i hk
          cases h7
          exact ⟨zs', _, noex_ok h1, hz, hk, fun w' l o e v rv => s1 w' l o e v rv fun z => by cases z⟩
        · cases h7
      · cases h3
  obtain ⟨zs, st3, q', hz, hkeys, fin⟩ := fin0
  obtain ⟨l2, ok2⟩ := ok1.gnew (o0 := .dT []) hp trivial
  refine lp W (step := fun x H' Nx => gD K tg x (wipe σ vs) H' fun σ2 H2 => wipe σ2 vs = wipe σ vs ∧ tDT S K WF cond σ2 H2 fun b H3 =>
      if b = true then tD S K WF elt σ2 H3 fun y H4 => tC (.bl true) σ2 H4 fun z H5 => ∃ kvs k b, y = .ref b ∧ H5 b = some (.tup (k.map kV)) ∧ H5 p = some (.dT kvs) ∧ kvs.length < sizeLine ∧ Nx (upd H5 p (.dT (putK kvs k z))) else Nx H3)
    (PvK K off w1 p (compL (turnD S elt tg cond (wipeE env vs))) xs zs st3) ?_ ?_ ?_ ?_
  · exact ⟨_, [], [], zs, rfl, l2, ok2, .inr rfl, upd_same, rfl, Nat.le_refl _, by simpa using q', rfl⟩
  · rintro i H _ ⟨w2, kvs, ys, rest, rfl, l, _⟩
    exact hG w2 l.toLeW
  · rintro i x H H' hi ⟨w2, kvs, ys, rest, rfl, lb, ok2, gp, hD, ek, hlen, hc, hkk⟩ y
    obtain ⟨d, hd, hr⟩ := hY i _ x H' hi y
    obtain ⟨w3, rfl, e3, l3, ok3, rx⟩ := itm_step0 ok1.nlv ok2 lb.toLeW hr
    have e4 : xs.drop i = d :: xs.drop (i + 1) := by
      obtain ⟨hl, he⟩ := List.getElem?_eq_some_iff.mp hd
      rw [List.drop_eq_getElem_cons hl, he]
    rw [e4] at hc
    obtain ⟨o, st1, us, h1, h2, h5⟩ := compL_cons hc
    obtain ⟨env', b, st2, h6, h7, h8⟩ := turnD_ok h1
    have re3 : REnv K off w3 (wipeE env vs) (wipe σ vs) := (re1.mono' ok1.nlv (lb.trans l3).toLeW).wipe vs
    obtain ⟨gp3, hD3⟩ := l3.ghk p _ gp hD
    refine ⟨off, w3, wipeE env vs, d, env', rfl, ok3, re3, rx, h6, fun σ2 re4 fx => ⟨fx.wipe hv, ?_⟩⟩
    refine ⟨off, w3, env', rfl, ok3, re4, ?_⟩
    rw [e3, h7]
    intro w4 l4 ok4 e4'
    obtain ⟨gp4, hD4⟩ := l4.ghk p _ gp3 hD3
    rcases h8 with ⟨rfl, y, h9, rfl⟩ | ⟨rfl, rfl, rfl⟩
    · simp only [if_true]
      refine ⟨off, w4, env', rfl, ok4, re4.mono ok3 l4, ?_⟩
      rw [e4', h9]
      intro w5 l5 ok5 e5 v rv _
      obtain ⟨gp5, hD5⟩ := l5.ghk p _ gp4 hD4
      have h5 : rest = y :: us := h5
      subst h5
      have hy : keyOk y = true := List.all_eq_true.mp hkeys y (by rw [← hkk]; simp)
      obtain ⟨k, b, rfl, rfl, hb⟩ := rep_key hy rv
      obtain ⟨l6, ok6⟩ := ok5.gwr (o1 := .dT (putK kvs k (.bl true))) gp5 hD5 trivial trivial
      refine ⟨kvs, k, b, rfl, hb, hD5, ?_, { w5 with H := upd w5.H p (.dT (putK kvs k (.bl true))) }, putK kvs k (.bl true), ys ++ [tK k], us, rfl, ?_, ok6, gp5, upd_same, ?_, ?_, ?_, ?_⟩
      · rw [← szLine_eq]
        rw [← hkk] at hz
        simp only [List.length_append, List.length_cons] at hz
        omega
      · exact (((lb.trans l3).trans l4).trans l5).gwr hp
      · rw [put_keys, ek, List.foldl_append]
        rfl
      · have := put_len kvs k (.bl true)
        simp only [List.length_append, List.length_singleton]
        omega
      · show compL _ _ w5.st = _
        rw [e5]; exact h2
      · simpa using hkk
    · simp only [Bool.false_eq_true, if_false]
      have h5 : rest = us := h5
      subst h5
      refine ⟨w4, kvs, ys, rest, rfl, (lb.trans l3).trans l4, ok4, gp4, hD4, ek, hlen, ?_, hkk⟩
      rw [e4']; exact h2
  · rintro H ⟨w2, kvs, ys, rest, rfl, lb, ok2, gp, hD, ek, hlen, hc, hkk⟩
    rw [List.drop_length] at hc
    obtain ⟨q1, q2⟩ := ret_ok (a := []) (b := rest) hc
    subst q1
    rw [List.append_nil] at hkk
    subst hkk
    refine ⟨p, kvs, rfl, .inl hD, fun q bs hq hk => ?_⟩
    obtain ⟨l3, ok3⟩ := ok2.gdrop0 (p := p)
    have l3' := lb.gdrop hp
    have nq : ¬ Live { w2 with gh := fun a => w2.gh a ∧ a ≠ p } q := ok3.nlive_new hq
    have l4 : Le { w2 with gh := fun a => w2.gh a ∧ a ≠ p } { w2 with gh := fun a => w2.gh a ∧ a ≠ p, H := upd w2.H q (.lst (bs.map V.ref)) } := .new hq nq
    have ok4 : OkW K off { w2 with gh := fun a => w2.gh a ∧ a ≠ p, H := upd w2.H q (.lst (bs.map V.ref)) } := ok3.new hq
    refine fin _ (l3'.trans l4) ok4 q2.symm _ ?_
    rw [← ek]
    simp only [Rep]
    refine ⟨q, bs.map V.ref, rfl, upd_same, fun z => ?_, nq, ?_⟩
    · obtain ⟨⟨u, hu⟩, _⟩ := ok2.off q z
      rw [hq] at hu; cases hu
    · exact Reps.mono ok3 l4 _ _ (isKeys_reps (w := { w2 with gh := fun a => w2.gh a ∧ a ≠ p }) hk)
end
section
variable {X : Cx} {S : Sg} {Wh : WX} {a b : Expr} {pa pb : E} {pos p p2 pos2 : Pos}
theorem reps_range {K : PySem.W.Frag} {off : Addr → Prop} {w : Wd} : ∀ (n : Nat) (i : Int), Reps K off w (AB.range i n) ((List.range n).map fun k => V.int (i + (k : Nat)))
  | 0, i => .nil
  | n + 1, i => by
    rw [List.range_succ_eq_map, List.map_cons, List.map_map]
    refine .cons (by simp only [Rep]; simp) ?_
    have h := reps_range (K := K) (off := off) (w := w) n (i + 1)
    have e : ((List.range n).map fun k => V.int (i + 1 + (k : Nat))) = (List.range n).map ((fun k => V.int (i + (k : Nat))) ∘ Nat.succ) := by
      refine List.map_congr_left fun k _ => ?_
      show V.int _ = V.int _
      congr 1
      have : ((Nat.succ k : Nat) : Int) = (k : Int) + 1 := by omega
      rw [this]; omega
    rw [← e]; exact h
/-- list(range(a, b)) -/
theorem d_lrng (hc : X.calm = true) (hl : Gl X "list") (hml : X.mg "list" = none) (hg : Gl X "range") (hm : X.mg "range" = none) (ha : PE X a (tD S X.K Wh pa)) (hb : PE X b (tD S X.K Wh pb)) (hs : strd a = false) (hs2 : strd b = false) :
    PE X (.Call (.Name "list" p) [.Call (.Name "range" p2) [a, b] [] pos2] [] pos) (tD S X.K Wh (.lrng pa pb)) := by
  refine PE.imp ?_ (pe_listRg hc hl hml (prg_2 hg hm ha hb (star_cons hs) (star_cons hs2) (by rw [star_cons hs2]; rfl)) rfl)
  rintro σ H Q ⟨off, w, env, rfl, ok, re, sat⟩
  simp only [ev] at sat
  refine ⟨off, w, env, rfl, ok, re, sat.bnd.imp fun d w1 l1 ok1 s1 x rx _ => ?_⟩
  refine ⟨off, w1, env, rfl, ok1, re.mono ok l1, s1.bnd.imp fun e w2 l2 ok2 s2 y ry _ => ?_⟩
  obtain ⟨xs, e, k⟩ := s2.bnd.lft
  obtain ⟨i, j, rfl, rfl, h1, h2, rfl⟩ := rng_in e
  simp only [Rep] at rx ry
  subst rx ry
  have s3 := k w2 (.refl w2) ok2 rfl
  unfold sizeOk at s3
  split at s3
  · rename_i hz
    rw [range_len] at hz
    have hz' : (j - i).toNat < 16777216 := by rw [← show szLine = 16777216 from rfl]; exact hz
    refine ⟨i, j, rfl, rfl, ⟨by omega, by omega, by omega, by omega, by omega⟩, ?_⟩
    have g : Gives X.K off w2 (opFr (.lst (AB.range i (j - i).toNat))) (.lst (AB.range i (j - i).toNat)) Q := gives_of ok2 (.refl w2) fun w' l o e v rv f => s3 w' l o e v rv fun z => by cases z
    exact g.newL ok2 (reps_range _ _)
  · exact s3.elim
end
end AB

set_option Elab.async false
set_option linter.all false
set_option autoImplicit false
set_option maxRecDepth 100000
set_option maxHeartbeats 4000000
/-! AnyM2: sorted, of rows whose first three items are ints, no two rows alike in them. -/
namespace AB
open PySem PySem.Spec L2 PyProof.Rows
abbrev I3 := Int × Int × Int
def lt3 (p q : I3) : Bool := decide (p.1 < q.1 ∨ (p.1 = q.1 ∧ (p.2.1 < q.2.1 ∨ (p.2.1 = q.2.1 ∧ p.2.2 < q.2.2))))
theorem lt3_iff {p q : I3} : lt3 p q = true ↔ (p.1 < q.1 ∨ (p.1 = q.1 ∧ (p.2.1 < q.2.1 ∨ (p.2.1 = q.2.1 ∧ p.2.2 < q.2.2)))) := by unfold lt3; rw [decide_eq_true_eq]
theorem lt3_no {p q : I3} : lt3 p q = false ↔ ¬ (p.1 < q.1 ∨ (p.1 = q.1 ∧ (p.2.1 < q.2.1 ∨ (p.2.1 = q.2.1 ∧ p.2.2 < q.2.2)))) := by unfold lt3; rw [decide_eq_false_iff_not]
theorem lt3_swo {α : Type} (k : α → I3) : SrtO.Swo fun v u => lt3 (k v) (k u) := by
  refine ⟨fun x y h => ?_, fun x y z h1 h2 => ?_⟩
  · have a := lt3_iff.mp h
    refine lt3_no.mpr ?_
    omega
  · have a := lt3_no.mp h1
    have b := lt3_no.mp h2
    refine lt3_no.mpr ?_
    omega
/-- a row at v: its first three items -/
def RowAt (h : Heap) (v : Value) (k : I3) : Prop := ∃ a o t1 t2 t3 rest n, v = .ref a ∧ h.get? a = some o ∧ o.cls = .type "tuple" ∧ o.data = .seq (Value.int k.1 t1 :: .int k.2.1 t2 :: .int k.2.2 t3 :: rest).toArray n
theorem RowAt.keeps {h h' : Heap} {v : Value} {x : I3} (p : RowAt h v x) (k : ∀ b o, h.get? b = some o → o.cls = .type "tuple" → h'.get? b = some o) : RowAt h' v x := by
  obtain ⟨a, o, t1, t2, t3, r, n, e, ho, hc, hd⟩ := p
  exact ⟨a, o, t1, t2, t3, r, n, e, k _ _ ho hc, hc, hd⟩
section
variable {prog : Program} {w : World} {A : Around} {E : Value → Shared → Prop} {s : Shared}
theorem lex_self {b : Bool} {Q : Bool → Shared → Prop} (hq : Q false s) : ∀ (l : List Value) (i : Nat), PySem.W.KatLex prog w A b false Q (l.zip l) i s
  | [], i => PySem.W.kat_nil hq
  | x :: l, i => PySem.W.kat_cons (SeqAt.EqAt.same x prog w _ _ (PySem.W.kat_yes (lex_self hq l (i + 1))))
theorem row_cmp {vs : List Value} {k : Value → I3} (hp : ∀ v ∈ vs, RowAt s.heap v (k v)) (hd : ∀ v ∈ vs, ∀ u ∈ vs, k v = k u → v = u) :
    SrtO.Cmp prog w A s (tuples' true) (fun p => p.1 ∈ vs) (SrtO.lt2 fun v u => lt3 (k v) (k u)) := by
  intro p q hm hm'
  show wpAny (model prog w) A (keyLt' (tuples' true) p.1 q.1) (fun r s' => s' = s ∧ r = lt3 (k p.1) (k q.1)) (fun _ _ => False) s
  have h1 := hp _ hm
  have h2 := hp _ hm'
  by_cases hk : k p.1 = k q.1
  · rw [← hd _ hm _ hm' hk]
    obtain ⟨a, o, t1, t2, t3, r, n, e, ho, hc, hdt⟩ := h1
    rw [e]
    refine PySem.W.kat_lt ho hdt ho hdt ?_
    rw [decide_eq_false (Nat.lt_irrefl _)]
    refine lex_self ⟨rfl, ?_⟩ _ _
    rw [← e]
    exact ((lt3_swo id).refl _).symm
  · revert h1 h2 hk
    generalize k p.1 = x
    generalize k q.1 = y
    rintro ⟨a, o, t1, t2, t3, r, n, e, ho, hc, hdt⟩ ⟨a', o', t1', t2', t3', r', n', e', ho', hc', hdt'⟩ hk
    rw [e, e']
    refine PySem.W.kat_lt ho hdt ho' hdt' ?_
    show PySem.W.KatLex prog w A true _ _ ((.int x.1 t1, .int y.1 t1') :: (.int x.2.1 t2, .int y.2.1 t2') :: (.int x.2.2 t3, .int y.2.2 t3') :: r.zip r') 0 s
    refine PySem.W.kat_cons (SeqAt.EqAt.int_int x.1 t1 y.1 t1' prog w _ _ ?_)
    refine PySem.W.kat_go (fun e1 => ?_) (fun e1 => ?_)
    · have ex : x.1 = y.1 := by simpa using e1
      refine PySem.W.kat_yes (PySem.W.kat_cons (SeqAt.EqAt.int_int x.2.1 t2 y.2.1 t2' prog w _ _ ?_))
      refine PySem.W.kat_go (fun e2 => ?_) (fun e2 => ?_)
      · have ey : x.2.1 = y.2.1 := by simpa using e2
        refine PySem.W.kat_yes (PySem.W.kat_cons (SeqAt.EqAt.int_int x.2.2 t3 y.2.2 t3' prog w _ _ ?_))
        refine PySem.W.kat_go (fun e3 => ?_) (fun e3 => ?_)
        · have ez : x.2.2 = y.2.2 := by simpa using e3
          exact absurd (Prod.ext ex (Prod.ext ey ez)) hk
        · have ez : ¬ x.2.2 = y.2.2 := by simpa using e3
          refine PySem.W.kat_no (PySem.W.kat_one _ _ (PyProof.Rows.lt_int ?_))
          refine (show s = s ∧ decide (x.2.2 < y.2.2) = lt3 x y from ⟨rfl, ?_⟩)
          unfold lt3
          exact decide_eq_decide.mpr (by omega)
      · have ey : ¬ x.2.1 = y.2.1 := by simpa using e2
        refine PySem.W.kat_no (PySem.W.kat_one _ _ (PyProof.Rows.lt_int ?_))
        refine (show s = s ∧ decide (x.2.1 < y.2.1) = lt3 x y from ⟨rfl, ?_⟩)
        unfold lt3
        exact decide_eq_decide.mpr (by omega)
    · have ex : ¬ x.1 = y.1 := by simpa using e1
      refine PySem.W.kat_no (oneLt_int ⟨rfl, ?_⟩)
      unfold lt3
      exact decide_eq_decide.mpr (by omega)
theorem row_firsts {h : Heap} {k : Value → I3} : ∀ {vs : List Value}, (∀ v ∈ vs, RowAt h v (k v)) → ∃ fs : List Value, PySem.W.KatTups h vs fs ∧ fs.length = vs.length ∧ ∀ f ∈ fs, ∃ x t, f = Value.int x t
  | [], _ => ⟨[], PySem.W.KatTups.nil, rfl, fun _ hm => by simp at hm⟩
  | v :: vs, hp => by
    obtain ⟨fs, g1, g2, g3⟩ := row_firsts (vs := vs) fun v' hm => hp v' (List.mem_cons_of_mem _ hm)
    obtain ⟨a, o, t1, t2, t3, r, n, e, ho, hc, hd⟩ := hp v (List.mem_cons_self ..)
    generalize k v = kv at hd
    subst e
    refine ⟨.int kv.1 t1 :: fs, PySem.W.KatTups.cons ho hc hd rfl g1, by rw [List.length_cons, List.length_cons, g2], fun f hm => ?_⟩
    · rcases List.mem_cons.mp hm with rfl | hm
      · exact ⟨_, t1, rfl⟩
      · exact g3 f hm
theorem rows_sortable {a : Addr} {vs : List Value} {k : Value → I3} (h0 : 0 < vs.length) (hp : ∀ v ∈ vs, RowAt s.heap v (k v)) (hd : ∀ v ∈ vs, ∀ u ∈ vs, k v = k u → v = u) (ha : ∀ o, s.heap.get? a = some o → o.cls ≠ .type "tuple") :
    SrtO.SortableO prog w A s a vs fun v u => lt3 (k v) (k u) := by
  intro h' keep
  have hp' : ∀ v ∈ vs, RowAt h' v (k v) := fun v hm => (hp v hm).keeps fun b o e c => keep b o (fun z => by subst z; exact ha o e c) e
  obtain ⟨fs, g1, g2, g3⟩ := row_firsts hp'
  refine ⟨tuples' true, fun Q E hq => ?_, row_cmp hp' hd⟩
  refine PySem.W.kat_kind (T := .type "int") g1 (by omega) (fun f hm => ?_) (by rfl) ?_
  · obtain ⟨x, t, rfl⟩ := g3 f hm
    exact PySem.W.Looks.now
  · have e : (Value.type "int" != Value.type "tuple") = true := by first | decide +kernel | rfl | decide
    rw [e]
    exact hq
theorem sorted_rows {l : Addr} {vs : List Value} {k : Value → I3} {Q : Value → Shared → Prop} (hl : s.heap.IsList l vs.toArray) (hz : vs.length ≤ sizeLine) (hp : ∀ v ∈ vs, RowAt s.heap v (k v)) (hd : ∀ v ∈ vs, ∀ u ∈ vs, k v = k u → v = u)
    (h : ∀ (h' : Heap) (d : Addr) (out : List Value), SrtO.Srtd (fun v u => lt3 (k v) (k u)) out → SrtO.Stb (fun v u => lt3 (k v) (k u)) out vs → (∀ b o, s.heap.get? b = some o → h'.get? b = some o) → s.heap.objs.size ≤ d → (∃ n, h'.get? d = some (seqObj "list" out.toArray n)) → Q (.ref d) { s with heap := h' }) :
    wpAny (model prog w) A (call (.builtin "sorted") [.ref l]) Q E s := by
  refine SrtO.sorted_ord (lt3_swo k) hl hz (fun h2 h₁ a ha kk => ?_) fun out hs hb => ?_
  · refine rows_sortable (s := { s with heap := h₁ }) (by omega) (fun v hm => (hp v hm).keeps fun b o e _ => (kk b o e).2) hd fun o e => ?_
    have e' : some o = some (seqObj "list" vs.toArray 0) := e.symm.trans ha
    cases e'
    intro c
    exact absurd (Value.type.inj c) (by decide)
  · exact h _ _ out hs hb (fun b o e => sortedAll_old e) (Nat.le_succ _) (sortedAll_at s.heap vs out.toArray)
end
/-- sorted of rows -/
def rSortR (K : PySem.W.Frag) : List V → Hp → VK → Prop := fun vs H Q => ∃ (a : Addr) (xs : List V) (k : V → I3), vs = [V.ref a] ∧ SqL K H a xs ∧ (∀ x ∈ xs, ∃ t r, x = V.ref t ∧ SqT K H t (.int (k x).1 :: .int (k x).2.1 :: .int (k x).2.2 :: r)) ∧ (∀ x ∈ xs, ∀ y ∈ xs, k x = k y → x = y) ∧
  ∀ ys p, SrtO.Srtd (fun x y => lt3 (k x) (k y)) ys → ys.Perm xs → H p = none → Q (.ref p) (upd H p (.lst ys))
theorem cr_sortR {X : Cx} : CallR X (.builtin "sorted") (rSortR X.K) := by
  intro pins s σ H vs us Q I r h
  obtain ⟨a, xs, k, rfl, hs, hx, hdis, q⟩ := h
  obtain ⟨its, rv, hl, hz⟩ := I.list hs
  obtain ⟨u, rfl, ru⟩ := vals1 r
  obtain rfl : u = Value.ref a := ru
  obtain ⟨e1, e2⟩ := refs_back rv fun x m => by
    obtain ⟨t, _, e, _⟩ := hx x m
    exact ⟨t, e⟩
  have mem : ∀ t, Value.ref t ∈ its → V.ref t ∈ xs := fun t hv => by rw [e1]; exact List.mem_map.mpr ⟨_, hv, rfl⟩
  refine sorted_rows (k := fun u => k (backV u)) hl.isList (by rw [← rv.length]; exact hz) (fun v hv => ?_) (fun v hv u hu e => ?_) fun h' d out h1 h2 kp hd hn => ?_
  · obtain ⟨t, rfl⟩ := e2 v hv
    obtain ⟨t', r', e, ht⟩ := hx _ (mem t hv)
    cases e
    obtain ⟨its2, rr, ⟨⟨cl, dx, dat, sl⟩, ho, hc, n, hdt⟩, _⟩ := I.tuple ht
    simp only at hc hdt
    cases rr with
    | cons p1 rr =>
      cases rr with
      | cons p2 rr =>
        cases rr with
        | cons p3 rr =>
          obtain ⟨t1, rfl⟩ := p1
          obtain ⟨t2, rfl⟩ := p2
          obtain ⟨t3, rfl⟩ := p3
          exact ⟨t, _, t1, t2, t3, _, n, rfl, ho, hc, hdt⟩
  · obtain ⟨t, rfl⟩ := e2 v hv
    obtain ⟨t', rfl⟩ := e2 u hu
    have := hdis _ (mem t hv) _ (mem t' hu) e
    cases this
    rfl
  · have h3 : ∀ u ∈ out, ∃ a, u = Value.ref a := fun u hu => e2 u (h2.perm.mem_iff.mp hu)
    obtain ⟨n, hn⟩ := hn
    have hb : (out.map backV).Perm xs := by
      rw [e1]
      exact h2.perm.map backV
    refine ⟨.ref d, upd H d (.lst (out.map backV)), I.laid (t' := s.toks) kp hd ⟨?_, out, n, vals_back h3, hn⟩, rfl, q _ d (SrtO.srtd_map h1) hb (I.hok.fresh hd)⟩
    rw [hb.length_eq]
    exact hz
end AB

set_option Elab.async false
set_option linter.all false
set_option autoImplicit false
set_option maxRecDepth 100000
/-! AnyM3: sorted as the small language has it. -/
namespace AB
open PySem PySem.Spec L2 PyProof.Rows

section
variable {α β : Type}
def insG (key : α → I3) (x : α) : List α → List α
  | [] => [x]
  | y :: ys => if le3 (key x) (key y) then x :: y :: ys else y :: insG key x ys
def srtG (key : α → I3) : List α → List α
  | [] => []
  | x :: xs => insG key x (srtG key xs)
theorem insG_map (f : α → β) (key : β → I3) (x : α) : ∀ l, (insG (fun a => key (f a)) x l).map f = insG key (f x) (l.map f)
  | [] => rfl
  | y :: ys => by
    simp only [insG, List.map_cons]
    split <;> simp [insG_map f key x ys]
theorem srtG_map (f : α → β) (key : β → I3) : ∀ l, (srtG (fun a => key (f a)) l).map f = srtG key (l.map f)
  | [] => rfl
  | x :: xs => by simp only [srtG, List.map_cons, insG_map, srtG_map f key xs]
theorem insK_eq (x : I3 × D) : ∀ l, insK x l = insG (·.1) x l
  | [] => rfl
  | y :: ys => by simp only [insK, insG, insK_eq x ys]
theorem srtK_eq : ∀ l, srtK l = srtG (·.1) l
  | [] => rfl
  | x :: xs => by simp only [srtK, srtG, srtK_eq xs, insK_eq]
theorem insG_perm (key : α → I3) (x : α) : ∀ l, (insG key x l).Perm (x :: l)
  | [] => List.Perm.refl _
  | y :: ys => by
    simp only [insG]
    split
    · exact List.Perm.refl _
    · exact ((insG_perm key x ys).cons y).trans (List.Perm.swap x y ys)
theorem srtG_perm (key : α → I3) : ∀ l, (srtG key l).Perm l
  | [] => List.Perm.refl _
  | x :: xs => (insG_perm key x _).trans ((srtG_perm key xs).cons x)
theorem le3_lt {p q : I3} : le3 p q = true ↔ lt3 q p = false := by
  rw [lt3_no]
  unfold le3
  rw [decide_eq_true_eq]
  omega
theorem le3_not {p q : I3} (h : le3 p q = false) : lt3 p q = false := by
  rw [lt3_no]
  unfold le3 at h
  rw [decide_eq_false_iff_not] at h
  omega
theorem insG_srtd (key : α → I3) (x : α) : ∀ l, SrtO.Srtd (fun a b => lt3 (key a) (key b)) l → SrtO.Srtd (fun a b => lt3 (key a) (key b)) (insG key x l)
  | [], _ => SrtO.srtd_one _
  | y :: ys, h => by
    simp only [insG]
    split
    · rename_i hx
      refine List.pairwise_cons.mpr ⟨fun z hz => ?_, h⟩
      have h1 := le3_lt.mp hx
      rcases List.mem_cons.mp hz with e | hz
      · rw [e]; exact h1
      · have h2 := SrtO.srtd_head h z hz
        exact (lt3_swo key).tr x y z h1 h2
    · rename_i hx
      have hx : le3 (key x) (key y) = false := by simpa using hx
      refine List.pairwise_cons.mpr ⟨fun z hz => ?_, insG_srtd key x ys (List.pairwise_cons.mp h).2⟩
      rcases List.mem_cons.mp ((insG_perm key x ys).mem_iff.mp hz) with e | hz
      · rw [e]; exact le3_not hx
      · exact SrtO.srtd_head h z hz
theorem srtG_srtd (key : α → I3) : ∀ l, SrtO.Srtd (fun a b => lt3 (key a) (key b)) (srtG key l)
  | [] => List.Pairwise.nil
  | x :: xs => insG_srtd key x _ (srtG_srtd key xs)
/-- no two items alike: one order alone -/
theorem srt_one {key : α → I3} {l m : List α} (hl : SrtO.Srtd (fun a b => lt3 (key a) (key b)) l) (hm : SrtO.Srtd (fun a b => lt3 (key a) (key b)) m) (p : l.Perm m) (hd : ∀ x ∈ m, ∀ y ∈ m, key x = key y → x = y) : l = m := by
  refine SrtO.stb_uniq (lt3_swo key) hl hm ⟨p, fun x => ?_⟩
  have p2 := p.filter (SrtO.eqv (fun a b => lt3 (key a) (key b)) x)
  have al : ∀ y ∈ m.filter (SrtO.eqv (fun a b => lt3 (key a) (key b)) x), ∀ z ∈ m.filter (SrtO.eqv (fun a b => lt3 (key a) (key b)) x), y = z := fun y hy z hz => by
    obtain ⟨hy1, hy2⟩ := List.mem_filter.mp hy
    obtain ⟨hz1, hz2⟩ := List.mem_filter.mp hz
    obtain ⟨a1, a2⟩ := SrtO.eqv_iff.mp hy2
    obtain ⟨b1, b2⟩ := SrtO.eqv_iff.mp hz2
    refine hd y hy1 z hz1 ?_
    have a1 := lt3_no.mp a1
    have a2 := lt3_no.mp a2
    have b1 := lt3_no.mp b1
    have b2 := lt3_no.mp b2
    refine Prod.ext ?_ (Prod.ext ?_ ?_) <;> omega
  cases q : m.filter (SrtO.eqv (fun a b => lt3 (key a) (key b)) x) with
  | nil => rw [q] at p2; exact p2.eq_nil
  | cons y r =>
    rw [q] at p2 al
    have e1 : (y :: r) = List.replicate (r.length + 1) y := List.eq_replicate_of_mem fun z hz => al z hz y List.mem_cons_self
    rw [e1] at p2 ⊢
    exact List.perm_replicate.mp p2
end
theorem pw_mem {α : Type} {R : α → α → Prop} (sy : ∀ a b, R a b → R b a) : ∀ {l : List α} {a b : α}, l.Pairwise R → a ∈ l → b ∈ l → a = b ∨ R a b
  | [], _, _, _, h, _ => by simp at h
  | x :: l, a, b, p, ha, hb => by
    obtain ⟨p1, p2⟩ := List.pairwise_cons.mp p
    rcases List.mem_cons.mp ha with e | ha
    · rcases List.mem_cons.mp hb with f | hb
      · exact .inl (e.trans f.symm)
      · rw [e]; exact .inr (p1 b hb)
    · rcases List.mem_cons.mp hb with f | hb
      · rw [f]; exact .inr (sy _ _ (p1 a ha))
      · exact pw_mem sy p2 ha hb
theorem keys3_len : ∀ {ds : List D} {ks : List (I3 × D)}, keys3 ds = some ks → ks.map (·.2) = ds ∧ ∀ t ∈ ks, key3 t.2 = some t.1
  | [], ks, h => by simp only [keys3] at h; cases h; exact ⟨rfl, fun t ht => by simp at ht⟩
  | d :: ds, ks, h => by
    simp only [keys3] at h
    split at h
    · rename_i k ks' e1 e2
      cases h
      obtain ⟨h1, h2⟩ := keys3_len e2
      refine ⟨by rw [List.map_cons, h1], fun t ht => ?_⟩
      rcases List.mem_cons.mp ht with q | q
      · rw [q]; exact e1
      · exact h2 t q
    · cases h
theorem difK_ok : ∀ {ks : List (I3 × D)}, difK ks = true → ks.Pairwise fun a b => a.1 ≠ b.1
  | [], _ => List.Pairwise.nil
  | x :: xs, h => by
    simp only [difK, Bool.and_eq_true, List.all_eq_true, decide_eq_true_eq] at h
    exact List.pairwise_cons.mpr ⟨h.1, difK_ok h.2⟩
section
variable {X : Cx} {K : PySem.W.Frag} {off : Addr → Prop} {w : Wd}
theorem key3_rep {d : D} {k : I3} {v : V} (h : key3 d = some k) (r : Rep K off w d v) : ∃ t rest, v = .ref t ∧ SqT K w.H t (.int k.1 :: .int k.2.1 :: .int k.2.2 :: rest) := by
  unfold key3 at h
  split at h
  · cases h
    simp only [Rep] at r
    obtain ⟨a, vs, rfl, h1, h2⟩ := r
    simp only [Reps, Rep] at h2
    obtain ⟨v1, r1, rfl, rfl, v2, r2, rfl, rfl, v3, r3, rfl, rfl, _⟩ := h2
    exact ⟨a, r3, rfl, h1.sq⟩
  · cases h
theorem reps_zip : ∀ {ks : List (I3 × D)} {vs : List V}, Reps K off w (ks.map (·.2)) vs → ∃ T : List ((I3 × D) × V), T.map (·.1) = ks ∧ T.map (·.2) = vs ∧ ∀ t ∈ T, Rep K off w t.1.2 t.2
  | [], vs, h => by
    simp only [List.map_nil, Reps] at h
    subst h
    exact ⟨[], rfl, rfl, fun t ht => by simp at ht⟩
  | k :: ks, vs, h => by
    simp only [List.map_cons, Reps] at h
    obtain ⟨v, r, rfl, h1, h2⟩ := h
    obtain ⟨T, e1, e2, h3⟩ := reps_zip h2
    refine ⟨(k, v) :: T, by simp [e1], by simp [e2], fun t ht => ?_⟩
    rcases List.mem_cons.mp ht with q | q
    · rw [q]; exact h1
    · exact h3 t q
theorem reps_of : ∀ {T : List ((I3 × D) × V)}, (∀ t ∈ T, Rep K off w t.1.2 t.2) → Reps K off w (T.map fun t => t.1.2) (T.map (·.2))
  | [], _ => .nil
  | t :: T, h => .cons (h t List.mem_cons_self) (reps_of fun u hu => h u (List.mem_cons_of_mem _ hu))
open Classical in
theorem bi_sorted : CallR X (.builtin "sorted") (rBi X.K .sorted) := by
  intro pins s σ H vs us Q I r h
  obtain ⟨off, w, ds, rr, rfl, ok, hr, hb, g⟩ := h
  unfold biP at hb
  split at hb
  all_goals first | contradiction | skip
  rename_i xs
  obtain ⟨v, rfl, h1⟩ := repR1 hr
  obtain ⟨a, us0, e, k1, k2⟩ := h1
  simp only [Option.map_eq_some_iff] at hb
  obtain ⟨zs, e1, rfl⟩ := hb
  unfold srtP at e1
  split at e1
  case h_2 => cases e1
  rename_i ks hks
  split at e1
  case isFalse => cases e1
  rename_i hdif
  simp only [Bool.and_eq_true] at hdif
  cases e1
  obtain ⟨m1, m2⟩ := keys3_len hks
  rw [← m1] at k2
  obtain ⟨T, t1, t2, t3⟩ := reps_zip k2
  have kk : ∀ t ∈ T, key3 t.1.2 = some t.1.1 := fun t ht => m2 t.1 (by rw [← t1]; exact List.mem_map.mpr ⟨t, ht, rfl⟩)
  have at_ : ∀ t ∈ T, ∃ q rest, t.2 = .ref q ∧ SqT X.K w.H q (.int t.1.1.1 :: .int t.1.1.2.1 :: .int t.1.1.2.2 :: rest) := fun t ht => key3_rep (kk t ht) (t3 t ht)
  let P : V → I3 → Prop := fun x i => ∃ q rest, x = .ref q ∧ SqT X.K w.H q (.int i.1 :: .int i.2.1 :: .int i.2.2 :: rest)
  have uniq : ∀ x i j, P x i → P x j → i = j := fun x i j ⟨q, r1, e1, h1⟩ ⟨q', r2, e2, h2⟩ => by
    subst e1
    cases e2
    have := I.tuple_inj h1 h2
    injection this with a1 a2
    injection a2 with a2 a3
    injection a3 with a3 a4
    injection a1 with a1
    injection a2 with a2
    injection a3 with a3
    exact Prod.ext a1 (Prod.ext a2 a3)
  let k : V → I3 := fun x => if hx : ∃ i, P x i then hx.choose else (0, 0, 0)
  have hk : ∀ t ∈ T, k t.2 = t.1.1 := fun t ht => by
    have hx : ∃ i, P t.2 i := ⟨_, at_ t ht⟩
    show (if hx : ∃ i, P t.2 i then hx.choose else (0, 0, 0)) = _
    rw [dif_pos hx]
    exact uniq t.2 _ _ hx.choose_spec (at_ t ht)
  have mem : ∀ x ∈ us0, ∃ t ∈ T, t.2 = x := fun x hx => by
    rw [← t2] at hx
    obtain ⟨t, ht, e⟩ := List.mem_map.mp hx
    exact ⟨t, ht, e⟩
  have dT : T.Pairwise fun a b => a.1.1 ≠ b.1.1 := by
    have := difK_ok hdif.1
    rw [← t1, List.pairwise_map] at this
    exact this
  have dis : ∀ t ∈ T, ∀ t' ∈ T, t.1.1 = t'.1.1 → t = t' := by
    intro t ht t' ht' e
    rcases pw_mem (fun _ _ h => Ne.symm h) dT ht ht' with q | q
    · exact q
    · exact absurd e q
  have disX : ∀ x ∈ us0, ∀ y ∈ us0, k x = k y → x = y := fun x hx y hy e => by
    obtain ⟨t, ht, rfl⟩ := mem x hx
    obtain ⟨t', ht', rfl⟩ := mem y hy
    rw [hk t ht, hk t' ht'] at e
    rw [dis t ht t' ht' e]
  subst e
  refine cr_sortR pins s σ _ _ us Q I r ⟨a, us0, k, rfl, k1, fun x hx => ?_, disX, fun ys p hs hp hn => ?_⟩
  · obtain ⟨t, ht, rfl⟩ := mem x hx
    obtain ⟨q, rest, e, h⟩ := at_ t ht
    exact ⟨q, rest, e, by rw [hk t ht]; exact h⟩
  · have pT := srtG_perm (fun t : (I3 × D) × V => t.1.1) T
    have m3 : ∀ t ∈ srtG (fun t : (I3 × D) × V => t.1.1) T, t ∈ T := fun t ht => pT.mem_iff.mp ht
    have e5 : ys = (srtG (fun t : (I3 × D) × V => t.1.1) T).map (·.2) := by
      refine srt_one hs ?_ (hp.trans (by rw [← t2]; exact (pT.map _).symm)) fun x hx y hy e => ?_
      · refine List.pairwise_map.mpr ?_
        have := srtG_srtd (fun t : (I3 × D) × V => t.1.1) T
        refine List.Pairwise.imp_of_mem (fun {a b} ha hb h => ?_) this
        show lt3 (k b.2) (k a.2) = false
        rw [hk a (m3 a ha), hk b (m3 b hb)]
        exact h
      · have hx' : x ∈ us0 := by rw [← t2]; exact (pT.map (·.2)).mem_iff.mp hx
        have hy' : y ∈ us0 := by rw [← t2]; exact (pT.map (·.2)).mem_iff.mp hy
        exact disX x hx' y hy' e
    have e6 : (srtK ks).map (·.2) = (srtG (fun t : (I3 × D) × V => t.1.1) T).map fun t => t.1.2 := by
      rw [srtK_eq, ← t1, ← srtG_map (fun t : (I3 × D) × V => t.1) (fun q => q.1) T, List.map_map]
      rfl
    rw [e6] at g
    rw [e5]
    exact g.newL ok (reps_of fun t ht => t3 t (m3 t ht)) p hn
end
end AB

set_option Elab.async false
set_option linter.all false
set_option autoImplicit false
set_option maxRecDepth 100000
/-! AnyM4: count of truths. -/
namespace AB
open PySem PySem.Spec L2 PyProof.Rows
def eqT (k : Bool) : Value → Bool
  | .bool b => b == k
  | _ => false
theorem eqT_at {A : Around} {s : Shared} {k : Bool} : ∀ {bs : List Bool} {us : List Value}, Vals (bs.map V.bl) us → ∀ y ∈ us, SeqAt.EqAt A s y (.bool k) (eqT k y)
  | [], us, r => fun y hy => by cases r; cases hy
  | b :: bs, us, r => fun y hy => by
    cases r with
    | cons h t =>
      rcases List.mem_cons.mp hy with e | e
      · rw [e, show _ = Value.bool b from h]
        exact SeqAt.EqAt.bool_bool b k
      · exact eqT_at t y e
theorem eqT_count {k : Bool} : ∀ {bs : List Bool} {us : List Value}, Vals (bs.map V.bl) us → us.countP (eqT k) = (bs.filter (· == k)).length
  | [], us, r => by cases r; rfl
  | b :: bs, us, r => by
    cases r with
    | cons h t =>
      rw [show _ = Value.bool b from h, List.countP_cons, eqT_count t, List.filter_cons]
      show _ + (if (b == k) = true then 1 else 0) = _
      split <;> simp
theorem mt_cntB {X : Cx} : MtR X "list.count" (fun x xs H Q => ∃ (p : Addr) (bs : List Bool) (k : Bool), x = .ref p ∧ xs = [.bl k] ∧ SqL X.K H p (bs.map V.bl) ∧ Q (.int ((bs.filter (· == k)).length : Nat)) H) := by
  intro pins s σ H x xs v us Q I rx rxs h
  obtain ⟨p, bs, k, rfl, rfl, hs, q⟩ := h
  cases rx
  obtain ⟨u, rfl, ru⟩ := rxs.one
  cases (show u = Value.bool k from ru)
  obtain ⟨its, rv, ⟨⟨cl, dx, dat, sl⟩, n, ho, hc, hdn, hd⟩, hlen⟩ := I.list hs
  simp only at hc hd
  subst hc hd
  refine call_meets PySem.F.slot_list_count ⟨_, ho, rfl⟩ PySem.F.entry_list_count (PySem.F.args_list_count_2 _ _) (SeqAt.list_countAt p its.toArray n dx sl (.bool k) (eqT k)) ⟨ho, fun y hy => eqT_at rv y (by simpa using hy), ?_⟩
  have ec : its.toArray.toList.countP (eqT k) = (bs.filter (· == k)).length := eqT_count rv
  refine ⟨.int ((bs.filter (· == k)).length : Nat), H, I.tok _, ⟨s.toks, ?_⟩, q⟩
  rw [ec]
theorem mt_in {d r : D} {ys : List D} (h : mtP .count d ys = some r) : ∃ xs bs bb, d = .lst xs ∧ ys = [.bl bb] ∧ AB.boolL xs = some bs ∧ r = .int ((bs.filter (· == bb)).length : Nat) := by
  cases d with
  | lst xs =>
    cases ys with
    | nil => exact nomatch h
    | cons y ys =>
      cases ys with
      | cons _ _ => exact nomatch h
      | nil =>
        cases y with
        | bl bb =>
          simp only [mtP, Option.map_eq_some_iff] at h
          obtain ⟨bs, e, rfl⟩ := h
          exact ⟨xs, bs, bb, rfl, rfl, e, rfl⟩
        | _ => exact nomatch h
  | _ => exact nomatch h
section
variable {X : Cx} {S : Sg} {Wh : WX} {a b : Expr} {pa pb : E} {p2 p3 : Pos}
theorem d_count {y : Str} {p1 : Pos} (ha : PE X (.Name y p1) (tD S X.K Wh pa)) (hb : PE X b (tD S X.K Wh pb)) (st : strd b = false) (hl : (p2.endLine == p3.line) = true) :
    PE X (.Call (.Attribute (.Name y p1) "count" p2) [b] [] p3) (tD S X.K Wh (.mt .count pa (.cons pb .nil))) := by
  have hst := star_cons (env := X.env) (es := []) st
  refine PE.imp ?_ (pe_bm (X := X) (cpos := p3) (apos := p2) PySem.F.plainAttrs_list PySem.F.slot_list_count PySem.F.type_list_count mt_cntB ha (pa_cons hb pa_nil hst) rfl (by rw [hst]; rfl) hl hst (by rfl))
  rintro σ H Q ⟨off, w, env, rfl, ok, re, sat⟩
  simp only [ev] at sat
  refine ⟨off, w, env, rfl, ok, re, sat.bnd.imp fun x w1 l1 o1 q1 ov ro _ => ?_⟩
  have re1 := re.mono ok l1
  have q1 := q1.bnd
  unfold lsM at q1
  have rr := ro.drf o1
  cases z : drf w1.st x with
  | lst xs =>
    rw [z] at q1 rr
    have q1 := q1 w1 (.refl w1) o1 rfl
    obtain ⟨a, vs, rfl, h1, h2⟩ := rr
    refine ⟨.inl ⟨rfl, vs, h1⟩, ?_⟩
    simp only [evs] at q1
    refine ⟨off, w1, env, rfl, o1, re1, ?_⟩
    have q2 : Sat X.K off w1 _ _ _ := q1.bnd
    have q3 : Sat X.K off w1 (ev S.C S.sub pb env w1.st) _ _ := q2.bnd
    refine q3.imp fun d w2 l2 o2 q4 v rv _ => ?_
    have q5 := ((q4.bnd.ret o2).ret o2)
    unfold mtM at q5
    have ro2 := (Rep.mono o1 l2 _ _ ro).drf o2
    obtain ⟨r, e1, k1⟩ := q5.lft
    obtain ⟨xs2, bs, bb, e2, e3, e4, rfl⟩ := mt_in e1
    cases e3
    rw [e2] at ro2
    obtain ⟨a', vs', ea, h3, h4⟩ := ro2
    cases ea
    have e5 := h4.boolL e4
    subst e5
    simp only [Rep] at rv
    exact ⟨a, bs, bb, rfl, by rw [rv], h3, k1 w2 (.refl w2) o2 rfl _ (by simp only [Rep]) fun z => by cases z⟩
  | _ => rw [z] at q1; exact q1.elim
end
end AB

set_option Elab.async false
set_option linter.all false
set_option autoImplicit false
set_option maxRecDepth 100000
/-! AnyQ: does an expression of the program agree with one of the small language; if so, its rule. -/
namespace AB
open PySem PySem.Spec L2 PyProof.Rows

mutual
def D.same : D → D → Bool
  | .non, .non => true
  | .bl a, .bl b => a == b
  | .int a, .int b => decide (a = b)
  | .str a, .str b => decide (a = b)
  | .tup a, .tup b => D.sames a b
  | .lst a, .lst b => D.sames a b
  | _, _ => false
def D.sames : List D → List D → Bool
  | [], [] => true
  | x :: xs, y :: ys => D.same x y && D.sames xs ys
  | _, _ => false
end
mutual
theorem D.same_eq : ∀ {a b : D}, D.same a b = true → a = b
  | .non, b, h => by cases b <;> first | rfl | exact nomatch h
  | .bl a, b, h => by cases b <;> first | (simp only [D.same, beq_iff_eq] at h; rw [h]) | exact nomatch h
  | .int a, b, h => by cases b <;> first | (simp only [D.same, decide_eq_true_eq] at h; rw [h]) | exact nomatch h
  | .str a, b, h => by cases b <;> first | (simp only [D.same, decide_eq_true_eq] at h; rw [h]) | exact nomatch h
  | .tup a, b, h => by cases b <;> first | (simp only [D.same] at h; rw [D.sames_eq h]) | exact nomatch h
  | .lst a, b, h => by cases b <;> first | (simp only [D.same] at h; rw [D.sames_eq h]) | exact nomatch h
  | .ref a, b, h => by cases b <;> exact nomatch h
  | .exc a f, b, h => by cases b <;> exact nomatch h
theorem D.sames_eq : ∀ {a b : List D}, D.sames a b = true → a = b
  | [], b, h => by cases b <;> first | rfl | exact nomatch h
  | x :: xs, b, h => by
    cases b with
    | nil => exact nomatch h
    | cons y ys =>
      simp only [D.sames, Bool.and_eq_true] at h
      rw [D.same_eq h.1, D.sames_eq h.2]
end
/-- the checker's side: names, slots, scope, names that may be written as cells -/
structure Ck where
  gt : List (Str × G)
  N : List Str
  sc : Scope
  fn : Str → Bool
def Ck.blk (C : Ck) (scope : Scope) : Ck := { C with sc := relS scope C.sc, fn := fun x => scope.names.lookup x == some .cell }
structure CxOk (S : Sg) (k : Nat) (C : Ck) (Wh : WX) (X : Cx) : Prop where
  hN : X.N = C.N
  nd : X.N.Nodup
  sc : X.env.scope = C.sc
  fnc : ∀ x, C.fn x = true → X.fn x = true
  calm : X.calm = true
  room : Room k X.A
  fns : ∀ x f np, C.gt.lookup x = some (.fn f np) → ∃ ad fd ps, FnOk X.prog X.w X.K X.mg X.base (L2.CX X.prog X.w) k ad fd ps (spC S X.K f) ∧ X.mg x = some (.ref ad) ∧ PySem.W.keepIn X.K (.ref ad) = true ∧ Binds X.K fd ps []
  blt : ∀ x, C.gt.lookup x = some .blt → X.mg x = none
  cst : ∀ x d, C.gt.lookup x = some (.cst d) → ∃ v u, X.mg x = some u ∧ RelV v u ∧ ∀ off w, OkW X.K off w → Rep X.K off w d v
  pas : ∀ σ, PassesAt (L2.CX X.prog X.w) X σ (WE Wh σ)
def Ck.gl (C : Ck) (x : Str) : Bool := decide (C.sc.names.lookup x = some .globalImplicit) && !(x == ("__debug__" : Str))
def Ck.isB (C : Ck) (x : Str) : Bool := C.gl x && (match C.gt.lookup x with
  | some .blt => true
  | _ => false)
def Ck.fun_ (C : Ck) (x : Str) (f : Nat) : Bool := C.gl x && (match C.gt.lookup x with
  | some (.fn g _) => decide (g = f)
  | _ => false)
def Ck.var (C : Ck) (x : Str) (i : Nat) : Bool := decide (C.N[i]? = some x) && (decide (C.sc.names.lookup x = some .local) || decide (C.sc.names.lookup x = some .cell) || decide (C.sc.names.lookup x = some .free)) && !(x == ("__debug__" : Str)) && !(x == ("__classdict__" : Str))
def Ck.sto (C : Ck) (x : Str) (i : Nat) : Bool := decide (C.N[i]? = some x) && (decide (C.sc.names.lookup x = some .local) || (decide (C.sc.names.lookup x = some .cell) && C.fn x))
/-- a test of its own kind -/
def plainT : Expr → Bool
  | .UnaryOp .Not _ _ => false
  | .BoolOp _ _ _ => false
  | .IfExp _ _ _ _ => false
  | .Compare _ _ _ _ => false
  | _ => true
theorem plainT_ok {e : Expr} {env : PySem.Env} (h : plainT e = true) (whole : Sem Value) : isTrue e env whole = (do let v ← whole; standAt e.pos; holding [v] (truthy v)) := by
  cases e with
  | UnaryOp o x p => cases o <;> first | rfl | exact nomatch h
  | _ => first | rfl | exact nomatch h
def plainIx : Expr → Bool
  | .Slice _ _ _ _ => false
  | _ => true
theorem plainIx_ok {e : Expr} (h : plainIx e = true) : PlainIx e := by
  intro o i
  cases e <;> first | rfl | exact nomatch h
def notSet : Expr → Bool
  | .Set _ _ _ => false
  | _ => true
theorem notSet_ok {e : Expr} (h : notSet e = true) (env : PySem.Env) (x : Value) : foldedSetIterable e env x = pure x := by
  cases e <;> first | rfl | exact nomatch h
def nomk : Expr → Bool
  | .Set _ _ _ => false
  | _ => true
theorem nomk_ok {e : Expr} (h : nomk e = true) (o : CmpOp) : behindInMarks o e = false := by cases e <;> first | rfl | exact nomatch h
theorem nomk2_ok {b c : Expr} (h : nomk c = true) (o p : CmpOp) : lastMarks [o, p] [b, c] = false := by
  show behindInMarks p c = false
  exact nomk_ok h p
def blkB (N : List Str) (sc scope : Scope) (own : List (Str × Nat)) : Bool :=
  decide (scope.kind = .function) && scope.names.all (fun y => decide (scope.names.lookup y.1 = some y.2)) && own.all (fun p => decide (N[p.2]? = some p.1)) &&
  scope.names.all (fun y => !decide (y.2 = .free) || decide (sc.names.lookup y.1 = some .cell) || decide (sc.names.lookup y.1 = some .free)) &&
  scope.names.all (fun y => !(decide (y.2 = .local) || decide (y.2 = .cell)) || own.any (fun p => decide (p.1 = y.1)) || !N.any (fun n => decide (n = y.1)))
theorem blkB_ok {N : List Str} {sc scope : Scope} {own : List (Str × Nat)} (h : blkB N sc scope own = true) : BlkOk N sc scope own := by
  simp only [blkB, Bool.and_eq_true, decide_eq_true_eq, List.all_eq_true, Bool.or_eq_true, Bool.not_eq_true', decide_eq_false_iff_not, List.any_eq_true, Bool.or_eq_false_iff, List.any_eq_false] at h
  obtain ⟨⟨⟨⟨h1, h2⟩, h3⟩, h4⟩, h5⟩ := h
  refine ⟨h1, h2, h3, fun y hy e => ?_, fun y hy e => ?_⟩
  · rcases h4 y hy with (q | q) | q
    · exact absurd e q
    · exact .inl q
    · exact .inr q
  · rcases h5 y hy with (q | ⟨p, hp, q⟩) | q
    · rcases e with e | e
      · exact absurd e q.1
      · exact absurd e q.2
    · exact .inl (List.mem_map.mpr ⟨p, hp, q⟩)
    · exact .inr fun z => q y.1 z rfl
def ownL (N : List Str) (own : List Nat) : List (Str × Nat) := own.map fun i => (N.getD i "", i)
theorem ownL_ix {N : List Str} {own : List Nat} : (ownL N own).map (·.2) = own := by
  unfold ownL
  rw [List.map_map]
  exact List.map_id' own
def chkC (C : Ck) (d : D) : Expr → Bool
  | .Constant .none _ _ => D.same d .non
  | .Constant (.bool b) _ _ => D.same d (.bl b)
  | .Constant (.int i) _ _ => D.same d (.int i)
  | .Constant (.str x) _ _ => D.same d (.str x)
  | .Name x _ => C.gl x && (match C.gt.lookup x with
    | some (.cst d') => D.same d d'
    | _ => false)
  | _ => false
mutual
def chkT (C : Ck) : T → Expr → Bool
  | .n i, .Name x _ => C.sto x i
  | .t ts, .Tuple es _ _ => chkTs C ts es
  | _, _ => false
def chkTs (C : Ck) : Ts → List Expr → Bool
  | .nil, [] => true
  | .cons t ts, e :: es => chkT C t e && chkTs C ts es && !strd e
  | _, _ => false
end
def isTrueE : E → Bool
  | .c (.bl true) => true
  | _ => false
def opB : Op → Operator → Bool := fun o p => decide (opr o = p)
def noStar (es : List Expr) : Bool := es.all fun e => !strd e
mutual
def chkE (C : Ck) : E → Expr → Bool
  | .c d, e => chkC C d e && plainT e
  | .v i, e => (match e with
    | .Name x _ => C.var x i
    | _ => false)
  | .bin o a b, e => (match e with
    | .BinOp x p y _ => decide (opr o = p) && chkE C a x && chkE C b y
    | _ => false)
  | .neg a, e => (match e with
    | .UnaryOp .USub x _ => chkE C a x
    | _ => false)
  | .nt a, e => (match e with
    | .UnaryOp .Not x _ => chkE C a x
    | _ => false)
  | .and a b, e => (match e with
    | .BoolOp .And (x :: y :: r) pos => chkE C a x && (match r with
      | [] => chkE C b y
      | z :: r => chkE C b (.BoolOp .And (y :: z :: r) pos))
    | _ => false)
  | .or a b, e => (match e with
    | .BoolOp .Or (x :: y :: r) pos => chkE C a x && (match r with
      | [] => chkE C b y
      | z :: r => chkE C b (.BoolOp .Or (y :: z :: r) pos))
    | _ => false)
  | .ite t a b, e => (match e with
    | .IfExp x y z _ => chkE C t x && chkE C a y && chkE C b z
    | _ => false)
  | .cmp o a b, e => (match e with
    | .Compare x [p] [y] _ => decide (cor o = p) && chkE C a x && chkE C b y && nomk y
    | _ => false)
  | .chn o o' a b c, e => (match e with
    | .Compare x [p, p'] [y, z] _ => decide (cor o = p) && decide (cor o' = p') && chkE C a x && chkE C b y && chkE C c z && nomk z
    | _ => false)
  | .tup es, e => (match e with
    | .Tuple xs _ _ => chkEs C es xs && noStar xs && decide (xs.length ≤ 1000)
    | _ => false)
  | .lst es, e => (match e with
    | .List xs _ => chkEs C es xs && noStar xs && decide (xs.length ≤ 1000)
    | _ => false)
  | .new p, x => fr p && plainT x && chkE C p x
  | .ix a i, e => (match e with
    | .Subscript x y _ => chkE C a x && chkE C i y && plainIx y
    | _ => false)
  | .sll a l, e => (match e with
    | .Subscript x (.Slice (some y) none none _) _ => chkE C a x && chkE C l y
    | _ => false)
  | .slh a l, e => (match e with
    | .Subscript x (.Slice none (some y) none _) _ => chkE C a x && chkE C l y
    | _ => false)
  | .slb a l h, e => (match e with
    | .Subscript x (.Slice (some y) (some z) none _) _ => chkE C a x && chkE C l y && chkE C h z
    | _ => false)
  | .call f es, e => (match e with
    | .Call (.Name x _) xs [] _ => C.fun_ x f && chkEs C es xs && noStar xs
    | _ => false)
  | .bi b es, e => (match e with
    | .Call (.Name x _) (y :: xs) [] _ => decide (x = biS b) && C.isB x && chkEs C es (y :: xs) && noStar (y :: xs)
    | _ => false)
  | .mt m o es, e => (match e with
    | .Call (.Attribute (.Name y p1) a p2) [x] [] p3 => decide (m = .count) && decide (a = "count") && chkE C o (.Name y p1) && chkEs C es [x] && !strd x && (p2.endLine == p3.line)
    | _ => false)
  | .lrng a b, e => (match e with
    | .Call (.Name f _) [.Call (.Name x _) [y, z] [] _] [] _ => decide (f = "list") && C.isB f && decide (x = "range") && C.isB x && chkE C a y && chkE C b z && !strd y && !strd z
    | _ => false)
  | .isi a t, e => (match e with
    | .Call (.Name x _) [y, .Name z _] [] _ => decide (x = "isinstance") && C.isB x && decide (z = Str.ofString (tyN t)) && C.isB z && chkE C a y && !strd y
    | _ => false)
  | .comp elt tg it cond own, e => (match e with
    | .ListComp x [⟨y, z, ifs, n⟩] scope _ => decide (n = 0) && blkB C.N C.sc scope (ownL C.N own) && tg.sl.all (fun i => own.contains i) && chkI C it y z && notSet z && chkT (C.blk scope) tg y &&
      (match ifs with
      | [] => isTrueE cond
      | [c] => chkE (C.blk scope) cond c
      | _ => false) && chkE (C.blk scope) elt x
    | _ => false)
  | .comp2 elt tg it cond tg1 it1 cond1 own own1, e => (match e with
    | .ListComp x [⟨y, z, ifs, n⟩, ⟨y1, z1, ifs1, n1⟩] scope _ => decide (n = 0) && decide (n1 = 0) && blkB C.N C.sc scope (ownL C.N own) && tg.sl.all (fun i => own.contains i) && tg1.sl.all (fun i => own1.contains i) && own1.all (fun i => own.contains i) &&
      chkI C it y z && notSet z && notSet z1 && chkT (C.blk scope) tg y && chkI (C.blk scope) it1 y1 z1 && chkT (C.blk scope) tg1 y1 &&
      (match ifs with
      | [] => isTrueE cond
      | [c] => chkE (C.blk scope) cond c
      | _ => false) &&
      (match ifs1 with
      | [] => isTrueE cond1
      | [c] => chkE (C.blk scope) cond1 c
      | _ => false) && chkE (C.blk scope) elt x
    | _ => false)
  | .keys elt tg it cond own, e => (match e with
    | .Call (.Name f _) [.DictComp x (.Constant (.bool true) _ _) [⟨y, z, ifs, n⟩] scope _] [] _ => decide (f = "list") && C.isB f && decide (n = 0) && blkB C.N C.sc scope (ownL C.N own) && tg.sl.all (fun i => own.contains i) && chkI C it y z && notSet z && chkT (C.blk scope) tg y &&
      (match ifs with
      | [] => isTrueE cond
      | [c] => chkE (C.blk scope) cond c
      | _ => false) && chkE (C.blk scope) elt x
    | _ => false)
  | _, _ => false
def chkEs (C : Ck) : Es → List Expr → Bool
  | .nil, [] => true
  | .cons e es, x :: xs => chkE C e x && chkEs C es xs
  | _, _ => false
def chkI (C : Ck) : I → Expr → Expr → Bool
  | .ov e, _, x => chkE C e x
  | .rng1 a, _, e => (match e with
    | .Call (.Name f _) [x] [] _ => decide (f = "range") && C.isB f && chkE C a x && !strd x
    | _ => false)
  | .rng2 a b, _, e => (match e with
    | .Call (.Name f _) [x, y] [] _ => decide (f = "range") && C.isB f && chkE C a x && chkE C b y && !strd x && !strd y
    | _ => false)
  | .enm a, t, e => (match t, e with
    | .Tuple _ _ _, .Call (.Name f _) [x] [] _ => decide (f = "enumerate") && C.isB f && chkE C a x && !strd x
    | _, _ => false)
  | .zip a b, t, e => (match t, e with
    | .Tuple _ _ _, .Call (.Name f _) [x, y] [] _ => decide (f = "zip") && C.isB f && chkE C a x && chkE C b y && !strd x && !strd y
    | _, _ => false)
end
end AB

set_option Elab.async false
set_option linter.all false
set_option autoImplicit false
set_option maxRecDepth 100000
set_option maxHeartbeats 4000000
/-! AnyR: the checker is right, for expressions. -/
namespace AB
open PySem PySem.Spec L2 PyProof.Rows

/-- a value and a test -/
structure Snd (X : Cx) (S : Sg) (Wh : WX) (e : Expr) (p : E) : Prop where
  v : PE X e (tD S X.K Wh p)
  t : PT X e (tDT S X.K Wh p)
theorem Snd.of {X : Cx} {S : Sg} {Wh : WX} {e : Expr} {p : E} (h : PE X e (tD S X.K Wh p)) (pl : plainT e = true) : Snd X S Wh e p := ⟨h, pt_of h fun whole => plainT_ok pl whole⟩
section
variable {S : Sg} {k : Nat} {C : Ck} {Wh : WX} {X : Cx}
theorem CxOk.isGl (O : CxOk S k C Wh X) {x : Str} (h : C.gl x = true) : Gl X x ∧ (x == ("__debug__" : Str)) = false := by
  simp only [Ck.gl, Bool.and_eq_true, decide_eq_true_eq, Bool.not_eq_true'] at h
  exact ⟨by show X.env.scope.names.lookup x = _; rw [O.sc]; exact h.1, h.2⟩
theorem CxOk.isB (O : CxOk S k C Wh X) {x : Str} (h : C.isB x = true) : Gl X x ∧ (x == ("__debug__" : Str)) = false ∧ X.mg x = none := by
  simp only [Ck.isB, Bool.and_eq_true] at h
  obtain ⟨h1, h2⟩ := h
  obtain ⟨g1, g2⟩ := O.isGl h1
  refine ⟨g1, g2, O.blt x ?_⟩
  split at h2
  · rename_i q; exact q
  · exact nomatch h2
theorem CxOk.var (O : CxOk S k C Wh X) {x : Str} {i : Nat} {pos : Pos} (h : C.var x i = true) : PE X (.Name x pos) (tD S X.K Wh (.v i)) := by
  simp only [Ck.var, Bool.and_eq_true, Bool.or_eq_true, decide_eq_true_eq, Bool.not_eq_true'] at h
  obtain ⟨⟨⟨h1, h2⟩, h3⟩, h4⟩ := h
  refine d_v (by rw [O.hN]; exact h1) ?_ h3 h4
  unfold Vis
  rw [O.sc]
  rcases h2 with (q | q) | q
  · exact .inl q
  · exact .inr (.inl q)
  · exact .inr (.inr q)
theorem CxOk.cst_ok (O : CxOk S k C Wh X) {d : D} {e : Expr} (h : chkC C d e = true) : PE X e (tD S X.K Wh (.c d)) := by
  unfold chkC at h
  split at h
  · cases D.same_eq h; exact d_c pe_non fun _ _ _ => by simp only [Rep]
  · cases D.same_eq h; exact d_c pe_bl fun _ _ _ => by simp only [Rep]
  · cases D.same_eq h; exact d_c pe_int fun _ _ _ => by simp only [Rep]
  · cases D.same_eq h; exact d_c pe_str fun _ _ _ => by simp only [Rep]
  · rename_i x _
    simp only [Bool.and_eq_true] at h
    obtain ⟨h1, h2⟩ := h
    obtain ⟨g1, g2⟩ := O.isGl h1
    split at h2
    · rename_i d' q
      cases D.same_eq h2
      obtain ⟨v, u, e1, e2, e3⟩ := O.cst x _ q
      exact d_c (pe_glob g1 e1 e2 g2) e3
    · exact nomatch h2
  · exact nomatch h
theorem noStar_ok {es : List Expr} (h : noStar es = true) : ∀ e ∈ es, strd e = false := by
  simp only [noStar, List.all_eq_true, Bool.not_eq_true'] at h
  exact h
theorem CxOk.blk {scope : Scope} {s : Shared} {H : Hp} {A : Addr} {cl : List (Str × Addr)} {fp : List Addr} (O : CxOk S k C Wh X) : CxOk S k (C.blk scope) WF (X.blk s H scope (compEnvC scope cl A X.env) fp) :=
  ⟨O.hN, O.nd, by show relS scope X.env.scope = _; rw [O.sc]; rfl, fun x h => h, O.calm, O.room, O.fns, O.blt, O.cst, fun σ pins H s e s' I c => by
    obtain ⟨_, _, _, _, _, _, _, _, _, _, _, _, z⟩ := c
    exact z.elim⟩
theorem PW.of_bool {op : BoolOp} {es : List Expr} {pos : Pos} {t : TT} (h : PT X (.BoolOp op es pos) t) : PW X (.BoolOp op es pos) t := ⟨fun whole pins s σ H Q I q => h.run pins s σ H Q I q⟩
theorem evs_len {C : Nat → List D → M D} {sub : Nat → Nat → Bool} {env : Env} : ∀ {es : Es} {st st' : Store} {ds : List D} {n : Nat}, evs C sub es env st = .ok ds st' → (match es with
    | .nil => ds = []
    | .cons _ r => ∃ d ds' st1, ds = d :: ds' ∧ evs C sub r env st1 = .ok ds' st')
  | .nil, _, _, _, _, h => by simp only [evs] at h; exact (ret_ok h).1
  | .cons e r, _, _, _, _, h => by
    simp only [evs] at h
    obtain ⟨d, st1, h1, h⟩ := bnd_ok h
    obtain ⟨ds', st2, h2, h⟩ := bnd_ok h
    obtain ⟨e1, e2⟩ := ret_ok h
    subst e2
    exact ⟨d, ds', st1, e1, h2⟩
theorem chkEs_len {xs : List Expr} {es : Es} (h : chkEs C es xs = true) (C' : Nat → List D → M D) (sub : Nat → Nat → Bool) (env : Env) (st : Store) (ds : List D) (st' : Store) (q : evs C' sub es env st = .ok ds st') : ds.length = xs.length := by
  induction xs generalizing es ds st with
  | nil =>
    cases es with
    | nil => have := evs_len (n := 0) q; simp only at this; rw [this]; rfl
    | cons e r => unfold chkEs at h; exact nomatch h
  | cons x xs ih =>
    cases es with
    | nil => unfold chkEs at h; exact nomatch h
    | cons e r =>
      unfold chkEs at h
      simp only [Bool.and_eq_true] at h
      obtain ⟨d, ds', st1, rfl, q'⟩ := evs_len (n := 0) q
      simp only [List.length_cons, ih h.2 _ _ q']
end

/-! targets -/
mutual
theorem chkT_ok : ∀ (t : T) (e : Expr) (C : Ck), chkT C t e = true → ∀ (S : Sg) (k : Nat) (Wh : WX) (X : Cx), CxOk S k C Wh X → PG X e (gD X.K t)
  | .n i, e, C, h, S, k, Wh, X, O => by
    cases e <;> simp only [chkT, Bool.false_eq_true] at h
    rename_i x pos
    simp only [Ck.sto, Bool.and_eq_true, Bool.or_eq_true, decide_eq_true_eq] at h
    obtain ⟨h1, h2⟩ := h
    refine g_n O.nd (by rw [O.hN]; exact h1) ?_ ?_
    · unfold L2.Loc
      rw [O.sc]
      rcases h2 with q | q
      · exact .inl q
      · exact .inr q.1
    · rw [O.sc]
      rcases h2 with q | q
      · exact .inr q
      · exact .inl (O.fnc x q.2)
  | .t ts, e, C, h, S, k, Wh, X, O => by
    cases e <;> simp only [chkT, Bool.false_eq_true] at h
    rename_i es kk pos
    exact g_t O.calm (chkTs_ok ts es C h S k Wh X O) (chkTs_st ts es C h) (chkTs_ln ts es C h)
theorem chkTs_ok : ∀ (ts : Ts) (es : List Expr) (C : Ck), chkTs C ts es = true → ∀ (S : Sg) (k : Nat) (Wh : WX) (X : Cx), CxOk S k C Wh X → PGs X es (gDs X.K ts)
  | .nil, es, C, h, S, k, Wh, X, O => by
    cases es <;> simp only [chkTs, Bool.false_eq_true] at h
    exact g_nil
  | .cons t ts, es, C, h, S, k, Wh, X, O => by
    cases es <;> simp only [chkTs, Bool.false_eq_true, Bool.and_eq_true, Bool.not_eq_true'] at h
    exact g_cons (chkT_ok t _ C h.1.1 S k Wh X O) (chkTs_ok ts _ C h.1.2 S k Wh X O) h.2
theorem chkTs_st : ∀ (ts : Ts) (es : List Expr) (C : Ck), chkTs C ts es = true → ∀ e ∈ es, strd e = false
  | .nil, es, C, h => by
    cases es <;> simp only [chkTs, Bool.false_eq_true] at h
    simp
  | .cons t ts, es, C, h => by
    cases es <;> simp only [chkTs, Bool.false_eq_true, Bool.and_eq_true, Bool.not_eq_true'] at h
    intro e he
    rcases List.mem_cons.mp he with q | q
    · subst q; exact h.2
    · exact chkTs_st ts _ C h.1.2 e q
theorem chkTs_ln : ∀ (ts : Ts) (es : List Expr) (C : Ck), chkTs C ts es = true → es.length = ts.len
  | .nil, es, C, h => by
    cases es <;> simp only [chkTs, Bool.false_eq_true] at h
    rfl
  | .cons t ts, es, C, h => by
    cases es <;> simp only [chkTs, Bool.false_eq_true, Bool.and_eq_true, Bool.not_eq_true'] at h
    simp only [List.length_cons, Ts.len, chkTs_ln ts _ C h.1.2]
end
theorem sub_ok {l m : List Nat} (hh : l.all (fun i => m.contains i) = true) : ∀ i ∈ l, i ∈ m := fun i hi => by
  have := List.all_eq_true.mp hh i hi
  simpa using this
theorem isTrueE_ok {e : E} (h : isTrueE e = true) : e = .c (.bl true) := by
  unfold isTrueE at h
  split at h
  · rfl
  · exact nomatch h
theorem pts_yes {X : Cx} {S : Sg} {Wh : WX} : PTs X [] (tDT S X.K Wh (.c (.bl true))) := by
  refine ⟨fun pins s σ H Q I h => pts_nil.run pins s σ H Q I ?_⟩
  obtain ⟨off, w, env, rfl, ok, re, sat⟩ := h
  exact sat w (.refl w) ok rfl

theorem bi_all {X : Cx} (b : Bi) (hc : X.calm = true) : CallR X (biF b) (rBi X.K b) := by
  by_cases h : b = .sorted
  · subst h; exact bi_sorted
  · exact bi_any b h hc
mutual
theorem chkE_ok : ∀ (p : E) (C : Ck) (e : Expr), chkE C p e = true → ∀ (S : Sg) (k : Nat) (Wh : WX) (X : Cx), CxOk S k C Wh X → Snd X S Wh e p
  | .c d, C, e, h, S, k, Wh, X, O => by
    unfold chkE at h
    simp only [Bool.and_eq_true] at h
    exact .of (O.cst_ok h.1) h.2
  | .v i, C, e, h, S, k, Wh, X, O => by
    unfold chkE at h
    split at h
    · exact .of (O.var h) rfl
    · exact nomatch h
  | .bin o a b, C, e, h, S, k, Wh, X, O => by
    unfold chkE at h
    split at h
    · simp only [Bool.and_eq_true, decide_eq_true_eq] at h
      obtain ⟨⟨rfl, h1⟩, h2⟩ := h
      exact .of (d_bin (chkE_ok a C _ h1 S k Wh X O).v (chkE_ok b C _ h2 S k Wh X O).v) rfl
    · exact nomatch h
  | .neg a, C, e, h, S, k, Wh, X, O => by
    unfold chkE at h
    split at h
    · exact .of (d_neg (chkE_ok a C _ h S k Wh X O).v) rfl
    · exact nomatch h
  | .nt a, C, e, h, S, k, Wh, X, O => by
    unfold chkE at h
    split at h
    · have A := chkE_ok a C _ h S k Wh X O
      obtain ⟨q1, q2⟩ := d_nt A.v A.t
      exact ⟨q1, q2⟩
    · exact nomatch h
  | .and a b, C, e, h, S, k, Wh, X, O => by
    unfold chkE at h
    split at h
    · rename_i x y r pos
      simp only [Bool.and_eq_true] at h
      obtain ⟨h1, h2⟩ := h
      have A := chkE_ok a C _ h1 S k Wh X O
      cases r with
      | nil =>
        have B := chkE_ok b C _ h2 S k Wh X O
        obtain ⟨q1, q2⟩ := d_and A.v A.t (pe_one (op := .And) (pos := pos) B.v) (pw_and1 B.t)
        exact ⟨q1, q2.pt⟩
      | cons z r =>
        have B := chkE_ok b C _ h2 S k Wh X O
        obtain ⟨q1, q2⟩ := d_and A.v A.t B.v (AB.PW.of_bool B.t)
        exact ⟨q1, q2.pt⟩
    · exact nomatch h
  | .or a b, C, e, h, S, k, Wh, X, O => by
    unfold chkE at h
    split at h
    · rename_i x y r pos
      simp only [Bool.and_eq_true] at h
      obtain ⟨h1, h2⟩ := h
      have A := chkE_ok a C _ h1 S k Wh X O
      cases r with
      | nil =>
        have B := chkE_ok b C _ h2 S k Wh X O
        obtain ⟨q1, q2⟩ := d_or A.v A.t (pe_one (op := .Or) (pos := pos) B.v) (pw_or1 B.t)
        exact ⟨q1, q2.pt⟩
      | cons z r =>
        have B := chkE_ok b C _ h2 S k Wh X O
        obtain ⟨q1, q2⟩ := d_or A.v A.t B.v (AB.PW.of_bool B.t)
        exact ⟨q1, q2.pt⟩
    · exact nomatch h
  | .ite t a b, C, e, h, S, k, Wh, X, O => by
    unfold chkE at h
    split at h
    · rename_i x y z pos
      simp only [Bool.and_eq_true] at h
      obtain ⟨⟨h0, h1⟩, h2⟩ := h
      have A := chkE_ok a C _ h1 S k Wh X O
      have B := chkE_ok b C _ h2 S k Wh X O
      obtain ⟨q1, q2⟩ := d_ite (pos := pos) (chkE_ok t C _ h0 S k Wh X O).t A.v A.t B.v B.t
      exact ⟨q1, q2⟩
    · exact nomatch h
  | .cmp o a b, C, e, h, S, k, Wh, X, O => by
    unfold chkE at h
    split at h
    · rename_i x p y pos
      simp only [Bool.and_eq_true, decide_eq_true_eq] at h
      obtain ⟨⟨⟨rfl, h1⟩, h2⟩, h3⟩ := h
      obtain ⟨q1, q2⟩ := d_cmp (pos := pos) O.room.units (chkE_ok a C _ h1 S k Wh X O).v (chkE_ok b C _ h2 S k Wh X O).v (nomk_ok h3 (cor o))
      exact ⟨q1, q2⟩
    · exact nomatch h
  | .chn o o' a b c, C, e, h, S, k, Wh, X, O => by
    unfold chkE at h
    split at h
    · rename_i x p p' y z pos
      simp only [Bool.and_eq_true, decide_eq_true_eq] at h
      obtain ⟨⟨⟨⟨⟨rfl, rfl⟩, h1⟩, h2⟩, h3⟩, h4⟩ := h
      obtain ⟨q1, q2⟩ := d_chn (pos := pos) O.room.units (chkE_ok a C _ h1 S k Wh X O).v (chkE_ok b C _ h2 S k Wh X O).v (chkE_ok c C _ h3 S k Wh X O).v (nomk2_ok h4 (cor o) (cor o'))
      exact ⟨q1, q2⟩
    · exact nomatch h
  | .tup es, C, e, h, S, k, Wh, X, O => by
    unfold chkE at h
    split at h
    · simp only [Bool.and_eq_true, decide_eq_true_eq] at h
      obtain ⟨⟨h1, h2⟩, h3⟩ := h
      exact .of (d_tup (chkEs_ok es C _ h1 h2 S k Wh X O) (by unfold szLine; omega) (chkEs_len h1)) rfl
    · exact nomatch h
  | .lst es, C, e, h, S, k, Wh, X, O => by
    unfold chkE at h
    split at h
    · simp only [Bool.and_eq_true, decide_eq_true_eq] at h
      obtain ⟨⟨h1, h2⟩, h3⟩ := h
      exact .of (d_lst (chkEs_ok es C _ h1 h2 S k Wh X O) (by unfold szLine; omega) (chkEs_len h1)) rfl
    · exact nomatch h
  | .new p, C, x, h, S, k, Wh, X, O => by
    unfold chkE at h
    simp only [Bool.and_eq_true] at h
    obtain ⟨⟨h1, h2⟩, h3⟩ := h
    exact .of (d_new h1 (chkE_ok p C _ h3 S k Wh X O).v) h2
  | .ix a i, C, e, h, S, k, Wh, X, O => by
    unfold chkE at h
    split at h
    · simp only [Bool.and_eq_true] at h
      obtain ⟨⟨h1, h2⟩, h3⟩ := h
      exact .of (d_ix (chkE_ok a C _ h1 S k Wh X O).v (chkE_ok i C _ h2 S k Wh X O).v (plainIx_ok h3)) rfl
    · exact nomatch h
  | .sll a l, C, e, h, S, k, Wh, X, O => by
    unfold chkE at h
    split at h
    · simp only [Bool.and_eq_true] at h
      exact .of (d_sll (chkE_ok a C _ h.1 S k Wh X O).v (chkE_ok l C _ h.2 S k Wh X O).v) rfl
    · exact nomatch h
  | .slh a l, C, e, h, S, k, Wh, X, O => by
    unfold chkE at h
    split at h
    · simp only [Bool.and_eq_true] at h
      exact .of (d_slh (chkE_ok a C _ h.1 S k Wh X O).v (chkE_ok l C _ h.2 S k Wh X O).v) rfl
    · exact nomatch h
  | .slb a l hi, C, e, h, S, k, Wh, X, O => by
    unfold chkE at h
    split at h
    · simp only [Bool.and_eq_true] at h
      exact .of (d_slb (chkE_ok a C _ h.1.1 S k Wh X O).v (chkE_ok l C _ h.1.2 S k Wh X O).v (chkE_ok hi C _ h.2 S k Wh X O).v) rfl
    · exact nomatch h
  | .call f es, C, e, h, S, k, Wh, X, O => by
    unfold chkE at h
    split at h
    case h_2 => exact nomatch h
    rename_i x p1 xs pos
    simp only [Ck.fun_, Bool.and_eq_true] at h
    obtain ⟨⟨⟨h0, h1⟩, h2⟩, h3⟩ := h
    obtain ⟨g1, g2⟩ := O.isGl h0
    have hf : ∃ np, C.gt.lookup x = some (.fn f np) := by
      split at h1
      · rename_i g np q
        simp only [decide_eq_true_eq] at h1
        subst h1
        exact ⟨np, q⟩
      · exact nomatch h1
    obtain ⟨np, q⟩ := hf
    obtain ⟨ad, fd, ps, F, m, kp, b⟩ := O.fns x f np q
    have A := chkEs_ok es C _ h2 h3 S k Wh X O
    cases xs with
    | nil =>
      cases es with
      | nil => exact .of (d_call0 F O.room g1 m kp b O.pas g2) rfl
      | cons e r => simp only [chkEs] at h2; exact nomatch h2
    | cons y ys => exact .of (d_call F O.room g1 m kp b O.pas A (noStar_ok h3) g2) rfl
  | .bi b es, C, e, h, S, k, Wh, X, O => by
    unfold chkE at h
    split at h
    · simp only [Bool.and_eq_true, decide_eq_true_eq] at h
      obtain ⟨⟨⟨rfl, h1⟩, h2⟩, h3⟩ := h
      obtain ⟨g1, g2, g3⟩ := O.isB h1
      exact .of (d_bi (bi_all b O.calm) g1 g3 (chkEs_ok es C _ h2 h3 S k Wh X O) (noStar_ok h3)) rfl
    · exact nomatch h
  | .mt m o (.cons e' q), C, e, h, S, k, Wh, X, O => by
    unfold chkE at h
    split at h
    · rename_i y p1 a p2 x p3
      simp only [Bool.and_eq_true, decide_eq_true_eq, Bool.not_eq_true'] at h
      obtain ⟨⟨⟨⟨⟨rfl, rfl⟩, h1⟩, h2⟩, h3⟩, h4⟩ := h
      unfold chkEs at h2
      simp only [Bool.and_eq_true] at h2
      cases q with
      | nil => exact .of (d_count (chkE_ok o C _ h1 S k Wh X O).v (chkE_ok e' C _ h2.1 S k Wh X O).v h3 h4) rfl
      | cons _ _ => have h5 := h2.2; unfold chkEs at h5; exact nomatch h5
    · exact nomatch h
  | .mt m o .nil, C, e, h, S, k, Wh, X, O => by
    unfold chkE at h
    split at h
    · simp only [Bool.and_eq_true] at h
      have h5 := h.1.1.2
      unfold chkEs at h5
      exact nomatch h5
    · exact nomatch h
  | .isi a t, C, e, h, S, k, Wh, X, O => by
    unfold chkE at h
    split at h
    · simp only [Bool.and_eq_true, decide_eq_true_eq, Bool.not_eq_true'] at h
      obtain ⟨⟨⟨⟨⟨rfl, h1⟩, rfl⟩, h3⟩, h4⟩, h5⟩ := h
      obtain ⟨g1, g2, g3⟩ := O.isB h1
      obtain ⟨e1, e2, e3⟩ := O.isB h3
      exact .of (d_isi g1 g3 e1 e3 (chkE_ok a C _ h4 S k Wh X O).v h5) rfl
    · exact nomatch h
  | .comp elt tg it cond own, C, e, h, S, k, Wh, X, O => by
    unfold chkE at h
    split at h
    case h_2 => exact nomatch h
    rename_i x y z ifs n scope pos
    simp only [Bool.and_eq_true, decide_eq_true_eq] at h
    obtain ⟨⟨⟨⟨⟨⟨⟨rfl, h1⟩, h2⟩, h3⟩, h4⟩, h5⟩, h6⟩, h7⟩ := h
    have B : BlkOk X.N X.env.scope scope (ownL C.N own) := by rw [O.hN, O.sc]; exact blkB_ok h1
    have ht : ∀ (s : Shared) (H : Hp) (A : Addr) (cl : List (Str × Addr)) (fp : List Addr), PTs (X.blk s H scope (compEnvC scope cl A X.env) fp) ifs (tDT S X.K WF cond) := fun s H A cl fp => by
      have O' : CxOk S k (C.blk scope) WF (X.blk s H scope (compEnvC scope cl A X.env) fp) := O.blk
      cases ifs with
      | nil => rw [isTrueE_ok h6]; exact pts_yes (X := X.blk s H scope (compEnvC scope cl A X.env) fp)
      | cons c r =>
        cases r with
        | nil => exact pts_one (chkE_ok cond _ c h6 S k WF _ O').t
        | cons _ _ => exact nomatch h6
    have P := pe_lc (pos := pos) (g := gD X.K tg) (tt := tDT S X.K WF cond) (te := tD S X.K WF elt) O.calm O.nd (chkI_ok it C y z h3 S k Wh X O) B (fun s H A cl fp => chkT_ok tg y _ h5 S k WF (X.blk s H scope (compEnvC scope cl A X.env) fp) O.blk) ht
      (fun s H A cl fp => (chkE_ok elt _ x h7 S k WF (X.blk s H scope (compEnvC scope cl A X.env) fp) O.blk).v) (notSet_ok h4 X.env)
    rw [ownL_ix] at P
    exact .of (AB.PE.imp (fun σ H Q q => lcD (sub_ok h2) q) P) rfl
  | .comp2 elt tg it cond tg1 it1 cond1 own own1, C, e, h, S, k, Wh, X, O => by
    unfold chkE at h
    split at h
    case h_2 => exact nomatch h
    rename_i x y z ifs n y1 z1 ifs1 n1 scope pos
    simp only [Bool.and_eq_true, decide_eq_true_eq] at h
    obtain ⟨⟨⟨⟨⟨⟨⟨⟨⟨⟨⟨⟨⟨⟨rfl, rfl⟩, h1⟩, h2⟩, h3⟩, h4⟩, h5⟩, h6⟩, h7⟩, h8⟩, h9⟩, h10⟩, h11⟩, h12⟩, h13⟩ := h
    have B : BlkOk X.N X.env.scope scope (ownL C.N own) := by rw [O.hN, O.sc]; exact blkB_ok h1
    have ht : ∀ (s : Shared) (H : Hp) (A : Addr) (cl : List (Str × Addr)) (fp : List Addr), PTs (X.blk s H scope (compEnvC scope cl A X.env) fp) ifs (tDT S X.K WF cond) := fun s H A cl fp => by
      have O' : CxOk S k (C.blk scope) WF (X.blk s H scope (compEnvC scope cl A X.env) fp) := O.blk
      cases ifs with
      | nil => rw [isTrueE_ok h11]; exact pts_yes (X := X.blk s H scope (compEnvC scope cl A X.env) fp)
      | cons c r =>
        cases r with
        | nil => exact pts_one (chkE_ok cond _ c h11 S k WF _ O').t
        | cons _ _ => exact nomatch h11
    have ht1 : ∀ (s : Shared) (H : Hp) (A : Addr) (cl : List (Str × Addr)) (fp : List Addr), PTs (X.blk s H scope (compEnvC scope cl A X.env) fp) ifs1 (tDT S X.K WF cond1) := fun s H A cl fp => by
      have O' : CxOk S k (C.blk scope) WF (X.blk s H scope (compEnvC scope cl A X.env) fp) := O.blk
      cases ifs1 with
      | nil => rw [isTrueE_ok h12]; exact pts_yes (X := X.blk s H scope (compEnvC scope cl A X.env) fp)
      | cons c r =>
        cases r with
        | nil => exact pts_one (chkE_ok cond1 _ c h12 S k WF _ O').t
        | cons _ _ => exact nomatch h12
    have P := pe_lc2 (pos := pos) (vs1 := own1) (g := gD X.K tg) (g1 := gD X.K tg1) (tt := tDT S X.K WF cond) (tt1 := tDT S X.K WF cond1) (te := tD S X.K WF elt) (wi1 := iD S X.K WF it1) O.calm O.nd (chkI_ok it C y z h5 S k Wh X O) B (by rw [ownL_ix]; exact sub_ok h4)
      (fun s H A cl fp => chkT_ok tg y _ h8 S k WF (X.blk s H scope (compEnvC scope cl A X.env) fp) O.blk) ht (fun s H A cl fp => chkI_ok it1 _ y1 z1 h9 S k WF (X.blk s H scope (compEnvC scope cl A X.env) fp) O.blk)
      (fun s H A cl fp => chkT_ok tg1 y1 _ h10 S k WF (X.blk s H scope (compEnvC scope cl A X.env) fp) O.blk) ht1 (fun s H A cl fp => (chkE_ok elt _ x h13 S k WF (X.blk s H scope (compEnvC scope cl A X.env) fp) O.blk).v) (notSet_ok h6 X.env) (fun env x => notSet_ok h7 env x)
    rw [ownL_ix] at P
    exact .of (AB.PE.imp (fun σ H Q q => lcD2 (sub_ok h2) (sub_ok h3) q) P) rfl
  | .keys elt tg it cond own, C, e, h, S, k, Wh, X, O => by
    unfold chkE at h
    split at h
    case h_2 => exact nomatch h
    rename_i f p1 x kk p2 y z ifs n scope p3 pos
    simp only [Bool.and_eq_true, decide_eq_true_eq] at h
    obtain ⟨⟨⟨⟨⟨⟨⟨⟨⟨rfl, hb⟩, rfl⟩, h1⟩, h2⟩, h3⟩, h4⟩, h5⟩, h6⟩, h7⟩ := h
    obtain ⟨g1, g2, g3⟩ := O.isB hb
    have B : BlkOk X.N X.env.scope scope (ownL C.N own) := by rw [O.hN, O.sc]; exact blkB_ok h1
    have ht : ∀ (s : Shared) (H : Hp) (A : Addr) (cl : List (Str × Addr)) (fp : List Addr), PTs (X.blk s H scope (compEnvC scope cl A X.env) fp) ifs (tDT S X.K WF cond) := fun s H A cl fp => by
      have O' : CxOk S k (C.blk scope) WF (X.blk s H scope (compEnvC scope cl A X.env) fp) := O.blk
      cases ifs with
      | nil => rw [isTrueE_ok h6]; exact pts_yes (X := X.blk s H scope (compEnvC scope cl A X.env) fp)
      | cons c r =>
        cases r with
        | nil => exact pts_one (chkE_ok cond _ c h6 S k WF _ O').t
        | cons _ _ => exact nomatch h6
    have P := pe_compT (at_ := p3) (vE := .Constant (.bool true) kk p2) (p := ⟨iD S X.K Wh it, gD X.K tg, tDT S X.K WF cond, tD S X.K WF elt, tC (.bl true)⟩) (by have := O.room.units; omega) O.calm O.nd (chkI_ok it C y z h3 S k Wh X O) B
      (fun s H A cl fp => ⟨chkT_ok tg y _ h5 S k WF (X.blk s H scope (compEnvC scope cl A X.env) fp) O.blk, ht s H A cl fp, (chkE_ok elt _ x h7 S k WF (X.blk s H scope (compEnvC scope cl A X.env) fp) O.blk).v, pe_bl⟩) (notSet_ok h4 X.env)
    rw [ownL_ix] at P
    have P2 := pe_callTy (pos := pos) (p := p1) (call_list_dT O.calm) g1 g3 (by decide +kernel) (pa_cons P pa_nil) (by decide +kernel) (by decide +kernel)
    exact .of (AB.PE.imp (fun σ H Q q => lcK (sub_ok h2) q) P2) rfl
  | .rev _, C, e, h, S, k, Wh, X, O => by unfold chkE at h; exact nomatch h
  | .lrng a b, C, e, h, S, k, Wh, X, O => by
    unfold chkE at h
    split at h
    case h_2 => exact nomatch h
    simp only [Bool.and_eq_true, decide_eq_true_eq, Bool.not_eq_true'] at h
    obtain ⟨⟨⟨⟨⟨⟨⟨rfl, hb⟩, rfl⟩, h1⟩, h2⟩, h3⟩, h4⟩, h5⟩ := h
    obtain ⟨g1, g2, g3⟩ := O.isB hb
    obtain ⟨g4, g5, g6⟩ := O.isB h1
    exact .of (d_lrng O.calm g1 g3 g4 g6 (chkE_ok a C _ h2 S k Wh X O).v (chkE_ok b C _ h3 S k Wh X O).v h4 h5) rfl
  | .xis _ _, C, e, h, S, k, Wh, X, O => by unfold chkE at h; exact nomatch h
  | .xfl _, C, e, h, S, k, Wh, X, O => by unfold chkE at h; exact nomatch h
theorem chkEs_ok : ∀ (p : Es) (C : Ck) (es : List Expr), chkEs C p es = true → noStar es = true → ∀ (S : Sg) (k : Nat) (Wh : WX) (X : Cx), CxOk S k C Wh X → PA X es (tDs S X.K Wh p)
  | .nil, C, es, h1, h2, S, k, Wh, X, O => by
    cases es with
    | nil => exact d_nil
    | cons _ _ => unfold chkEs at h1; exact nomatch h1
  | .cons e r, C, es, h1, h2, S, k, Wh, X, O => by
    cases es with
    | nil => unfold chkEs at h1; exact nomatch h1
    | cons x xs =>
      unfold chkEs at h1
      simp only [Bool.and_eq_true] at h1
      simp only [noStar, List.all_cons, Bool.and_eq_true, Bool.not_eq_true'] at h2
      exact d_cons (chkE_ok e C x h1.1 S k Wh X O).v (chkEs_ok r C xs h1.2 h2.2 S k Wh X O) h2.1
theorem chkI_ok : ∀ (p : I) (C : Ck) (tg e : Expr), chkI C p tg e = true → ∀ (S : Sg) (k : Nat) (Wh : WX) (X : Cx), CxOk S k C Wh X → PI X tg e (iD S X.K Wh p)
  | .ov a, C, tg, e, h, S, k, Wh, X, O => by
    unfold chkI at h
    exact i_ov (chkE_ok a C e h S k Wh X O).v
  | .rng1 a, C, tg, e, h, S, k, Wh, X, O => by
    unfold chkI at h
    split at h
    · simp only [Bool.and_eq_true, decide_eq_true_eq, Bool.not_eq_true'] at h
      obtain ⟨⟨⟨rfl, h1⟩, h2⟩, h3⟩ := h
      obtain ⟨g1, g2, g3⟩ := O.isB h1
      exact i_rng1 g1 g3 (chkE_ok a C _ h2 S k Wh X O).v h3
    · exact nomatch h
  | .rng2 a b, C, tg, e, h, S, k, Wh, X, O => by
    unfold chkI at h
    split at h
    · simp only [Bool.and_eq_true, decide_eq_true_eq, Bool.not_eq_true'] at h
      obtain ⟨⟨⟨⟨⟨rfl, h1⟩, h2⟩, h3⟩, h4⟩, h5⟩ := h
      obtain ⟨g1, g2, g3⟩ := O.isB h1
      exact i_rng2 g1 g3 (chkE_ok a C _ h2 S k Wh X O).v (chkE_ok b C _ h3 S k Wh X O).v h4 h5
    · exact nomatch h
  | .enm a, C, tg, e, h, S, k, Wh, X, O => by
    unfold chkI at h
    split at h
    · simp only [Bool.and_eq_true, decide_eq_true_eq, Bool.not_eq_true'] at h
      obtain ⟨⟨⟨rfl, h1⟩, h2⟩, h3⟩ := h
      obtain ⟨g1, g2, g3⟩ := O.isB h1
      exact i_enm g1 g3 (chkE_ok a C _ h2 S k Wh X O).v h3
    · exact nomatch h
  | .zip a b, C, tg, e, h, S, k, Wh, X, O => by
    unfold chkI at h
    split at h
    · simp only [Bool.and_eq_true, decide_eq_true_eq, Bool.not_eq_true'] at h
      obtain ⟨⟨⟨⟨⟨rfl, h1⟩, h2⟩, h3⟩, h4⟩, h5⟩ := h
      obtain ⟨g1, g2, g3⟩ := O.isB h1
      exact i_zip g1 g3 (chkE_ok a C _ h2 S k Wh X O).v (chkE_ok b C _ h3 S k Wh X O).v h4 h5
    · exact nomatch h
end
theorem chk_ok : (∀ (C : Ck) (p : E) (e : Expr), chkE C p e = true → ∀ (S : Sg) (k : Nat) (Wh : WX) (X : Cx), CxOk S k C Wh X → Snd X S Wh e p) ∧
    (∀ (C : Ck) (p : I) (tg e : Expr), chkI C p tg e = true → ∀ (S : Sg) (k : Nat) (Wh : WX) (X : Cx), CxOk S k C Wh X → PI X tg e (iD S X.K Wh p)) ∧
    (∀ (C : Ck) (p : Es) (es : List Expr), chkEs C p es = true → noStar es = true → ∀ (S : Sg) (k : Nat) (Wh : WX) (X : Cx), CxOk S k C Wh X → PA X es (tDs S X.K Wh p)) :=
  ⟨fun C p e => chkE_ok p C e, fun C p tg e => chkI_ok p C tg e, fun C p es => chkEs_ok p C es⟩
end AB

set_option Elab.async false
set_option linter.all false
set_option autoImplicit false
set_option maxRecDepth 100000
/-! AnyS: statements, one rule a form. -/
namespace AB
open PySem PySem.Spec L2 PyProof.Rows

/-- what is wanted behind a statement -/
structure Aft where
  nx : Env → Wd → Prop
  rt : D → Wd → Prop
  bk : Env → Wd → Prop
  ct : Env → Wd → Prop
  ex : Ex → Env → Wd → Prop
section
variable (K : PySem.W.Frag) (off : Addr → Prop)
def SatS (w : Wd) (r : RS) (F : Aft) : Prop := match r with
  | .ok (.nx e) st => ∀ w', Le w w' → OkW K off w' → w'.st = st → F.nx e w'
  | .ok (.rt d) st => ∀ w', Le w w' → OkW K off w' → w'.st = st → F.rt d w'
  | .ok (.bk e) st => ∀ w', Le w w' → OkW K off w' → w'.st = st → F.bk e w'
  | .ok (.ct e) st => ∀ w', Le w w' → OkW K off w' → w'.st = st → F.ct e w'
  | .ex x e st => ∀ w', Le w w' → OkW K off w' → w'.st = st → F.ex x e w'
  | .no => False
/-- the ends that a walk is to reach -/
def aft (S : Sg) (Wh : WX) (D : Ends) : Aft where
  nx := fun e w => ∀ σ, REnv K off w e σ → D.nx σ w.H
  rt := fun d w => ∀ v, Rep K off w d v → D.rt v w.H
  bk := fun e w => ∀ σ, REnv K off w e σ → D.bk σ w.H
  ct := fun e w => ∀ σ, REnv K off w e σ → D.ct σ w.H
  ex := fun x e w => ∀ σ, REnv K off w e σ → xk K off S Wh σ x w
end
section
variable {K : PySem.W.Frag} {off : Addr → Prop} {w : Wd}
theorem SatS.imp {r : RS} {F G : Aft} (h : SatS K off w r F) (h1 : ∀ e w', Le w w' → OkW K off w' → F.nx e w' → G.nx e w') (h2 : ∀ e w', Le w w' → OkW K off w' → F.rt e w' → G.rt e w') (h3 : ∀ e w', Le w w' → OkW K off w' → F.bk e w' → G.bk e w')
    (h4 : ∀ e w', Le w w' → OkW K off w' → F.ct e w' → G.ct e w') (h5 : ∀ x e w', Le w w' → OkW K off w' → F.ex x e w' → G.ex x e w') : SatS K off w r G := by
  cases r with
  | ok f st => cases f with
    | nx e => exact fun w' l o q => h1 e w' l o (h w' l o q)
    | rt e => exact fun w' l o q => h2 e w' l o (h w' l o q)
    | bk e => exact fun w' l o q => h3 e w' l o (h w' l o q)
    | ct e => exact fun w' l o q => h4 e w' l o (h w' l o q)
  | ex x e st => exact fun w' l o q => h5 x e w' l o (h w' l o q)
  | no => exact h
theorem SatS.from {w2 : Wd} {r : RS} {F : Aft} (l0 : Le w w2) (h : SatS K off w r F) : SatS K off w2 r F := by
  cases r with
  | ok f st => cases f <;> exact fun w' l o q => h w' (l0.trans l) o q
  | ex x e st => exact fun w' l o q => h w' (l0.trans l) o q
  | no => exact h
/-- behind a statement's first part -/
theorem SatS.nxt {r : RS} {f : Env → MS} {F : Aft} {m : MS} (h : SatS K off w (thenS m f w.st) F) : SatS K off w (m w.st) { F with nx := fun e w' => SatS K off w' (f e w'.st) F } := by
  unfold thenS at h
  cases q : m w.st with
  | ok fl st =>
    rw [q] at h
    cases fl with
    | nx e =>
      intro w1 l1 o1 e1
      subst e1
      exact h.from l1
    | _ => exact h
  | ex x e st => rw [q] at h; exact h
  | no => rw [q] at h; exact h
theorem SatS.onE {α : Type} {m : M α} {env : Env} {f : α → MS} {F : Aft} (h : SatS K off w (AB.onE m env f w.st) F) : Sat K off w (m w.st) (fun a w' => SatS K off w' (f a w'.st) F) (fun x w' => F.ex x env w') := by
  unfold AB.onE at h
  cases q : m w.st with
  | ok a st =>
    rw [q] at h
    intro w1 l1 o1 e1
    subst e1
    exact h.from l1
  | ex x st => rw [q] at h; exact h
  | no => rw [q] at h; exact h
theorem SatS.now {env : Env} {F : Aft} (h : SatS K off w (retS (.nx env) w.st) F) (ok : OkW K off w) : F.nx env w := h w (.refl w) ok rfl
/-- a cell is written -/
theorem OkW.cell {n : Nat} {xs ys : List D} {a : Addr} {us : List V} (ok : OkW K off w) (e1 : w.st[n]? = some (.lst xs)) (e2 : w.am[n]? = some a) (r : Reps K off w ys us) (hp : D.pls ys = true) :
    Le w { H := upd w.H a (.lst us), am := w.am, st := w.st.set n (.lst ys), gh := w.gh } ∧ OkW K off { H := upd w.H a (.lst us), am := w.am, st := w.st.set n (.lst ys), gh := w.gh } := by
  have hn : n < w.st.length := (List.getElem?_eq_some_iff.mp e1).1
  have la : Live w a := .inl ⟨n, _, e1, rfl, e2⟩
  have at_ : ∀ (m : Nat) (c : Cell), (w.st.set n (.lst ys))[m]? = some c → (m = n ∧ c = .lst ys) ∨ (m ≠ n ∧ w.st[m]? = some c) := fun m c h => by
    by_cases q : n = m
    · subst q
      rw [List.getElem?_set_self hn] at h
      exact .inl ⟨rfl, (Option.some.inj h).symm⟩
    · rw [List.getElem?_set_ne q] at h
      exact .inr ⟨fun z => q z.symm, h⟩
  have lv : ∀ x, Live { H := upd w.H a (.lst us), am := w.am, st := w.st.set n (.lst ys), gh := w.gh } x → Live w x := fun x hx => by
    rcases hx with ⟨m, c, h1, h2, h3⟩ | g
    case inr => exact .inr g
    rcases at_ m c h1 with ⟨rfl, rfl⟩ | ⟨_, h⟩
    · exact .inl ⟨m, _, e1, rfl, h3⟩
    · exact .inl ⟨m, c, h, h2, h3⟩
  have le : Le w { H := upd w.H a (.lst us), am := w.am, st := w.st.set n (.lst ys), gh := w.gh } := by
    refine ⟨⟨fun x o h nl => ?_, ⟨[], by simp⟩, fun x h => .inl (lv x h)⟩, fun x o g h => ⟨g, ?_⟩⟩
    · show upd w.H a (.lst us) x = _
      rw [upd_ne (fun z => nl (by subst z; exact la))]; exact h
    · show upd w.H a (.lst us) x = _
      rw [upd_ne (fun z => by subst z; exact ok.ghd x n _ g e1 rfl e2)]; exact h
  refine ⟨le, ?_, fun m zs x h1 h2 => ?_, fun m ns x h1 h2 => ?_, fun m c x h1 h2 => ?_, fun m m' c d x h1 h2 h3 h4 h5 h6 => ?_, fun x h => ?_, fun x g => ?_, fun m zs h1 => ?_, fun x m c g h1 h2 h3 => ?_⟩
  rotate_right 3
  · obtain ⟨vs, q, q2⟩ := ok.gh x g
    have nx : x ≠ a := fun z => by subst z; exact ok.ghd x n _ g e1 rfl e2
    refine ⟨vs, ?_, q2⟩
    show upd w.H a (.lst us) x = _
    rw [upd_ne nx]; exact q
  · rcases at_ m _ h1 with ⟨rfl, e⟩ | ⟨_, h⟩
    · cases e; exact hp
    · exact ok.pur m zs h
  · rcases at_ m c h1 with ⟨rfl, rfl⟩ | ⟨_, h⟩
    · exact ok.ghd x m _ g e1 rfl h3
    · exact ok.ghd x m c g h h2 h3
  · show w.am.length = (w.st.set n _).length
    rw [List.length_set]; exact ok.len
  · rcases at_ m _ h1 with ⟨rfl, e⟩ | ⟨ne, h⟩
    · cases e
      have : x = a := Option.some.inj (h2.symm.trans e2)
      subst this
      exact ⟨us, upd_same, Reps.mono ok le _ _ r⟩
    · obtain ⟨vs, q1, q2⟩ := ok.lst m zs x h h2
      have nx : x ≠ a := fun z => by subst z; exact ne (ok.inj m n _ _ _ h e1 rfl rfl h2 e2)
      refine ⟨vs, ?_, Reps.mono ok le _ _ q2⟩
      show upd w.H a (.lst us) x = _
      rw [upd_ne nx]; exact q1
  · rcases at_ m _ h1 with ⟨rfl, e⟩ | ⟨ne, h⟩
    · cases e
    · rcases ok.scr m ns x h h2 with ⟨o, q⟩ | q
      · exact .inl ⟨o, le.keep _ _ q (ok.not_live q fun z => z)⟩
      · exact .inr q
  · rcases at_ m _ h1 with ⟨rfl, e⟩ | ⟨ne, h⟩
    · subst e; exact ⟨fun k z => (by cases z), fun k f z => (by cases z)⟩
    · exact ok.nol m c x h h2
  · have g : ∀ (m : Nat) (c : Cell), (w.st.set n (.lst ys))[m]? = some c → c.liv = true → ∃ c', w.st[m]? = some c' ∧ c'.liv = true := fun m c h hl => by
      rcases at_ m c h with ⟨rfl, rfl⟩ | ⟨_, h⟩
      · exact ⟨_, e1, rfl⟩
      · exact ⟨c, h, hl⟩
    obtain ⟨c', k1, k2⟩ := g m c h1 h3
    obtain ⟨d', k3, k4⟩ := g m' d h2 h4
    exact ok.inj m m' c' d' x k1 k3 k2 k4 h5 h6
  · obtain ⟨⟨o, q⟩, nl⟩ := ok.off x h
    exact ⟨⟨o, le.keep _ _ q nl⟩, fun z => nl (lv x z)⟩
/-- a cell's list becomes a value -/
theorem OkW.gone {n : Nat} {xs : List D} {a : Addr} (ok : OkW K off w) (e1 : w.st[n]? = some (.lst xs)) (e2 : w.am[n]? = some a) :
    Le w { w with st := w.st.set n .dead } ∧ OkW K off { w with st := w.st.set n .dead } ∧ Rep K off { w with st := w.st.set n .dead } (.lst xs) (.ref a) := by
  have hn : n < w.st.length := (List.getElem?_eq_some_iff.mp e1).1
  have la : Live w a := .inl ⟨n, _, e1, rfl, e2⟩
  have at_ : ∀ (m : Nat) (c : Cell), (w.st.set n .dead)[m]? = some c → (m = n ∧ c = .dead) ∨ (m ≠ n ∧ w.st[m]? = some c) := fun m c h => by
    by_cases q : n = m
    · subst q
      rw [List.getElem?_set_self hn] at h
      exact .inl ⟨rfl, (Option.some.inj h).symm⟩
    · rw [List.getElem?_set_ne q] at h
      exact .inr ⟨fun z => q z.symm, h⟩
  have lv : ∀ x, Live { w with st := w.st.set n .dead } x → Live w x ∧ x ≠ a := fun x hx => by
    rcases hx with ⟨m, c, h1, h2, h3⟩ | g
    case inr => exact ⟨.inr g, fun z => by subst z; exact ok.ghd x n _ g e1 rfl e2⟩
    rcases at_ m c h1 with ⟨rfl, rfl⟩ | ⟨ne, h⟩
    · cases h2
    · exact ⟨.inl ⟨m, c, h, h2, h3⟩, fun z => by subst z; exact ne (ok.inj m n _ _ _ h e1 h2 rfl h3 e2)⟩
  have le : Le w { w with st := w.st.set n .dead } := ⟨⟨fun x o h nl => h, ⟨[], by simp⟩, fun x h => .inl (lv x h).1⟩, fun _ _ g h => ⟨g, h⟩⟩
  obtain ⟨vs, q1, q2⟩ := ok.lst n xs a e1 e2
  refine ⟨le, ⟨?_, fun m zs x h1 h2 => ?_, fun m ns x h1 h2 => ?_, fun m c x h1 h2 => ?_, fun m m' c d x h1 h2 h3 h4 h5 h6 => ?_, fun x h => ?_, fun x g => ok.gh x g, fun m zs h1 => ?_, fun x m c g h1 h2 h3 => ?_⟩, ?_⟩
  rotate_right 3
  · rcases at_ m _ h1 with ⟨rfl, e⟩ | ⟨_, h⟩
    · cases e
    · exact ok.pur m zs h
  · rcases at_ m c h1 with ⟨rfl, rfl⟩ | ⟨_, h⟩
    · cases h2
    · exact ok.ghd x m c g h h2 h3
  · simp only [Rep]
    exact ⟨a, vs, rfl, q1, fun z => (ok.off a z).2 la, fun z => (lv a z).2 rfl, Reps.mono ok le _ _ q2⟩
  · show w.am.length = (w.st.set n _).length
    rw [List.length_set]; exact ok.len
  · rcases at_ m _ h1 with ⟨rfl, e⟩ | ⟨ne, h⟩
    · cases e
    · obtain ⟨vs, q1, q2⟩ := ok.lst m zs x h h2
      exact ⟨vs, q1, Reps.mono ok le _ _ q2⟩
  · rcases at_ m _ h1 with ⟨rfl, e⟩ | ⟨ne, h⟩
    · cases e
    · exact ok.scr m ns x h h2
  · rcases at_ m _ h1 with ⟨rfl, e⟩ | ⟨ne, h⟩
    · subst e; exact ⟨fun k z => (by cases z), fun k f z => (by cases z)⟩
    · exact ok.nol m c x h h2
  · rcases at_ m _ h1 with ⟨rfl, e⟩ | ⟨ne, h⟩
    · subst e; cases h3
    · rcases at_ m' _ h2 with ⟨rfl, e⟩ | ⟨ne', h'⟩
      · subst e; cases h4
      · exact ok.inj m m' c d x h h' h3 h4 h5 h6
  · obtain ⟨q, nl⟩ := ok.off x h
    exact ⟨q, fun z => nl (lv x z).1⟩
end
/-- a statement's reading -/
def tS (S : Sg) (K : PySem.W.Frag) (Wh : WX) (f : Env → MS) : TS := fun D σ H => ∃ (off : Addr → Prop) (w : Wd) (env : Env), w.H = H ∧ OkW K off w ∧ REnv K off w env σ ∧ SatS K off w (f env w.st) (aft K off S Wh D)
section
variable {X : Cx} {S : Sg} {Wh : WX} {pos : Pos} {e : Expr} {p : E}
theorem PS.imp {st : Stmt} {t t' : TS} (f : ∀ D σ H, t D σ H → t' D σ H) (h : PS X st t') : PS X st t := ⟨fun pins s σ H D I q => h.run pins s σ H D I (f D σ H q)⟩
theorem PSs.imp {st : List Stmt} {t t' : TS} (f : ∀ D σ H, t D σ H → t' D σ H) (h : PSs X st t') : PSs X st t := ⟨fun pins s σ H D I q => h.run pins s σ H D I (f D σ H q)⟩
/-- from an expression in a statement -/
theorem onE_D {env : Env} {D : Ends} {σ : L2.St} {off : Addr → Prop} {w : Wd} {f : AB.D → MS} (ok : OkW X.K off w) (re : REnv X.K off w env σ) (h : SatS X.K off w (onE (ev S.C S.sub p env) env f w.st) (aft X.K off S Wh D)) {Q : VK}
    (k : ∀ d w', Le w w' → OkW X.K off w' → REnv X.K off w' env σ → SatS X.K off w' (f d w'.st) (aft X.K off S Wh D) → ∀ v, Rep X.K off w' d v → Q v w'.H) : tD S X.K Wh p σ w.H Q := by
  refine ⟨off, w, env, rfl, ok, re, h.onE.impx (fun d w' l o q v rv _ => k d w' l o (re.mono ok l) q v rv) fun x w' l o q => ?_⟩
  exact q σ (re.mono ok l)
theorem onE_T {env : Env} {D : Ends} {σ : L2.St} {off : Addr → Prop} {w : Wd} {f : Bool → MS} (ok : OkW X.K off w) (re : REnv X.K off w env σ) (h : SatS X.K off w (onE (bnd (ev S.C S.sub p env) fun x => lft (truth x)) env f w.st) (aft X.K off S Wh D)) {Q : Bool → Hp → Prop}
    (k : ∀ d w', Le w w' → OkW X.K off w' → REnv X.K off w' env σ → SatS X.K off w' (f d w'.st) (aft X.K off S Wh D) → Q d w'.H) : tDT S X.K Wh p σ w.H Q := by
  refine ⟨off, w, env, rfl, ok, re, h.onE.impx (fun d w' l o q => k d w' l o (re.mono ok l) q) fun x w' l o q => ?_⟩
  exact q σ (re.mono ok l)
theorem s_ex (he : PE X e (tD S X.K Wh p)) (hs : swapsWith e none pos.line X.env = pure false) : PS X (.Expr e pos) (tS S X.K Wh fun env => onE (ev S.C S.sub p env) env fun _ => retS (.nx env)) := by
  refine PS.imp ?_ (ps_expr he hs)
  rintro D σ H ⟨off, w, env, rfl, ok, re, sat⟩
  exact onE_D ok re sat fun d w' l o r q v rv => q.now o σ r
theorem s_set {t : T} {tg : Expr} (he : PE X e (tD S X.K Wh p)) (hg : PG X tg (gD X.K t)) (hs : swapsWithSole [tg] e pos.line X.env = pure false) (hw : swappedStores [tg] e X.env = pure none)
    (h1 : (assignEach [tg] X.env).map (·.2) = [assign tg X.env]) : PS X (.Assign [tg] e pos) (tS S X.K Wh fun env => onE (ev S.C S.sub p env) env fun d => match asg t d env with
      | some env' => retS (.nx env')
      | none => nonS) := by
  refine PS.imp ?_ (ps_asg he hg hs hw h1)
  rintro D σ H ⟨off, w, env, rfl, ok, re, sat⟩
  refine onE_D ok re sat fun d w' l o r q v rv => ?_
  cases z : asg t d env with
  | none => rw [z] at q; exact q.elim
  | some env' =>
    rw [z] at q
    exact ⟨off, w', env, d, env', rfl, o, r, rv, z, fun σ' r' _ => q.now o σ' r'⟩
theorem s_rt (he : PE X e (tD S X.K Wh p)) : PS X (.Return (some e) pos) (tS S X.K Wh fun env => onE (ev S.C S.sub p env) env fun d => retS (.rt d)) := by
  refine PS.imp ?_ (ps_ret he)
  rintro D σ H ⟨off, w, env, rfl, ok, re, sat⟩
  exact onE_D ok re sat fun d w' l o r q v rv => q w' (.refl w') o rfl v rv
theorem s_rtn : PS X (.Return none pos) (tS S X.K Wh fun _ => retS (.rt .non)) := by
  refine PS.imp ?_ ps_retN
  rintro D σ H ⟨off, w, env, rfl, ok, re, sat⟩
  exact sat w (.refl w) ok rfl .non (by simp only [Rep])
theorem s_pass : PS X (.Pass pos) (tS S X.K Wh fun env => retS (.nx env)) := by
  refine PS.imp ?_ ps_pass
  rintro D σ H ⟨off, w, env, rfl, ok, re, sat⟩
  exact sat.now ok σ re
theorem s_brk : PS X (.Break pos) (tS S X.K Wh fun env => retS (.bk env)) := by
  refine PS.imp ?_ ps_break
  rintro D σ H ⟨off, w, env, rfl, ok, re, sat⟩
  exact sat w (.refl w) ok rfl σ re
theorem s_cnt : PS X (.Continue pos) (tS S X.K Wh fun env => retS (.ct env)) := by
  refine PS.imp ?_ ps_continue
  rintro D σ H ⟨off, w, env, rfl, ok, re, sat⟩
  exact sat w (.refl w) ok rfl σ re
theorem ss_nil : PSs X [] (tS S X.K Wh fun env => retS (.nx env)) := by
  refine PSs.imp ?_ pss_nil
  rintro D σ H ⟨off, w, env, rfl, ok, re, sat⟩
  exact sat.now ok σ re
theorem ss_cons {st : Stmt} {rest : List Stmt} {f g : Env → MS} (h1 : PS X st (tS S X.K Wh f)) (h2 : PSs X rest (tS S X.K Wh g)) : PSs X (st :: rest) (tS S X.K Wh fun env => thenS (f env) g) := by
  refine PSs.imp ?_ (pss_cons h1 h2)
  rintro D σ H ⟨off, w, env, rfl, ok, re, sat⟩
  refine ⟨off, w, env, rfl, ok, re, SatS.imp (SatS.nxt (r := .no) sat) (fun e w' l o q σ' r' => ?_) (fun _ _ _ _ q => q) (fun _ _ _ _ q => q) (fun _ _ _ _ q => q) fun _ _ _ _ _ q => q⟩
  exact ⟨off, w', e, rfl, o, r', q⟩
theorem s_if {c : Expr} {a b : List Stmt} {f g : Env → MS} (hc : PT X c (tDT S X.K Wh p)) (ha : PSs X a (tS S X.K Wh f)) (hb : PSs X b (tS S X.K Wh g)) :
    PS X (.If c a b pos) (tS S X.K Wh fun env => onE (bnd (ev S.C S.sub p env) fun x => lft (truth x)) env fun c => if c then f env else g env) := by
  refine PS.imp ?_ (ps_if hc ha hb)
  rintro D σ H ⟨off, w, env, rfl, ok, re, sat⟩
  refine onE_T ok re sat fun t w' l o r q => ?_
  cases t with
  | true => exact ⟨off, w', env, rfl, o, r, q⟩
  | false => exact ⟨off, w', env, rfl, o, r, q⟩
end
end AB

set_option Elab.async false
set_option linter.all false
set_option autoImplicit false
set_option maxRecDepth 100000
/-! AnyU: stores, loops. -/
namespace AB
open PySem PySem.Spec L2 PyProof.Rows

theorem pls_set : ∀ {xs : List D} {j : Nat} {d : D}, D.pls xs = true → d.pl = true → D.pls (xs.set j d) = true
  | [], _, _, h, _ => h
  | x :: xs, 0, d, h, q => by
    simp only [D.pls, Bool.and_eq_true] at h
    simp only [List.set_cons_zero, D.pls, q, h.2, Bool.and_self]
  | x :: xs, j + 1, d, h, q => by
    simp only [D.pls, Bool.and_eq_true] at h
    simp only [List.set_cons_succ, D.pls, h.1, pls_set h.2 q, Bool.and_self]
theorem pls_snoc : ∀ {xs : List D} {d : D}, D.pls xs = true → d.pl = true → D.pls (xs ++ [d]) = true
  | [], d, h, q => by simp only [List.nil_append, D.pls, q, Bool.and_self]
  | x :: xs, d, h, q => by
    simp only [D.pls, Bool.and_eq_true] at h
    simp only [List.cons_append, D.pls, h.1, pls_snoc h.2 q, Bool.and_self]
theorem subA_ok {o i : Expr} {pos : Pos} {env : PySem.Env} (h : plainIx i = true) (v : Value) : assign (.Subscript o i pos) env v = (do
      let ov ← holding [v] (eval o env)
      let iv ← holding [v, ov] (eval i env)
      standAt pos
      holding [v, ov, iv] (setItem ov iv v)
      release [v, ov, iv] []) := by
  cases i <;> first | rfl | exact nomatch h
section
variable {X : Cx} {S : Sg} {Wh : WX} {pos : Pos} {e : Expr} {p : E}
/-- x = [..] on its own line -/
theorem s_own {st : Stmt} {i : Nat} {wi : TE} (h : PS X st (tAsg wi (gName i))) (hp : ∀ σ H Q, tD S X.K Wh p σ H Q → wi σ H Q) : PS X st (tS S X.K Wh fun env => onE (ev S.C S.sub p env) env fun d => match asg (.n i) d env with
      | some env' => retS (.nx env')
      | none => nonS) := by
  refine PS.imp ?_ h
  rintro D σ H ⟨off, w, env, rfl, ok, re, sat⟩
  refine hp _ _ _ (onE_D ok re sat fun d w' l o r q v rv => ?_)
  simp only [asg] at q
  exact q.now o _ (r.set rv)
/-- a, b = x, y -/
theorem s_par {st : Stmt} {i j : Nat} {ta : TA} {es : Es} (h : PS X st (tPar i j ta)) (hp : ∀ σ H Q, tDs S X.K Wh es σ H Q → ta σ H Q) : PS X st (tS S X.K Wh fun env => onE (ev S.C S.sub (.tup es) env) env fun d => match asg (.t (.cons (.n i) (.cons (.n j) .nil))) d env with
      | some env' => retS (.nx env')
      | none => nonS) := by
  refine PS.imp ?_ h
  rintro D σ H ⟨off, w, env, rfl, ok, re, sat⟩
  have s1 := sat.onE
  simp only [ev] at s1
  refine hp _ _ _ ⟨off, w, env, rfl, ok, re, s1.bnd.impx (fun ds w' l o q vs rs => ?_) fun x w' l o q => q σ (re.mono ok l)⟩
  have q := q.ret o
  have r := re.mono ok l
  cases ds with
  | nil => exact q.elim
  | cons d1 ds =>
    cases ds with
    | nil => exact q.elim
    | cons d2 ds =>
      cases ds with
      | nil =>
        simp only [Reps] at rs
        obtain ⟨v1, r1, rfl, h1, v2, r2, rfl, h2, rfl⟩ := rs
        exact ⟨v1, v2, rfl, SatS.now q o _ ((r.set h1).set h2)⟩
      | cons d3 ds => exact q.elim
theorem s_par3 {st : Stmt} {i j l : Nat} {ta : TA} {es : Es} (h : PS X st (tPar3 i j l ta)) (hp : ∀ σ H Q, tDs S X.K Wh es σ H Q → ta σ H Q) : PS X st (tS S X.K Wh fun env => onE (ev S.C S.sub (.tup es) env) env fun d => match asg (.t (.cons (.n i) (.cons (.n j) (.cons (.n l) .nil)))) d env with
      | some env' => retS (.nx env')
      | none => nonS) := by
  refine PS.imp ?_ h
  rintro D σ H ⟨off, w, env, rfl, ok, re, sat⟩
  have s1 := sat.onE
  simp only [ev] at s1
  refine hp _ _ _ ⟨off, w, env, rfl, ok, re, s1.bnd.impx (fun ds w' l o q vs rs => ?_) fun x w' l o q => q σ (re.mono ok l)⟩
  have q := q.ret o
  have r := re.mono ok l
  cases ds with
  | nil => exact q.elim
  | cons d1 ds =>
    cases ds with
    | nil => exact q.elim
    | cons d2 ds =>
      cases ds with
      | nil => exact q.elim
      | cons d3 ds =>
        cases ds with
        | nil =>
          simp only [Reps] at rs
          obtain ⟨v1, r1, rfl, h1, v2, r2, rfl, h2, v3, r3, rfl, h3, rfl⟩ := rs
          exact ⟨v1, v2, v3, rfl, SatS.now q o _ (((r.set h1).set h2).set h3)⟩
        | cons d4 ds => exact q.elim
/-- o[i] = e -/
theorem s_seti {o i : Expr} {po pi : E} {p2 : Pos} (he : PE X e (tD S X.K Wh p)) (ho : PE X o (tD S X.K Wh po)) (hi : PE X i (tD S X.K Wh pi)) (hx : plainIx i = true) (hs : swapsWithSole [.Subscript o i p2] e pos.line X.env = pure false) (hw : swappedStores [.Subscript o i p2] e X.env = pure none) :
    PS X (.Assign [.Subscript o i p2] e pos) (tS S X.K Wh fun env => onE (bnd (ev S.C S.sub p env) fun d => bnd (ev S.C S.sub po env) fun x => bnd (ev S.C S.sub pi env) fun y => setiM x y d) env fun _ => retS (.nx env)) := by
  refine PS.imp ?_ (ps_asg he (pg_sub ho hi set_list (subA_ok hx)) hs hw rfl)
  rintro D σ H ⟨off, w, env, rfl, ok, re, sat⟩
  have s1 := sat.onE
  refine ⟨off, w, env, rfl, ok, re, s1.bnd.impx (fun d w1 l1 o1 q1 v rv _ => ?_) fun x w' l o q => q σ (re.mono ok l)⟩
  have re1 := re.mono ok l1
  refine ⟨off, w1, env, rfl, o1, re1, q1.bnd.impx (fun x w2 l2 o2 q2 ov ro _ => ?_) fun x w' l o q => q σ (re1.mono o1 l)⟩
  have re2 := re1.mono o1 l2
  have rv2 := Rep.mono o1 l2 _ _ rv
  refine ⟨off, w2, env, rfl, o2, re2, q2.bnd.impx (fun y w3 l3 o3 q3 iv ri _ => ?_) fun x w' l o q => q σ (re2.mono o2 l)⟩
  have re3 := re2.mono o2 l3
  have rv3 := Rep.mono o2 l3 _ _ rv2
  have ro3 := Rep.mono o2 l3 _ _ ro
  unfold setiM at q3
  cases x with
  | ref n =>
    cases y with
    | int k =>
      simp only at q3
      simp only [Rep] at ri ro3
      obtain ⟨a, rfl, e2⟩ := ro3
      subst ri
      cases z : w3.st[n]? with
      | none => rw [z] at q3; exact q3.elim
      | some c =>
        rw [z] at q3
        cases c with
        | lst xs =>
          simp only at q3
          obtain ⟨vs, h1, h2⟩ := o3.lst n xs a z e2
          cases zz : ixN xs.length k with
          | none => rw [zz] at q3; exact q3.elim
          | some j =>
            rw [zz] at q3
            simp only at q3
            split at q3
            case isFalse => exact q3.elim
            rename_i hpl
            obtain ⟨l4, o4⟩ := o3.cell z e2 (Reps.set j h2 rv3) (pls_set (o3.pur n xs z) hpl)
            refine ⟨a, vs, k, j, rfl, rfl, h1, by rw [← h2.length]; exact zz, ?_⟩
            exact (q3 _ l4 o4 rfl).now o4 σ (re3.mono o3 l4)
        | _ => exact q3.elim
    | _ => exact q3.elim
  | _ => exact q3.elim
/-- o.append(e) -/
theorem s_app {o : Expr} {po : E} {p2 p3 : Pos} (ho : PE X o (tD S X.K Wh po)) (he : PE X e (tD S X.K Wh p)) (st : strd e = false)
    (hb : attributeBase o "append" X.env (eval o X.env) = eval o X.env) (hl : (p2.endLine == p3.line) = true) :
    PS X (.Expr (.Call (.Attribute o "append" p2) [e] [] p3) pos) (tS S X.K Wh fun env => onE (bnd (ev S.C S.sub po env) fun x => bnd (isLM x) fun _ => bnd (ev S.C S.sub p env) fun d => appM x d) env fun _ => retS (.nx env)) := by
  have hst := star_cons (env := X.env) (es := []) st
  have P := ps_expr (pos := pos) (pe_bm (X := X) (cpos := p3) (apos := p2) PySem.F.plainAttrs_list PySem.F.slot_list_append PySem.F.type_list_append mt_append ho (pa_cons he pa_nil hst) hb (by rw [hst]; rfl) hl hst (by rfl))
  refine PS.imp ?_ P
  rintro D σ H ⟨off, w, env, rfl, ok, re, sat⟩
  have s1 := sat.onE
  refine ⟨off, w, env, rfl, ok, re, s1.bnd.impx (fun x w1 l1 o1 q1 ov ro _ => ?_) fun x w' l o q => q σ (re.mono ok l)⟩
  have re1 := re.mono ok l1
  have q1 := q1.bnd
  unfold isLM at q1
  cases x with
  | ref n =>
    simp only at q1
    simp only [Rep] at ro
    obtain ⟨a, rfl, e2⟩ := ro
    cases z : w1.st[n]? with
    | none => rw [z] at q1; exact q1.elim
    | some c =>
      rw [z] at q1
      cases c with
      | lst xs =>
        have q1 := q1 w1 (.refl w1) o1 rfl
        obtain ⟨vs, h1, _⟩ := o1.lst n xs a z e2
        refine ⟨.inl ⟨rfl, vs, SqL.of h1⟩, ?_⟩
        refine ⟨off, w1, env, rfl, o1, re1, q1.bnd.impx (fun d w2 l2 o2 q2 v rv _ => ?_) fun x w' l o q => q σ (re1.mono o1 l)⟩
        have re2 := re1.mono o1 l2
        have e3 := l2.am e2
        unfold appM at q2
        simp only at q2
        cases z2 : w2.st[n]? with
        | none => rw [z2] at q2; exact q2.elim
        | some c2 =>
          rw [z2] at q2
          cases c2 with
          | lst ys =>
            simp only at q2
            obtain ⟨us, h2, h3⟩ := o2.lst n ys a z2 e3
            split at q2
            · rename_i hz
              obtain ⟨l4, o4⟩ := o2.cell z2 e3 (h3.append (.cons rv .nil)) (pls_snoc (o2.pur n ys z2) hz.2)
              refine ⟨a, us, v, rfl, rfl, h2, by rw [← h3.length, ← szLine_eq]; exact hz.1, ?_⟩
              exact (q2 _ l4 o4 rfl).now o4 σ (re2.mono o2 l4)
            · exact q2.elim
          | _ => exact q2.elim
      | _ => exact q1.elim
  | _ => exact q1.elim
end
end AB

set_option Elab.async false
set_option linter.all false
set_option autoImplicit false
set_option maxRecDepth 100000
/-! AnyV: loops, a list's end as a changing one. -/
namespace AB
open PySem PySem.Spec L2 PyProof.Rows

section
variable {K : PySem.W.Frag} {off : Addr → Prop} {w : Wd}
/-- one turn's ends -/
theorem SatS.turn {d : D} {rest : List D} {F : D → Env → MS} {A : Aft} {env : Env} (h : SatS K off w (forS F (d :: rest) env w.st) A) :
    SatS K off w (F d env w.st) { nx := fun e w' => SatS K off w' (forS F rest e w'.st) A, rt := A.rt, bk := A.nx, ct := fun e w' => SatS K off w' (forS F rest e w'.st) A, ex := A.ex } := by
  unfold forS at h
  cases q : F d env w.st with
  | no => rw [q] at h; exact h
  | ex x e st => rw [q] at h; exact h
  | ok fl st =>
    rw [q] at h
    cases fl with
    | nx e => intro w1 l1 o1 e1; subst e1; exact h.from l1
    | ct e => intro w1 l1 o1 e1; subst e1; exact h.from l1
    | bk e => exact h
    | rt e => exact h
end
section
variable {X : Cx} {S : Sg} {Wh : WX} {pos : Pos} {e : Expr} {p : E}
theorem s_for {tg iter : Expr} {body : List Stmt} {t : T} {it : I} {g : Env → MS} (hp : PassesOwn (model X.prog X.w) X.A X.env X.xe) (hc : X.calm = true) (hi : PI X tg iter (iD S X.K Wh it)) (hg : PG X tg (gD X.K t)) (hb : PSs X body (tS S X.K Wh g))
    (hs : ∀ x, foldedSetIterable iter X.env x = pure x) : PS X (.For tg iter body [] pos) (tS S X.K Wh fun env => onE (its S.C S.sub it env) env fun xs => forS (fun x env1 => match asg t x env1 with
      | some env2 => g env2
      | none => nonS) xs env) := by
  refine PS.imp ?_ (ps_for hp hc hi hg hb hs)
  rintro D σ H ⟨off, w, env, rfl, ok, re, sat⟩
  refine ⟨off, w, env, rfl, ok, re, sat.onE.impx (fun xs w1 l1 o1 q1 J hJ => ?_) fun x w' l o q => q σ (re.mono ok l)⟩
  obtain ⟨G, Y, W, hG, hY⟩ := hJ
  refine for_it W (fun i σ H => ∃ (w2 : Wd) (env2 : Env), w2.H = H ∧ Le w1 w2 ∧ OkW X.K off w2 ∧ REnv X.K off w2 env2 σ ∧ SatS X.K off w2 (forS (fun x env1 => match asg t x env1 with
      | some env2 => g env2
      | none => nonS) (xs.drop i) env2 w2.st) (aft X.K off S Wh D)) ?_ ?_ ?_ ?_
  · exact ⟨w1, env, rfl, .refl _, o1, re.mono ok l1, by simpa using q1⟩
  · rintro i σ H _ ⟨w2, env2, rfl, l, _⟩
    exact hG w2 l.toLeW
  · rintro i x σ H H' hi ⟨w2, env2, rfl, l2, o2, r2, sat2⟩ y
    obtain ⟨d, hd, hr⟩ := hY i _ x H' hi y
    obtain ⟨w3, rfl, e3, l3, o3, rx⟩ := itm_step0 o1.nlv o2 l2.toLeW hr
    have e4 : xs.drop i = d :: xs.drop (i + 1) := by
      obtain ⟨hl, he⟩ := List.getElem?_eq_some_iff.mp hd
      rw [List.drop_eq_getElem_cons hl, he]
    rw [e4, ← e3] at sat2
    have sat3 := (sat2.from l3).turn
    have r3 := r2.mono o2 l3
    cases z : asg t d env2 with
    | none => rw [z] at sat3; exact sat3.elim
    | some env3 =>
      rw [z] at sat3
      refine ⟨off, w3, env2, d, env3, rfl, o3, r3, rx, z, fun σ4 r4 _ => ⟨off, w3, env3, rfl, o3, r4, ?_⟩⟩
      have go : ∀ e w', Le w3 w' → OkW X.K off w' → SatS X.K off w' (forS (fun x env1 => match asg t x env1 with
          | some env2 => g env2
          | none => nonS) (xs.drop (i + 1)) e w'.st) (aft X.K off S Wh D) → ∀ σ, REnv X.K off w' e σ → ∃ (w2 : Wd) (env2 : Env), w2.H = w'.H ∧ Le w1 w2 ∧ OkW X.K off w2 ∧ REnv X.K off w2 env2 σ ∧ SatS X.K off w2 (forS (fun x env1 => match asg t x env1 with
          | some env2 => g env2
          | none => nonS) (xs.drop (i + 1)) env2 w2.st) (aft X.K off S Wh D) := fun e w' l o q σ r => ⟨w', e, rfl, (l2.trans l3).trans l, o, r, q⟩
      exact sat3.imp go (fun _ _ _ _ q => q) (fun _ _ _ _ q => q) go fun _ _ _ _ _ q => q
  · rintro σ H ⟨w2, env2, rfl, l2, o2, r2, sat2⟩
    rw [List.drop_length] at sat2
    exact SatS.now sat2 o2 σ r2
theorem s_whl {c : Expr} {body : List Stmt} {n : Nat} {g : Env → MS} (hp : PassesOwn (model X.prog X.w) X.A X.env X.xe) (hc : PT X c (tDT S X.K Wh p)) (hb : PSs X body (tS S X.K Wh g)) :
    PS X (.While c body [] pos) (tS S X.K Wh fun env => whlS (ev S.C S.sub p) g n env) := by
  refine PS.imp ?_ (ps_while hp hc hb)
  rintro D σ H ⟨off, w, env, rfl, ok, re, sat⟩
  refine ⟨fun m σ H => ∃ (w2 : Wd) (env2 : Env), w2.H = H ∧ OkW X.K off w2 ∧ REnv X.K off w2 env2 σ ∧ SatS X.K off w2 (whlS (ev S.C S.sub p) g m env2 w2.st) (aft X.K off S Wh D), ⟨n, w, env, rfl, ok, re, sat⟩, ?_⟩
  rintro m σ H ⟨w2, env2, rfl, o2, r2, sat2⟩
  cases m with
  | zero => exact sat2.elim
  | succ m =>
    unfold whlS at sat2
    refine onE_T o2 r2 sat2 fun b w3 l3 o3 r3 q3 => ?_
    cases b with
    | false => exact SatS.now q3 o3 σ r3
    | true =>
      have sat4 : SatS X.K off w3 (g env2 w3.st) { nx := fun e w' => SatS X.K off w' (whlS (ev S.C S.sub p) g m e w'.st) (aft X.K off S Wh D), rt := (aft X.K off S Wh D).rt, bk := (aft X.K off S Wh D).nx, ct := fun e w' => SatS X.K off w' (whlS (ev S.C S.sub p) g m e w'.st) (aft X.K off S Wh D), ex := (aft X.K off S Wh D).ex } := by
        simp only [if_true] at q3
        cases q : g env2 w3.st with
        | no => rw [q] at q3; exact q3
        | ex x e st => rw [q] at q3; exact q3
        | ok fl st =>
          rw [q] at q3
          cases fl with
          | nx e => intro w1 l1 o1 e1; subst e1; exact q3.from l1
          | ct e => intro w1 l1 o1 e1; subst e1; exact q3.from l1
          | bk e => exact q3
          | rt e => exact q3
      refine (if_pos rfl).mpr ?_
      refine ⟨fun σ H => ∃ (w2 : Wd) (env2 : Env), w2.H = H ∧ OkW X.K off w2 ∧ REnv X.K off w2 env2 σ ∧ SatS X.K off w2 (whlS (ev S.C S.sub p) g m env2 w2.st) (aft X.K off S Wh D), fun σ' H' q => ⟨m, Nat.lt_succ_self m, q⟩, ?_⟩
      refine ⟨off, w3, env2, rfl, o3, r3, sat4.imp (fun e w' l o q σ r => ⟨w', e, rfl, o, r, q⟩) (fun _ _ _ _ q => q) (fun _ _ _ _ q => q) (fun e w' l o q σ r => ⟨w', e, rfl, o, r, q⟩) fun _ _ _ _ _ q => q⟩
theorem s_frz {st : Stmt} {i : Nat} {f : Env → MS} (h : PS X st (tS S X.K Wh f)) : PS X st (tS S X.K Wh fun env => frzE i env f) := by
  refine PS.imp ?_ h
  rintro D σ H ⟨off, w, env, rfl, ok, re, sat⟩
  unfold frzE at sat
  simp only at sat
  cases z : env[i]? with
  | none => rw [z] at sat; exact sat.elim
  | some o =>
    rw [z] at sat
    cases o with
    | none => exact sat.elim
    | some d =>
      cases d with
      | ref n =>
        simp only at sat
        cases z2 : w.st[n]? with
        | none => rw [z2] at sat; exact sat.elim
        | some c =>
          rw [z2] at sat
          cases c with
          | lst xs =>
            simp only at sat
            obtain ⟨v, e1, rv⟩ := re.2 i _ z
            simp only [Rep] at rv
            obtain ⟨a, rfl, e2⟩ := rv
            obtain ⟨l, o, r⟩ := ok.gone z2 e2
            have r2 := (re.mono ok l).set r (i := i)
            have e5 : σ.set i (some (.ref a)) = σ := by
              refine List.ext_getElem? fun j => ?_
              by_cases q : i = j
              · subst q
                have hl := (List.getElem?_eq_some_iff.mp e1).1
                rw [List.getElem?_set_self hl, e1]
              · rw [List.getElem?_set_ne q]
            rw [e5] at r2
            exact ⟨off, { w with st := w.st.set n .dead }, env.set i (some (.lst xs)), rfl, o, r2, SatS.from l sat⟩
          | _ => exact sat.elim
      | _ => exact sat.elim
end
end AB

set_option Elab.async false
set_option linter.all false
set_option autoImplicit false
set_option maxRecDepth 100000
/-! AnyX: does a statement agree; if so, its rule. -/
namespace AB
open PySem PySem.Spec L2 PyProof.Rows

def bkS (sc : Scope) : ScopeKind := if sc.kind.isAnnotationScope then .function else sc.kind
def swB (sc : Scope) (t : Str) (tp : Pos) (s : Scope) (vp : Pos) : Bool :=
  bkS sc == .function && sc.names.lookup t == some .local && tp.line == vp.line && !(s.names.any fun (n, k) => n == t && (k == .local || k == .cell))
theorem swB_ok {e : Expr} {g : List Comprehension} {s : Scope} {p tp : Pos} {t : Str} {line : Nat} {env : PySem.Env} : swapsWith (.ListComp e g s p) (some (.Name t tp)) line env = pure (swB env.scope t tp s p) := rfl
def isComp : Expr → Bool
  | .ListComp _ _ _ _ => true
  | .SetComp _ _ _ _ => true
  | .DictComp _ _ _ _ _ => true
  | _ => false
theorem notComp_ok {e : Expr} {o : Option Expr} {line : Nat} {env : PySem.Env} (h : isComp e = false) : swapsWith e o line env = pure false := by
  cases e <;> first | rfl | exact nomatch h
/-- the stores of a, b = x, y: none where the model stops -/
def swT (sc : Scope) (ts vs : List Expr) : Option (Option (List Str)) :=
  if (!(ts.length == 2 || ts.length == 3) || vs.length != ts.length || bkS sc != .function) = true then some none
  else if (vs.any fun | .Starred .. => true | _ => false) = true then some none
  else if ((ts.filterMap fun
      | .Name id pos => if (sc.names.lookup id == some .local && pos.line == (ts.head?.map (·.pos.line)).getD 0) = true then some id else none
      | _ => none).length != ts.length || (ts.filterMap fun
      | .Name id pos => if (sc.names.lookup id == some .local && pos.line == (ts.head?.map (·.pos.line)).getD 0) = true then some id else none
      | _ => none).eraseDups.length != (ts.filterMap fun
      | .Name id pos => if (sc.names.lookup id == some .local && pos.line == (ts.head?.map (·.pos.line)).getD 0) = true then some id else none
      | _ => none).length) = true then some none
  else if (vs.all (foldedForSure 8)) = true then some none
  else if (vs.all (constantsAlone 8)) = true then none
  else some (some (ts.filterMap fun
      | .Name id pos => if (sc.names.lookup id == some .local && pos.line == (ts.head?.map (·.pos.line)).getD 0) = true then some id else none
      | _ => none))
theorem swT_ok {ts vs : List Expr} {k k2 : Nat} {p p2 : Pos} {env : PySem.Env} {r : Option (List Str)} (h : swT env.scope ts vs = some r) : swappedStores [.Tuple ts k p] (.Tuple vs k2 p2) env = pure r := by
  unfold swT at h
  show (if (!(ts.length == 2 || ts.length == 3) || vs.length != ts.length || bkS env.scope != .function) = true then _ else _) = _
  by_cases c1 : (!(ts.length == 2 || ts.length == 3) || vs.length != ts.length || bkS env.scope != .function) = true
  · rw [if_pos c1] at h ⊢
    cases h; rfl
  rw [if_neg c1] at h ⊢
  show (if (vs.any fun | .Starred .. => true | _ => false) = true then _ else _) = _
  by_cases c2 : (vs.any fun | .Starred .. => true | _ => false) = true
  · rw [if_pos c2] at h ⊢
    cases h; rfl
  rw [if_neg c2] at h ⊢
  show (if ((ts.filterMap fun
      | .Name id pos => if (env.scope.names.lookup id == some .local && pos.line == (ts.head?.map (·.pos.line)).getD 0) = true then some id else none
      | _ => none).length != ts.length || (ts.filterMap fun
      | .Name id pos => if (env.scope.names.lookup id == some .local && pos.line == (ts.head?.map (·.pos.line)).getD 0) = true then some id else none
      | _ => none).eraseDups.length != (ts.filterMap fun
      | .Name id pos => if (env.scope.names.lookup id == some .local && pos.line == (ts.head?.map (·.pos.line)).getD 0) = true then some id else none
      | _ => none).length) = true then _ else _) = _
  generalize hnm : (ts.filterMap fun
      | .Name id pos => if (env.scope.names.lookup id == some .local && pos.line == (ts.head?.map (·.pos.line)).getD 0) = true then some id else none
      | _ => none) = nm at h ⊢
  by_cases c3 : (nm.length != ts.length || nm.eraseDups.length != nm.length) = true
  · rw [if_pos c3] at h ⊢
    cases h; rfl
  rw [if_neg c3] at h ⊢
  show (if (vs.all (foldedForSure 8)) = true then _ else _) = _
  by_cases c4 : (vs.all (foldedForSure 8)) = true
  · rw [if_pos c4] at h ⊢
    cases h; rfl
  rw [if_neg c4] at h ⊢
  show (if (vs.all (constantsAlone 8)) = true then _ else _) = _
  by_cases c5 : (vs.all (constantsAlone 8)) = true
  · rw [if_pos c5] at h
    cases h
  rw [if_neg c5] at h ⊢
  cases h
  subst hnm
  rfl
theorem sole {t v : Expr} {l : Nat} {env : PySem.Env} : swapsWithSole [t] v l env = swapsWith v (some t) l env := by
  first | rfl | simp only [swapsWithSole] | (unfold swapsWithSole; rfl)
/-- an assignment's own conditions, of the plain kind -/
def plainSt (sc : Scope) : Expr → Expr → Bool
  | .Tuple ts _ _, .Tuple vs _ _ => decide (swT sc ts vs = some none)
  | .Tuple _ _ _, _ => true
  | .Name t tp, .ListComp _ _ s p => !swB sc t tp s p
  | .Name _ _, e => !isComp e
  | .Subscript _ _ _, e => !isComp e
  | _, _ => false
theorem plainSt_ok {tg e : Expr} {line : Nat} {env : PySem.Env} (h : plainSt env.scope tg e = true) : swapsWithSole [tg] e line env = pure false ∧ swappedStores [tg] e env = pure none ∧ (assignEach [tg] env).map (·.2) = [assign tg env] := by
  unfold plainSt at h
  split at h
  · simp only [decide_eq_true_eq] at h
    exact ⟨rfl, swT_ok h, rfl⟩
  · rename_i hne
    refine ⟨?_, ?_, rfl⟩
    · rw [sole]; cases e <;> rfl
    · cases e <;> first | rfl | exact (hne _ _ _ rfl).elim
  · rename_i t tp a b s p
    simp only [Bool.not_eq_true'] at h
    refine ⟨?_, rfl, rfl⟩
    rw [sole, swB_ok, h]
  · rename_i hne
    simp only [Bool.not_eq_true'] at h
    exact ⟨sole.trans (notComp_ok h), by first | rfl | (rename_i e _; cases e <;> rfl), rfl⟩
  · simp only [Bool.not_eq_true'] at h
    exact ⟨sole.trans (notComp_ok h), by first | rfl | (rename_i e; cases e <;> rfl), rfl⟩
  · exact nomatch h
/-- what a block of statements needs beyond -/
structure CxS (S : Sg) (k : Nat) (C : Ck) (Wh : WX) (X : Cx) : Prop extends CxOk S k C Wh X where
  own : PassesOwn (model X.prog X.w) X.A X.env X.xe
  tk : L2.Takes X Wh
  mke : ∀ x c, C.gt.lookup x = some (.cls c) → ∀ (m : Str) (j : Nat) (p p2 pos : Pos), Gl X x → (x == ("__debug__" : Str)) = false → L2.PMk X (.Call (.Name x p) [.Constant (.str m) j p2] [] pos) (fun _ H Q => Q (S.cv c) none H)
def Ck.loc (C : Ck) (x : Str) (i : Nat) : Bool := decide (C.N[i]? = some x) && decide (C.sc.names.lookup x = some .local)
mutual
def chkS (C : Ck) : S → Stmt → Bool
  | .ex e, .Expr x _ => !isComp x && chkE C e x
  | .set m t e, .Assign [tg] x _ => match m with
    | 0 => chkT C t tg && chkE C e x && plainSt C.sc tg x
    | 1 => (match t, tg, x with
      | .n i, .Name y tp, .ListComp _ _ s p => C.loc y i && swB C.sc y tp s p && chkE C e x
      | _, _, _ => false)
    | 2 => (match t, e, tg, x with
      | .t (.cons (.n i) (.cons (.n j) .nil)), .tup es, .Tuple [.Name y yp, .Name z zp] _ _, .Tuple [a, b] _ _ =>
        C.loc y i && C.loc z j && decide (i ≠ j) && decide (swT C.sc [.Name y yp, .Name z zp] [a, b] = some (some [y, z])) && chkEs C es [a, b] && noStar [a, b]
      | _, _, _, _ => false)
    | 3 => (match t, e, tg, x with
      | .t (.cons (.n i) (.cons (.n j) (.cons (.n l) .nil))), .tup es, .Tuple [.Name y yp, .Name z zp, .Name u up] _ _, .Tuple [a, b, c] _ _ =>
        C.loc y i && C.loc z j && C.loc u l && decide (i ≠ j) && decide (i ≠ l) && decide (j ≠ l) && decide (swT C.sc [.Name y yp, .Name z zp, .Name u up] [a, b, c] = some (some [y, z, u])) && chkEs C es [a, b, c] && noStar [a, b, c]
      | _, _, _, _ => false)
    | _ => false
  | .seti o i e, .Assign [.Subscript xo xi _] x _ => chkE C o xo && chkE C i xi && chkE C e x && plainIx xi && !isComp x
  | .app o e, .Expr (.Call (.Attribute (.Name y p1) a p2) [x] [] p3) _ => decide (a = "append") && chkE C o (.Name y p1) && chkE C e x && !strd x && (p2.endLine == p3.line)
  | .iff t a b, .If x xa xb _ => chkE C t x && chkSs C a xa && chkSs C b xb
  | .forr t it b, .For tg iter body [] _ => chkT C t tg && chkI C it tg iter && notSet iter && chkSs C b body
  | .whl t b, .While x body [] _ => chkE C t x && chkSs C b body
  | .rt e, .Return (some x) _ => chkE C e x
  | .rtn, .Return none _ => true
  | .raise c, .Raise (some (.Call (.Name x _) [.Constant (.str _) _ _] [] _)) none _ => C.gl x && (match C.gt.lookup x with
    | some (.cls d) => decide (c = d)
    | _ => false)
  | .brk, .Break _ => true
  | .cnt, .Continue _ => true
  | .pass, .Pass _ => true
  | .frz _ s, x => chkS C s x
  | _, _ => false
def chkSs (C : Ck) : Ss → List Stmt → Bool
  | .nil, [] => true
  | .cons s ss, x :: xs => chkS C s x && chkSs C ss xs
  | _, _ => false
end
theorem loc_ok {S : Sg} {k : Nat} {C : Ck} {Wh : WX} {X : Cx} (O : CxOk S k C Wh X) {x : Str} {i : Nat} (h : C.loc x i = true) : X.N[i]? = some x ∧ X.env.scope.names.lookup x = some .local := by
  simp only [Ck.loc, Bool.and_eq_true, decide_eq_true_eq] at h
  exact ⟨by rw [O.hN]; exact h.1, by rw [O.sc]; exact h.2⟩
/-- a comprehension's parts -/
theorem comp_own {S : Sg} {k : Nat} {C : Ck} {Wh : WX} {X : Cx} (O : CxOk S k C Wh X) {p : E} {x : Expr} {g : List Comprehension} {s : Scope} {pp : Pos} {i : Nat} {y : Str} {yp spos : Pos} (h : chkE C p (.ListComp x g s pp) = true) (hf : ∀ d, p ≠ .c d) (hn : ∀ e, p ≠ .new e)
    (hy : X.N[i]? = some y) (hyl : X.env.scope.names.lookup y = some .local) (hw : swapsWith (.ListComp x g s pp) (some (.Name y yp)) spos.line X.env = pure true) :
    ∃ wi, PS X (.Assign [.Name y yp] (.ListComp x g s pp) spos) (tAsg wi (gName i)) ∧ ∀ σ H Q, tD S X.K Wh p σ H Q → wi σ H Q := by
  have no : ∀ {q : E}, (chkE C q (.ListComp x g s pp) = false) → q = p → False := fun e1 e2 => by
    subst e2
    rw [h] at e1
    exact Bool.noConfusion e1
  cases p
  case c d => exact absurd rfl (hf d)
  case new d => exact absurd rfl (hn d)
  case comp elt tg it cond own =>
    cases g with
    | nil => exact (no (q := .comp elt tg it cond own) rfl rfl).elim
    | cons g0 g =>
      cases g with
      | cons g1 _ =>
        obtain ⟨a1, a2, a3, a4⟩ := g0
        exact (no (q := .comp elt tg it cond own) rfl rfl).elim
      | nil =>
        obtain ⟨gt, z, ifs, n⟩ := g0
        unfold chkE at h
        simp only [Bool.and_eq_true, decide_eq_true_eq] at h
        obtain ⟨⟨⟨⟨⟨⟨⟨rfl, h1⟩, h2⟩, h3⟩, h4⟩, h5⟩, h6⟩, h7⟩ := h
        have B : BlkOk X.N X.env.scope s (ownL C.N own) := by rw [O.hN, O.sc]; exact blkB_ok h1
        have ht : ∀ (s1 : Shared) (H : Hp) (A : Addr) (cl : List (Str × Addr)) (fp : List Addr), PTs (X.blk s1 H s (compEnvC s cl A X.env) fp) ifs (tDT S X.K WF cond) := fun s1 H A cl fp => by
          have O' : CxOk S k (C.blk s) WF (X.blk s1 H s (compEnvC s cl A X.env) fp) := O.blk
          cases ifs with
          | nil => rw [isTrueE_ok h6]; exact pts_yes (X := X.blk s1 H s (compEnvC s cl A X.env) fp)
          | cons c r =>
            cases r with
            | nil => exact pts_one (chkE_ok cond _ c h6 S k WF _ O').t
            | cons _ _ => exact nomatch h6
        have P := ps_setLc (i := i) (y := y) (py := yp) (pos := pp) (spos := spos) (g := gD X.K tg) (tt := tDT S X.K WF cond) (te := tD S X.K WF elt) O.calm O.nd hy hyl hw (chkI_ok it C gt z h3 S k Wh X O) B (fun s1 H A cl fp => chkT_ok tg gt _ h5 S k WF (X.blk s1 H s (compEnvC s cl A X.env) fp) O.blk) ht
          (fun s1 H A cl fp => (chkE_ok elt _ x h7 S k WF (X.blk s1 H s (compEnvC s cl A X.env) fp) O.blk).v) (notSet_ok h4 X.env)
        rw [ownL_ix] at P
        exact ⟨_, P, fun σ H Q q => lcD (sub_ok h2) q⟩
  case comp2 elt tg it cond tg1 it1 cond1 own own1 =>
    cases g with
    | nil => exact (no (q := .comp2 elt tg it cond tg1 it1 cond1 own own1) rfl rfl).elim
    | cons g0 g =>
      cases g with
      | nil =>
        obtain ⟨a1, a2, a3, a4⟩ := g0
        exact (no (q := .comp2 elt tg it cond tg1 it1 cond1 own own1) rfl rfl).elim
      | cons g1 g =>
        cases g with
        | cons g2 _ =>
          obtain ⟨a1, a2, a3, a4⟩ := g0
          obtain ⟨b1, b2, b3, b4⟩ := g1
          exact (no (q := .comp2 elt tg it cond tg1 it1 cond1 own own1) rfl rfl).elim
        | nil =>
          obtain ⟨gt, z, ifs, n⟩ := g0
          obtain ⟨gt1, z1, ifs1, n1⟩ := g1
          unfold chkE at h
          simp only [Bool.and_eq_true, decide_eq_true_eq] at h
          obtain ⟨⟨⟨⟨⟨⟨⟨⟨⟨⟨⟨⟨⟨⟨rfl, rfl⟩, h1⟩, h2⟩, h3⟩, h4⟩, h5⟩, h6⟩, h7⟩, h8⟩, h9⟩, h10⟩, h11⟩, h12⟩, h13⟩ := h
          have B : BlkOk X.N X.env.scope s (ownL C.N own) := by rw [O.hN, O.sc]; exact blkB_ok h1
          have ht : ∀ (s1 : Shared) (H : Hp) (A : Addr) (cl : List (Str × Addr)) (fp : List Addr), PTs (X.blk s1 H s (compEnvC s cl A X.env) fp) ifs (tDT S X.K WF cond) := fun s1 H A cl fp => by
            have O' : CxOk S k (C.blk s) WF (X.blk s1 H s (compEnvC s cl A X.env) fp) := O.blk
            cases ifs with
            | nil => rw [isTrueE_ok h11]; exact pts_yes (X := X.blk s1 H s (compEnvC s cl A X.env) fp)
            | cons c r =>
              cases r with
              | nil => exact pts_one (chkE_ok cond _ c h11 S k WF _ O').t
              | cons _ _ => exact nomatch h11
          have ht1 : ∀ (s1 : Shared) (H : Hp) (A : Addr) (cl : List (Str × Addr)) (fp : List Addr), PTs (X.blk s1 H s (compEnvC s cl A X.env) fp) ifs1 (tDT S X.K WF cond1) := fun s1 H A cl fp => by
            have O' : CxOk S k (C.blk s) WF (X.blk s1 H s (compEnvC s cl A X.env) fp) := O.blk
            cases ifs1 with
            | nil => rw [isTrueE_ok h12]; exact pts_yes (X := X.blk s1 H s (compEnvC s cl A X.env) fp)
            | cons c r =>
              cases r with
              | nil => exact pts_one (chkE_ok cond1 _ c h12 S k WF _ O').t
              | cons _ _ => exact nomatch h12
          have P := ps_setLc2 (i := i) (y := y) (py := yp) (pos := pp) (spos := spos) (vs1 := own1) (g := gD X.K tg) (g1 := gD X.K tg1) (tt := tDT S X.K WF cond) (tt1 := tDT S X.K WF cond1) (te := tD S X.K WF elt) (wi1 := iD S X.K WF it1) O.calm O.nd hy hyl hw (chkI_ok it C gt z h5 S k Wh X O) B (by rw [ownL_ix]; exact sub_ok h4)
            (fun s1 H A cl fp => chkT_ok tg gt _ h8 S k WF (X.blk s1 H s (compEnvC s cl A X.env) fp) O.blk) ht (fun s1 H A cl fp => chkI_ok it1 _ gt1 z1 h9 S k WF (X.blk s1 H s (compEnvC s cl A X.env) fp) O.blk)
            (fun s1 H A cl fp => chkT_ok tg1 gt1 _ h10 S k WF (X.blk s1 H s (compEnvC s cl A X.env) fp) O.blk) ht1 (fun s1 H A cl fp => (chkE_ok elt _ x h13 S k WF (X.blk s1 H s (compEnvC s cl A X.env) fp) O.blk).v) (notSet_ok h6 X.env) (fun env x => notSet_ok h7 env x)
          rw [ownL_ix] at P
          exact ⟨_, P, fun σ H Q q => lcD2 (sub_ok h2) (sub_ok h3) q⟩
  all_goals exact (Bool.false_ne_true h).elim
set_option maxHeartbeats 4000000
theorem chkS_ok (C : Ck) (W : Nat) : (∀ (p : S) (e : Stmt), chkS C p e = true → ∀ (S : Sg) (k : Nat) (Wh : WX) (X : Cx), CxS S k C Wh X → PS X e (tS S X.K Wh (evS S.C S.sub W p))) ∧
    (∀ (p : Ss) (e : List Stmt), chkSs C p e = true → ∀ (S : Sg) (k : Nat) (Wh : WX) (X : Cx), CxS S k C Wh X → PSs X e (tS S X.K Wh (evSs S.C S.sub W p))) := by
  apply chkS.mutual_induct (motive_1 := fun p e => chkS C p e = true → ∀ (S : Sg) (k : Nat) (Wh : WX) (X : Cx), CxS S k C Wh X → PS X e (tS S X.K Wh (evS S.C S.sub W p)))
    (motive_2 := fun p e => chkSs C p e = true → ∀ (S : Sg) (k : Nat) (Wh : WX) (X : Cx), CxS S k C Wh X → PSs X e (tS S X.K Wh (evSs S.C S.sub W p)))
  case case1 =>
    intro e x pos h S k Wh X O
    simp only [chkS, Bool.and_eq_true, Bool.not_eq_true'] at h
    exact s_ex (chk_ok.1 _ _ _ h.2 S k Wh X O.toCxOk).v (notComp_ok h.1)
  case case2 =>
    intro t e tg x pos h S k Wh X O
    simp only [chkS, Bool.and_eq_true] at h
    obtain ⟨⟨h1, h2⟩, h3⟩ := h
    rw [← O.sc] at h3
    obtain ⟨q1, q2, q3⟩ := plainSt_ok (line := pos.line) h3
    exact s_set (chk_ok.1 _ _ _ h2 S k Wh X O.toCxOk).v (chkT_ok _ _ _ h1 S k Wh X O.toCxOk) q1 q2 q3
  case case3 =>
    intro e pos i y tp elt g s p h S k Wh X O
    simp only [chkS, Bool.and_eq_true] at h
    obtain ⟨⟨h1, h2⟩, h3⟩ := h
    obtain ⟨e1, e2⟩ := loc_ok O.toCxOk h1
    have hf : ∀ d, e ≠ .c d := fun d z => by
      subst z
      exact Bool.false_ne_true h3
    have hn : ∀ d, e ≠ .new d := fun d z => by
      subst z
      cases d <;> exact Bool.false_ne_true h3
    obtain ⟨wi, P, hp⟩ := comp_own (spos := pos) O.toCxOk h3 hf hn e1 e2 (by rw [swB_ok, O.sc, h2])
    exact s_own P hp
  case case4 =>
    intro t e tg x pos hn h S k Wh X O
    simp only [chkS, Bool.false_eq_true] at h
  case case5 =>
    intro pos i j es y yp z zp kt p1 a b k2 p2 h S k Wh X O
    simp only [chkS, Bool.and_eq_true, decide_eq_true_eq] at h
    obtain ⟨⟨⟨⟨⟨h1, h2⟩, h3⟩, h4⟩, h5⟩, h6⟩ := h
    obtain ⟨e1, e2⟩ := loc_ok O.toCxOk h1
    obtain ⟨e3, e4⟩ := loc_ok O.toCxOk h2
    rw [← O.sc] at h4
    exact s_par (ps_par O.calm O.nd e1 e3 h3 e2 e4 (chk_ok.2.2 _ _ _ h5 h6 S k Wh X O.toCxOk) (swT_ok h4) (sole.trans rfl)) fun _ _ _ q => q
  case case6 =>
    intro t e tg x pos hn h S k Wh X O
    simp only [chkS, Bool.false_eq_true] at h
  case case7 =>
    intro pos i j l es y yp z zp u up kt p1 a b c k2 p2 h S k Wh X O
    simp only [chkS, Bool.and_eq_true, decide_eq_true_eq] at h
    obtain ⟨⟨⟨⟨⟨⟨⟨⟨h1, h2⟩, h2'⟩, h3⟩, h3'⟩, h3''⟩, h4⟩, h5⟩, h6⟩ := h
    obtain ⟨e1, e2⟩ := loc_ok O.toCxOk h1
    obtain ⟨e3, e4⟩ := loc_ok O.toCxOk h2
    obtain ⟨e5, e6⟩ := loc_ok O.toCxOk h2'
    rw [← O.sc] at h4
    exact s_par3 (ps_par3 O.calm O.nd e1 e3 e5 h3 h3' h3'' e2 e4 e6 (chk_ok.2.2 _ _ _ h5 h6 S k Wh X O.toCxOk) (swT_ok h4) (sole.trans rfl)) fun _ _ _ q => q
  case case8 =>
    intro t e tg x pos hn h S k Wh X O
    simp only [chkS, Bool.false_eq_true] at h
  case case9 =>
    intro m t e tg x pos h0 h1 h2 h3 h S k Wh X O
    unfold chkS at h
    split at h
    all_goals first | exact (h0 rfl).elim | exact (h1 rfl).elim | exact (h2 rfl).elim | exact (h3 rfl).elim | exact nomatch h
  case case10 =>
    intro o i e xo xi p1 x pos h S k Wh X O
    simp only [chkS, Bool.and_eq_true, Bool.not_eq_true'] at h
    obtain ⟨⟨⟨⟨h1, h2⟩, h3⟩, h4⟩, h5⟩ := h
    exact s_seti (chk_ok.1 _ _ _ h3 S k Wh X O.toCxOk).v (chk_ok.1 _ _ _ h1 S k Wh X O.toCxOk).v (chk_ok.1 _ _ _ h2 S k Wh X O.toCxOk).v h4 (sole.trans (notComp_ok h5)) (by first | rfl | (cases x <;> rfl))
  case case11 =>
    intro o e y p1 a p2 x p3 pos h S k Wh X O
    simp only [chkS, Bool.and_eq_true, decide_eq_true_eq, Bool.not_eq_true'] at h
    obtain ⟨⟨⟨⟨rfl, h1⟩, h2⟩, h3⟩, h4⟩ := h
    exact s_app (chk_ok.1 _ _ _ h1 S k Wh X O.toCxOk).v (chk_ok.1 _ _ _ h2 S k Wh X O.toCxOk).v h3 rfl h4
  case case12 =>
    intro t a b x xa xb pos ha hb h S k Wh X O
    simp only [chkS, Bool.and_eq_true] at h
    obtain ⟨⟨h1, h2⟩, h3⟩ := h
    exact s_if (chk_ok.1 _ _ _ h1 S k Wh X O.toCxOk).t (ha h2 S k Wh X O) (hb h3 S k Wh X O)
  case case13 =>
    intro t it b tg iter body pos hb h S k Wh X O
    simp only [chkS, Bool.and_eq_true] at h
    obtain ⟨⟨⟨h1, h2⟩, h3⟩, h4⟩ := h
    exact s_for O.own O.calm (chk_ok.2.1 _ _ _ _ h2 S k Wh X O.toCxOk) (chkT_ok _ _ _ h1 S k Wh X O.toCxOk) (hb h4 S k Wh X O) (notSet_ok h3 X.env)
  case case14 =>
    intro t b x body pos hb h S k Wh X O
    simp only [chkS, Bool.and_eq_true] at h
    exact s_whl O.own (chk_ok.1 _ _ _ h.1 S k Wh X O.toCxOk).t (hb h.2 S k Wh X O)
  case case15 =>
    intro e x pos h S k Wh X O
    simp only [chkS] at h
    exact s_rt (chk_ok.1 _ _ _ h S k Wh X O.toCxOk).v
  case case16 =>
    intro pos h S k Wh X O
    exact s_rtn
  case case17 =>
    intro c x p1 m j p2 p3 pos h S k Wh X O
    simp only [chkS, Bool.and_eq_true] at h
    obtain ⟨h1, h2⟩ := h
    obtain ⟨g1, g2⟩ := O.toCxOk.isGl h1
    split at h2
    · rename_i d q
      simp only [decide_eq_true_eq] at h2
      subst h2
      refine PS.imp ?_ (L2.ps_raise O.calm O.tk (O.mke x c q m j p1 p2 p3 g1 g2))
      rintro D σ H ⟨off, w, env, rfl, ok, re, sat⟩
      exact sat w (.refl w) ok rfl σ re none rfl
    · exact nomatch h2
  case case18 => intro pos h S k Wh X O; exact s_brk
  case case19 => intro pos h S k Wh X O; exact s_cnt
  case case20 => intro pos h S k Wh X O; exact s_pass
  case case21 =>
    intro i s x hs h S k Wh X O
    simp only [chkS] at h
    exact s_frz (hs h S k Wh X O)
  case case22 =>
    intros
    rename_i h _ _ _ _ _
    first | (rw [chkS.eq_16] at h <;> first | assumption | exact nomatch h) | (rw [chkS.eq_17] at h <;> first | assumption | exact nomatch h) | (rw [chkS.eq_18] at h <;> first | assumption | exact nomatch h) | (rw [chkS.eq_19] at h <;> first | assumption | exact nomatch h) | (rw [chkS.eq_20] at h <;> first | assumption | exact nomatch h) | (rw [chkS.eq_21] at h <;> first | assumption | exact nomatch h) | (rw [chkS.eq_22] at h <;> first | assumption | exact nomatch h)
  case case23 => intro h S k Wh X O; exact ss_nil
  case case24 =>
    intro s ss x xs hs hss h S k Wh X O
    simp only [chkSs, Bool.and_eq_true] at h
    exact ss_cons (hs h.1 S k Wh X O) (hss h.2 S k Wh X O)
  case case25 =>
    intros
    rename_i h _ _ _ _ _
    rw [chkSs.eq_3] at h <;> first | assumption | exact nomatch h
end AB

set_option Elab.async false
set_option linter.all false
set_option autoImplicit false
set_option maxRecDepth 100000
/-! AnyY: a law's defs, all at once; the law's end. -/
namespace AB
open PySem PySem.Spec L2 PyProof.Rows

def faIs : He.Fa → He.Fa → Bool
  | .glo x, .glo y => decide (x = y)
  | .free x, .free y => decide (x = y)
  | .int x i, .int y j => decide (x = y) && decide (i = j)
  | .exc x, .exc y => decide (x = y)
  | .exm x y b, .exm x' y' b' => decide (x = x') && decide (y = y') && decide (b = b')
  | _, _ => false
theorem faIs_eq {f g : He.Fa} (h : faIs f g = true) : f = g := by
  unfold faIs at h
  split at h
  · simp only [decide_eq_true_eq] at h; rw [h]
  · simp only [decide_eq_true_eq] at h; rw [h]
  · simp only [Bool.and_eq_true, decide_eq_true_eq] at h; rw [h.1, h.2]
  · simp only [decide_eq_true_eq] at h; rw [h]
  · simp only [Bool.and_eq_true, decide_eq_true_eq] at h; rw [h.1.1, h.1.2, h.2]
  · exact nomatch h
/-- a def: its name, its number, what it is in the small language, its parameters, its slots' names, its place in the top -/
structure DI where
  x : Str
  id : Nat
  fd : FD
  ps : List Str
  N : List Str
  pl : Nat
def scB (N ps : List Str) (sc : Scope) : Bool := decide (sc.kind = .function) && !sc.isCoroutine && !sc.isGenerator && decide N.Nodup && decide (N.take ps.length = ps) && ps.all (fun x => decide (sc.names.lookup x = some .local) || decide (sc.names.lookup x = some .cell)) && sc.names.all fun y => !decide (y.2 = .free)
theorem scB_ok {N ps : List Str} {sc : Scope} (h : scB N ps sc = true) : FnScope N ps sc := by
  simp only [scB, Bool.and_eq_true, decide_eq_true_eq, Bool.not_eq_true', List.all_eq_true, Bool.or_eq_true, decide_eq_false_iff_not] at h
  obtain ⟨⟨⟨⟨⟨⟨h1, h2⟩, h3⟩, h4⟩, h5⟩, h6⟩, h7⟩ := h
  exact ⟨h1, h2, h3, h4, h5, h6, h7⟩
section
variable (top : Nat → Stmt) (gt : List (Str × G)) (L : List DI) (fa : List He.Fa) (tups : List (Str × List D)) (cn : Nat → Str)
def DI.ok (d : DI) : Bool := scB d.N d.ps (defScope (top d.pl)) && (decide (d.fd.np = d.ps.length) && (decide (d.fd.ns = d.N.length) && chkSs ⟨gt, d.N, defScope (top d.pl), fun _ => true⟩ d.fd.body (defBody (top d.pl))))
def DI.dfd (d : DI) : He.DefD := ⟨(d.x, none), d.x, d.x, defArgs (top d.pl), defBody (top d.pl), defScope (top d.pl), [], []⟩
def DI.Bnd (d : DI) : Prop := ∀ (kV doc pm : Value) (an : Option Addr) (cdv ct : Value) (us : List Value), us.length = d.ps.length → bindArgs (PySem.W.fnOf d.x d.x (defArgs (top d.pl)) (defBody (top d.pl)) (defScope (top d.pl)) .none kV doc pm an cdv ct) ⟨us, []⟩ = pure (d.ps.zip us)
def smp : D → Bool
  | .non => true
  | .bl _ => true
  | .int _ => true
  | .str _ => true
  | _ => false
def dvOf : D → He.Dv
  | .non => .non
  | .bl b => .bl b
  | .int i => .int i
  | .str x => .str x
  | _ => .non
def exT (K : PySem.W.Frag) : Bool := tups.all fun t => He.tupB K t.1 (t.2.map dvOf)
def faHas (f : He.Fa) : Bool := fa.any fun g => faIs g f
def gOk : Str × G → Bool
  | (x, .fn f _) => L.any fun d => decide (d.x = x) && decide (d.id = f)
  | (x, .blt) => faHas fa (.free x)
  | (x, .cst (.int i)) => faHas fa (.int x i)
  | (x, .cst (.tup ds)) => faHas fa (.glo x) && tups.any (fun t => decide (t.1 = x) && D.sames t.2 ds) && ds.all smp && ds.all isStr
  | (x, .cls c) => faHas fa (.glo x) && faHas fa (.exc x) && decide (cn c = x)
  | _ => false
end
theorem look_mem {α : Type} : ∀ {l : List (Str × α)} {x : Str} {a : α}, l.lookup x = some a → (x, a) ∈ l
  | [], _, _, h => by simp at h
  | (y, b) :: l, x, a, h => by
    unfold List.lookup at h
    cases q : x == y with
    | true =>
      rw [q] at h
      cases h
      have : x = y := by simpa using q
      subst this
      exact List.mem_cons_self
    | false =>
      rw [q] at h
      exact List.mem_cons_of_mem _ (look_mem h)
theorem reps_smp {K : PySem.W.Frag} {off : Addr → Prop} {w : Wd} : ∀ {ds : List D}, ds.all smp = true → Reps K off w ds (ds.map fun d => He.Dv.v K (dvOf d))
  | [], _ => .nil
  | d :: ds, h => by
    simp only [List.all_cons, Bool.and_eq_true] at h
    refine .cons ?_ (reps_smp h.2)
    cases d <;> first | (simp only [Rep]; rfl) | (have := h.1; simp only [smp, Bool.false_eq_true] at this)
/-- what a law's text is made of -/
structure Law where
  top : Nat → Stmt
  gt : List (Str × G)
  L : List DI
  fa : List He.Fa
  tups : List (Str × List D)
  cn : Nat → Str
  F : Nat → Option FD
  W : Nat
  sub : Nat → Nat → Bool
  cf : Nat → Str
structure Law.Ok (l : Law) : Prop where
  defs : l.L.all (DI.ok l.top l.gt) = true
  gts : l.gt.all (gOk l.L l.fa l.tups l.cn) = true
  glo : l.L.all (fun d => faHas l.fa (.glo d.x)) = true
  bnd : ∀ d ∈ l.L, d.Bnd l.top
  F : ∀ d ∈ l.L, l.F d.id = some d.fd
def Law.sg (l : Law) (K : PySem.W.Frag) (k : Nat) : Sg := { gt := [], N := [], C := run l.F l.W l.sub k, sub := l.sub, cv := fun c => .ref (He.ga K (l.cn c)), cf := l.cf }
section
variable {K : PySem.W.Frag} {off : Addr → Prop} {w w' w0 : Wd}
mutual
/-- pure data stand as they are where no cell stands -/
theorem Rep.pure (hH : w'.H = w.H) (hl : ∀ x, Live w' x → Live w x) : ∀ (d : D) (v : V), d.pl = true → Rep K off w d v → Rep K off w' d v
  | .non, _, _, h => by simpa only [Rep] using h
  | .bl _, _, _, h => by simpa only [Rep] using h
  | .int _, _, _, h => by simpa only [Rep] using h
  | .str _, _, _, h => by simpa only [Rep] using h
  | .exc _ _, _, p, _ => by simp [D.pl] at p
  | .ref _, _, p, _ => by simp [D.pl] at p
  | .tup xs, v, p, h => by
    simp only [D.pl] at p
    simp only [Rep] at h ⊢
    obtain ⟨a, vs, e, h1, h2⟩ := h
    exact ⟨a, vs, e, by rw [hH]; exact h1, Reps.pure hH hl xs vs p h2⟩
  | .lst xs, v, p, h => by
    simp only [D.pl] at p
    simp only [Rep] at h ⊢
    obtain ⟨a, vs, e, h1, h2, h3, h4⟩ := h
    exact ⟨a, vs, e, by rw [hH]; exact h1, h2, fun z => h3 (hl a z), Reps.pure hH hl xs vs p h4⟩
theorem Reps.pure (hH : w'.H = w.H) (hl : ∀ x, Live w' x → Live w x) : ∀ (ds : List D) (vs : List V), D.pls ds = true → Reps K off w ds vs → Reps K off w' ds vs
  | [], _, _, h => by simpa only [Reps] using h
  | d :: ds, vs, p, h => by
    simp only [D.pls, Bool.and_eq_true] at p
    simp only [Reps] at h ⊢
    obtain ⟨v, r, e, h1, h2⟩ := h
    exact ⟨v, r, e, Rep.pure hH hl d v p.1 h1, Reps.pure hH hl ds r p.2 h2⟩
end
theorem OkW.cut (ok : OkW K off w) (l : Le w0 w) (ok0 : OkW K off w0) : Le w0 { w with st := w.st.take w0.st.length, am := w.am.take w0.st.length } ∧ OkW K off { w with st := w.st.take w0.st.length, am := w.am.take w0.st.length } ∧
    ∀ (d : D) (v : V), d.pl = true → Rep K off w d v → Rep K off { w with st := w.st.take w0.st.length, am := w.am.take w0.st.length } d v := by
  have tk : ∀ {α : Type} {xs : List α} {m n : Nat} {x : α}, (xs.take m)[n]? = some x → xs[n]? = some x := fun {α xs m n x} h => by
    rw [List.getElem?_take] at h
    split at h
    · exact h
    · cases h
  have lv : ∀ x, Live { w with st := w.st.take w0.st.length, am := w.am.take w0.st.length } x → Live w x := fun x h => by
    rcases h with ⟨n, c, h1, h2, h3⟩ | g
    · exact .inl ⟨n, c, tk h1, h2, tk h3⟩
    · exact .inr g
  refine ⟨⟨⟨l.keep, ?_, fun x h => l.liv x (lv x h)⟩, l.ghk⟩, ⟨?_, fun n xs a h1 h2 => ?_, fun n ns a h1 h2 => ok.scr n ns a (tk h1) (tk h2), fun n c a h1 h2 => ok.nol n c a (tk h1) (tk h2), fun n m c d a h1 h2 h3 h4 h5 h6 => ok.inj n m c d a (tk h1) (tk h2) h3 h4 (tk h5) (tk h6),
    fun a h => ⟨(ok.off a h).1, fun z => (ok.off a h).2 (lv a z)⟩, ok.gh, fun n xs h => ok.pur n xs (tk h), fun a n c g h1 h2 h3 => ok.ghd a n c g (tk h1) h2 (tk h3)⟩, fun d v p r => Rep.pure (w := w) (w' := { w with st := w.st.take w0.st.length, am := w.am.take w0.st.length }) rfl lv d v p r⟩
  · obtain ⟨y, e⟩ := l.pre
    refine ⟨[], ?_⟩
    show w.am.take _ = _
    rw [e, ← ok0.len, List.take_left, List.append_nil]
  · show (w.am.take _).length = (w.st.take _).length
    rw [List.length_take, List.length_take, ok.len]
  · obtain ⟨vs, q1, q2⟩ := ok.lst n xs a (tk h1) (tk h2)
    exact ⟨vs, q1, Reps.pure (w := w) (w' := { w with st := w.st.take w0.st.length, am := w.am.take w0.st.length }) rfl lv xs vs (ok.pur n xs (tk h1)) q2⟩
end
section
variable {l : Law} {P : Program} {w : World} {K : PySem.W.Frag} {h : Heap} {mg : Str → Option Value}
theorem faHas_ok {fa : List He.Fa} {fn : List He.DefD} {f : He.Fa} (c : He.SaysD fa fn K) (h : faHas fa f = true) : f.ok K = true := by
  simp only [faHas, List.any_eq_true] at h
  obtain ⟨g, hg, e⟩ := h
  cases faIs_eq e
  obtain ⟨i, hi⟩ := List.getElem?_of_mem hg
  exact c.fact i hi
theorem Law.funD (c : He.SaysD l.fa (l.L.map (DI.dfd l.top)) K) {d : DI} (hd : d ∈ l.L) : ∃ fd, FunD K d.x d.x (defArgs (l.top d.pl)) (defBody (l.top d.pl)) (defScope (l.top d.pl)) [] [] (He.ga K d.x) fd := by
  obtain ⟨i, hi⟩ := List.getElem?_of_mem hd
  exact c.def_ i (d := DI.dfd l.top d) (by rw [List.getElem?_map, hi]; rfl)
theorem run_ok {F : Nat → Option FD} {W : Nat} {sub : Nat → Nat → Bool} {k f : Nat} {fd : FD} {ds : List D} (e : F f = some fd) (hl : ds.length = fd.np) : run F W sub (k + 1) f ds = fun st => match evSs (run F W sub k) sub W fd.body (ds.map some ++ List.replicate (fd.ns - fd.np) none) st with
        | .ok (.rt v) st' => .ok v (cutS v st st')
        | .ok (.nx _) st' => .ok .non (cutS .non st st')
        | .ok _ _ => .no
        | .ex e _ st' => .ex e st'
        | .no => .no := by
  show (match F f with
    | some fd => if ds.length = fd.np then _ else non
    | none => non) = _
  rw [e]
  exact if_pos hl
theorem Law.fns (O : l.Ok) (KX : K.In h) (G : h.Ns mainGlobals mg) (c : He.SaysD l.fa (l.L.map (DI.dfd l.top)) K) (hex : exT l.tups K = true) {base : Heap} :
    ∀ (k : Nat) (d : DI) (fd : FuncData), d ∈ l.L → FunD K d.x d.x (defArgs (l.top d.pl)) (defBody (l.top d.pl)) (defScope (l.top d.pl)) [] [] (He.ga K d.x) fd → FnOk P w K mg base (L2.CX P w) k (He.ga K d.x) fd d.ps (spC (l.sg K k) K d.id) := by
  intro k
  induction k with
  | zero =>
    intro d fd hd F
    refine ⟨fun vs H Q E z => ?_, fun A outer s H args us vs Q E _ _ _ _ z => ?_⟩
    · obtain ⟨off, w, ds, _, _, _, z⟩ := z; exact z.elim
    · obtain ⟨off, w, ds, _, _, _, z⟩ := z; exact z.elim
  | succ k ih =>
    intro d fd hd F
    have hdef := List.all_eq_true.mp O.defs d hd
    simp only [DI.ok, Bool.and_eq_true, decide_eq_true_eq] at hdef
    obtain ⟨hsc, hnp, hns, hchk⟩ := hdef
    have hF := O.F d hd
    have lens : ∀ {off : Addr → Prop} {w0 : Wd} {ds : List D} {kk : D → Wd → Prop} {xx : Ex → Wd → Prop}, Sat K off w0 ((l.sg K (k + 1)).C d.id ds w0.st) kk xx → ds.length = d.fd.np := fun {off w0 ds kk xx} z => by
      by_cases q : ds.length = d.fd.np
      · exact q
      · have z2 : Sat K off w0 ((match l.F d.id with
          | some fd => if ds.length = fd.np then _ else non
          | none => non) w0.st) kk xx := z
        rw [hF] at z2
        simp only [if_neg q] at z2
        exact z2.elim
    refine F.ok (scB_ok hsc) (fun vs H Q E z => ?_) fun cdv A outer s H vs Q E hr z => ?_
    · obtain ⟨off, w0, ds, _, _, rs, z⟩ := z
      rw [← rs.length, lens z, hnp]
    · obtain ⟨off, w0, ds, rfl, ok, rs, z⟩ := z
      have hl := lens z
      refine ⟨tS (l.sg K k) K (fun cls d _ H => E cls d H) (evSs (run l.F l.W l.sub k) l.sub l.W d.fd.body), ?_, off, w0, ds.map some ++ List.replicate (d.fd.ns - d.fd.np) none, rfl, ok, ?_, ?_⟩
      · have tk := L2.takes_of (X := cxOf (L2.CX P w) P w K mg base d.N d.x (defScope (l.top d.pl)) (He.ga K d.x) cdv A outer s w0.H E) rfl rfl rfl rfl
        refine (chkS_ok ⟨l.gt, d.N, defScope (l.top d.pl), fun _ => true⟩ l.W).2 _ _ hchk (l.sg K k) k _ _ ⟨⟨rfl, (scB_ok hsc).nd, rfl, fun _ _ => rfl, rfl, hr, ?_, ?_, ?_, fun σ => passAt tk σ⟩, passes_of rfl, tk, ?_⟩
        · intro x f np q
          have g := List.all_eq_true.mp O.gts _ (look_mem q)
          simp only [gOk, List.any_eq_true, Bool.and_eq_true, decide_eq_true_eq] at g
          obtain ⟨d', hd', rfl, rfl⟩ := g
          obtain ⟨fd', F'⟩ := Law.funD c hd'
          have gl := faHas_ok c (List.all_eq_true.mp O.glo d' hd')
          exact ⟨_, fd', d'.ps, ih d' fd' hd' F', He.glo_ok KX G gl, F'.kp, F'.bindsN (O.bnd d' hd')⟩
        · intro x q
          have g := List.all_eq_true.mp O.gts _ (look_mem q)
          simp only [gOk] at g
          exact He.free_ok KX G (faHas_ok c g)
        · intro x dd q
          have g := List.all_eq_true.mp O.gts _ (look_mem q)
          cases dd with
          | int i =>
            simp only [gOk] at g
            obtain ⟨t, e⟩ := He.int_ok KX G (faHas_ok c g)
            exact ⟨.int i, _, e, ⟨t, rfl⟩, fun _ _ _ => by simp only [Rep]⟩
          | tup ds =>
            simp only [gOk, Bool.and_eq_true, List.any_eq_true, decide_eq_true_eq] at g
            obtain ⟨⟨⟨g1, t, ht, rfl, g3⟩, g4⟩, g5⟩ := g
            have e := D.sames_eq g3
            subst e
            have tb := He.tupB_ok (List.all_eq_true.mp hex t ht)
            refine ⟨.ref (He.ga K t.1), _, He.glo_ok KX G (faHas_ok c g1), rfl, fun off w ok => ?_⟩
            simp only [Rep]
            exact ⟨_, _, rfl, .inr ⟨tb w.H, g5⟩, by rw [List.map_map]; exact reps_smp g4⟩
          | _ => simp only [gOk, Bool.false_eq_true] at g
        · intro x cc q m j p p2 pos hg hdb
          have g := List.all_eq_true.mp O.gts _ (look_mem q)
          simp only [gOk, Bool.and_eq_true, decide_eq_true_eq] at g
          obtain ⟨⟨g1, g2⟩, g3⟩ := g
          obtain ⟨e1, e2, e3, e4⟩ := He.exc_ok (faHas_ok c g2)
          have P1 := L2.pmk_own (X := cxOf (L2.CX P w) P w K mg base d.N d.x (defScope (l.top d.pl)) (He.ga K d.x) cdv A outer s w0.H E) (m := m) (j := j) (p := p) (p2 := p2) (pos := pos) PySem.F.excBase_ValueError e1 (He.glo_ok KX G (faHas_ok c g1)) e2 (raises_own e3 e4) hg hdb
          have e5 : (l.sg K k).cv cc = .ref (He.ga K x) := by show Value.ref (He.ga K (l.cn cc)) = _; rw [g3]
          rw [e5]
          exact P1
      · refine ⟨?_, fun i e hi => ?_⟩
        · have := rs.length
          simp only [L2.start, List.length_append, List.length_map, List.length_replicate]
          omega
        · rw [List.getElem?_append] at hi
          split at hi
          · rename_i hlt
            rw [List.getElem?_map, Option.map_eq_some_iff] at hi
            obtain ⟨d0, q1, q2⟩ := hi
            cases q2
            obtain ⟨v, q3, q4⟩ := rs.at_ q1
            refine ⟨v, ?_, q4⟩
            unfold L2.start
            rw [List.getElem?_append_left (by rw [List.length_map]; exact (List.getElem?_eq_some_iff.mp q3).1), List.getElem?_map, q3]
            rfl
          · rw [List.getElem?_replicate] at hi
            split at hi <;> cases hi
      · have z3 := z
        have e6 : (l.sg K (k + 1)).C d.id ds = _ := run_ok hF hl
        rw [e6] at z3
        revert z3
        cases q : evSs (run l.F l.W l.sub k) l.sub l.W d.fd.body (ds.map some ++ List.replicate (d.fd.ns - d.fd.np) none) w0.st with
        | no => intro z3; simp only [q] at z3; exact z3.elim
        | ex e env st => intro z3; simp only [q] at z3; exact fun w' l1 o e1 σ r d2 rx => z3 w' l1 o e1 d2 rx
        | ok fl st =>
          cases fl with
          | nx env =>
            intro z3
            simp only [q, cutS] at z3
            intro w' l1 o e1 σ r
            obtain ⟨l2, o2, _⟩ := o.cut l1 ok
            exact z3 _ l2 o2 (by show w'.st.take _ = _; rw [e1]; rfl) .non (by simp only [Rep])
          | rt v =>
            intro z3
            simp only [q, cutS] at z3
            intro w' l1 o e1 u ru
            by_cases hp : v.pl = true
            · rw [if_pos hp] at z3
              obtain ⟨l2, o2, r2⟩ := o.cut l1 ok
              exact z3 _ l2 o2 (by show w'.st.take _ = _; rw [e1]) u (r2 v u hp ru)
            · rw [if_neg hp] at z3
              exact z3 w' l1 o e1 u ru
          | bk env => intro z3; simp only [q] at z3; exact z3.elim
          | ct env => intro z3; simp only [q] at z3; exact z3.elim
end
end AB

set_option Elab.async false
set_option linter.all false
set_option autoImplicit false
set_option maxRecDepth 100000
/-! AnyZ: the end of a law. -/
namespace AB
open PySem PySem.Spec L2 PyProof.Rows

theorem fn_shut {P : Program} {w : World} {K : PySem.W.Frag} {mg : Str → Option Value} {base : Heap} {k : Nat} {f : Addr} {fd : FuncData} {ps : List Str} {sp : Sp} (F : FnOk P w K mg base (L2.CX P w) k f fd ps sp) :
    FnOk P w K mg base CX0 k f fd ps (fun vs H Q _ => sp vs H Q fun _ _ _ => False) := by
  refine ⟨fun vs H Q E h => F.len vs H Q _ h, fun A outer s H args us vs Q E hr e0 hb rv h => ?_⟩
  refine codeAny_mono (F.run A outer s H args us vs Q _ hr e0 hb rv h) fun r s' hq => ?_
  cases r with
  | error e =>
    obtain ⟨_, _, _, _, _, _, _, _, _, _, _, _, z⟩ := hq
    exact z.elim
  | ok fl => cases fl <;> exact hq
/-- the world at a law's start: the script alone -/
theorem start_ok {K : PySem.W.Frag} {H : Hp} {a : Addr} {ns : List Int} (hO : Only H) (hS : SqL K H a (ns.map V.int)) : OkW K (fun _ => False) { H := H, am := [a], st := [.scr ns] } := by
  have nlst : ∀ (n : Nat) (c : Cell), [Cell.scr ns][n]? = some c → c = .scr ns ∧ n = 0 := fun n c h => by
    cases n with
    | zero => simp at h; exact ⟨h.symm, rfl⟩
    | succ n => simp at h
  refine ⟨rfl, fun n xs b h1 h2 => ?_, fun n ms b h1 h2 => ?_, fun n c b h1 h2 => ?_, fun n m c d b h1 h2 h3 h4 h5 h6 => ?_, fun b h => h.elim, fun b h => h.elim, fun n xs h1 => (by cases (nlst n _ h1).1), fun b n c h => h.elim⟩
  · cases (nlst n _ h1).1
  · obtain ⟨e1, e2⟩ := nlst n _ h1
    cases e1
    subst e2
    have e3 : b = a := by
      have : [a][0]? = some b := h2
      simpa using this.symm
    subst e3
    rcases hS with (h | ⟨o, h⟩) | h
    · rcases hO b with q | ⟨o, xs, q⟩
      · rw [show H b = _ from h] at q; cases q
      · rw [show H b = _ from h] at q; cases q
    · exact .inl ⟨o, h⟩
    · exact .inr fun _ => .inr h
  · obtain ⟨e1, _⟩ := nlst n _ h1
    subst e1
    exact ⟨fun k z => (by cases z), fun k f z => (by cases z)⟩
  · rw [(nlst n _ h1).2, (nlst m _ h2).2]
theorem Law.ends {l : Law} (O : l.Ok) {P : Program} {k n : Nat} {d : DI} (hd : d ∈ l.L) (hx : d.x = ("law" : Str)) (hp : d.ps = [("script" : Str)])
    (math : ∀ ns : List Int, ns.length ≤ n → ∃ st, run l.F l.W l.sub k d.id [.ref 0] [.scr ns] = .ok (.bl true) st) {w : World} {mg : Str → Option Value} {fa : Addr} {h : Heap}
    (Y : ∃ K : PySem.W.Frag, K.In h ∧ He.SaysX l.fa (l.L.map (DI.dfd l.top)) [] [] (exT l.tups) w h K) (G : h.Ns mainGlobals mg) (hmg : mg ("law" : Str) = some (.ref fa)) :
    ∃ (K : PySem.W.Frag) (fd : FuncData) (sp : Sp), K.In h ∧ (∀ (s : Shared) (u : Value), BindsTo s fd ⟨[u], []⟩ [(("script" : Str), u)]) ∧
      (∀ (H : Hp) (a : Addr) (ns : List Int), ns.length ≤ n → Only H → SqL K H a (ns.map V.int) → sp [.ref a] H (fun v _ => v = .bl true) fun _ _ _ => False) ∧
      ∀ base : Heap, K.In base → base.Ns mainGlobals mg → FnOk P w K mg base CX0 k fa fd [("script" : Str)] sp := by
  obtain ⟨K, KX, c⟩ := Y
  have cd := c.t.d
  obtain ⟨fd, F⟩ := Law.funD cd hd
  have gl := faHas_ok cd (List.all_eq_true.mp O.glo d hd)
  have e := He.glo_ok KX G gl
  rw [hx] at e
  rw [hmg] at e
  have efa : fa = He.ga K ("law" : Str) := by cases e; rfl
  refine ⟨K, fd, fun vs H Q _ => spC (l.sg K k) K d.id vs H Q fun _ _ _ => False, KX, fun s u => ?_, fun H a ns hl hO hS => ?_, fun base _ _ => ?_⟩
  · have b := F.bindsA (O.bnd d hd) s [u] (by rw [hp]; rfl)
    rw [hp] at b
    exact b
  · obtain ⟨st, hr⟩ := math ns hl
    refine ⟨fun _ => False, { H := H, am := [a], st := [.scr ns] }, [.ref 0], rfl, start_ok hO hS, ?_, ?_⟩
    · refine .cons ?_ .nil
      simp only [Rep]
      exact ⟨a, rfl, rfl⟩
    · show Sat K _ _ (run l.F l.W l.sub k d.id [.ref 0] [.scr ns]) _ _
      rw [hr]
      intro w' _ _ _ v rv
      simpa only [Rep] using rv
  · have fo := Law.fns (P := P) (w := w) O KX G cd c.more (base := base) k d fd hd F
    rw [hp, hx, ← efa] at fo
    exact fn_shut fo
end AB

set_option Elab.async false
set_option linter.all false
set_option maxRecDepth 100000
/-! AnyT: the defs in the small language (printed by gentab.py). -/
namespace AB
open PySem
/-- is_number: slots value least most -/
def f0 : FD := ⟨3, 3, (.cons (.rt (.and (.isi (.v 0) .int) (.and (.nt (.isi (.v 0) .bool)) (.chn .le .le (.v 1) (.v 0) (.v 2))))) .nil)⟩
/-- is_tuple: slots value least most -/
def f1 : FD := ⟨3, 3, (.cons (.rt (.and (.isi (.v 0) .tup) (.chn .le .le (.v 1) (.bi .len (.cons (.v 0) .nil)) (.v 2)))) .nil)⟩
/-- is_kind: slots value -/
def f2 : FD := ⟨1, 1, (.cons (.rt (.and (.isi (.v 0) .str) (.cmp .inn (.v 0) (.c (.tup [(.str "g"), (.str "r"), (.str "y")]))))) .nil)⟩
/-- is_place: slots value -/
def f3 : FD := ⟨1, 1, (.cons (.iff (.or (.nt (.call 1 (.cons (.v 0) (.cons (.c (.int 2)) (.cons (.c (.int 2)) .nil))))) (.or (.nt (.isi (.ix (.v 0) (.c (.int 0))) .str)) (.cmp .nin (.ix (.v 0) (.c (.int 0))) (.tup (.cons (.c (.str "b")) (.cons (.c (.str "t")) .nil)))))) (.cons (.rt (.c (.bl false))) .nil) .nil) (.cons (.rt (.call 0 (.cons (.ix (.v 0) (.c (.int 1))) (.cons (.ite (.cmp .eq (.ix (.v 0) (.c (.int 0))) (.c (.str "b"))) (.c (.int 0)) (.c (.int 1))) (.cons (.c (.int 4)) .nil))))) .nil))⟩
/-- are_wants: slots value one other sign -/
def f4 : FD := ⟨1, 4, (.cons (.iff (.or (.nt (.isi (.v 0) .str)) (.or (.nt (.chn .le .le (.c (.int 1)) (.bi .len (.cons (.v 0) .nil)) (.c (.int 3)))) (.nt (.bi .all (.cons (.comp (.call 2 (.cons (.v 3) .nil)) (.n 3) (.ov (.v 0)) (.c (.bl true)) [3]) .nil))))) (.cons (.rt (.c (.bl false))) .nil) .nil) (.cons (.rt (.bi .all (.cons (.comp (.cmp .lt (.v 1) (.v 2)) (.t (.cons (.n 1) (.cons (.n 2) .nil))) (.zip (.v 0) (.sll (.v 0) (.c (.int 1)))) (.c (.bl true)) [1, 2]) .nil))) .nil))⟩
/-- is_good_guest: slots value -/
def f5 : FD := ⟨1, 1, (.cons (.iff (.or (.nt (.call 1 (.cons (.v 0) (.cons (.c (.int 4)) (.cons (.c (.int 4)) .nil))))) (.or (.nt (.call 3 (.cons (.ix (.v 0) (.c (.int 0))) .nil))) (.or (.cmp .eq (.ix (.v 0) (.c (.int 0))) (.tup (.cons (.c (.str "b")) (.cons (.c (.int 0)) .nil)))) (.nt (.call 4 (.cons (.ix (.v 0) (.c (.int 1))) .nil)))))) (.cons (.rt (.c (.bl false))) .nil) .nil) (.cons (.rt (.and (.call 0 (.cons (.ix (.v 0) (.c (.int 2))) (.cons (.c (.int 1)) (.cons (.c (.int 60)) .nil)))) (.call 0 (.cons (.ix (.v 0) (.c (.int 3))) (.cons (.c (.int 1)) (.cons (.c (.int 4)) .nil)))))) .nil))⟩
/-- is_good_belt: slots value guest -/
def f6 : FD := ⟨1, 2, (.cons (.iff (.or (.nt (.call 1 (.cons (.v 0) (.cons (.c (.int 2)) (.cons (.c (.int 2)) .nil))))) (.or (.nt (.call 1 (.cons (.ix (.v 0) (.c (.int 0))) (.cons (.c (.int 1)) (.cons (.c (.int 2)) .nil))))) (.nt (.call 0 (.cons (.ix (.v 0) (.c (.int 1))) (.cons (.c (.int 1)) (.cons (.c (.int 3)) .nil))))))) (.cons (.rt (.c (.bl false))) .nil) .nil) (.cons (.rt (.bi .all (.cons (.comp (.call 5 (.cons (.v 1) .nil)) (.n 1) (.ov (.ix (.v 0) (.c (.int 0)))) (.c (.bl true)) [1]) .nil))) .nil))⟩
/-- is_good_plate: slots value -/
def f7 : FD := ⟨1, 1, (.cons (.iff (.or (.nt (.call 1 (.cons (.v 0) (.cons (.c (.int 3)) (.cons (.c (.int 3)) .nil))))) (.nt (.call 0 (.cons (.ix (.v 0) (.c (.int 0))) (.cons (.c (.int 0)) (.cons (.c (.int 300)) .nil)))))) (.cons (.rt (.c (.bl false))) .nil) .nil) (.cons (.rt (.and (.call 3 (.cons (.ix (.v 0) (.c (.int 1))) .nil)) (.call 2 (.cons (.ix (.v 0) (.c (.int 2))) .nil)))) .nil))⟩
/-- are_good_plates: slots value one other plate -/
def f8 : FD := ⟨1, 4, (.cons (.iff (.or (.nt (.call 1 (.cons (.v 0) (.cons (.c (.int 0)) (.cons (.c (.int 4)) .nil))))) (.nt (.bi .all (.cons (.comp (.call 7 (.cons (.v 3) .nil)) (.n 3) (.ov (.v 0)) (.c (.bl true)) [3]) .nil)))) (.cons (.rt (.c (.bl false))) .nil) .nil) (.cons (.rt (.bi .all (.cons (.comp (.cmp .le (.ix (.v 1) (.c (.int 0))) (.ix (.v 2) (.c (.int 0)))) (.t (.cons (.n 1) (.cons (.n 2) .nil))) (.zip (.v 0) (.sll (.v 0) (.c (.int 1)))) (.c (.bl true)) [1, 2]) .nil))) .nil))⟩
/-- place_form: slots place -/
def f9 : FD := ⟨1, 1, (.cons (.rt (.ite (.cmp .eq (.ix (.v 0) (.c (.int 0))) (.c (.str "b"))) (.tup (.cons (.c (.int 0)) (.cons (.ix (.v 0) (.c (.int 1))) .nil))) (.tup (.cons (.c (.int 1)) (.cons (.neg (.ix (.v 0) (.c (.int 1)))) .nil))))) .nil)⟩
/-- worth: slots form n -/
def f10 : FD := ⟨2, 2, (.cons (.rt (.bin .add (.bin .mul (.ix (.v 0) (.c (.int 0))) (.v 1)) (.ix (.v 0) (.c (.int 1))))) .nil)⟩
/-- need_n: slots value -/
def f11 : FD := ⟨1, 1, (.cons (.iff (.nt (.call 0 (.cons (.v 0) (.cons (.c (.int 10)) (.cons (.c (.int 1000000000000000000000000000000)) .nil))))) (.cons (.raise 3) .nil) .nil) .nil)⟩
/-- need_place: slots value -/
def f12 : FD := ⟨1, 1, (.cons (.iff (.nt (.call 3 (.cons (.v 0) .nil))) (.cons (.raise 4) .nil) .nil) .nil)⟩
/-- is_belt: slots value -/
def f13 : FD := ⟨1, 1, (.cons (.rt (.call 6 (.cons (.v 0) .nil))) .nil)⟩
/-- are_plates: slots value -/
def f14 : FD := ⟨1, 1, (.cons (.rt (.call 8 (.cons (.v 0) .nil))) .nil)⟩
/-- place_at: slots n place -/
def f15 : FD := ⟨2, 2, (.cons (.ex (.call 11 (.cons (.v 0) .nil))) (.cons (.ex (.call 12 (.cons (.v 1) .nil))) (.cons (.rt (.call 10 (.cons (.call 9 (.cons (.v 1) .nil)) (.cons (.v 0) .nil)))) .nil)))⟩
/-- _law_source: slots script k cell -/
def f16 : FD := ⟨2, 3, (.cons (.set 0 (.n 2) (.c (.int 0))) (.cons (.iff (.cmp .lt (.v 1) (.bi .len (.cons (.v 0) .nil))) (.cons (.set 0 (.n 2) (.bi .abs (.cons (.bi .int (.cons (.ix (.v 0) (.v 1)) .nil)) .nil))) .nil) .nil) (.cons (.iff (.cmp .lt (.v 2) (.bin .pow (.c (.int 10)) (.c (.int 18)))) (.cons (.rt (.new (.lst (.cons (.c (.int 0)) (.cons (.bin .add (.c (.int 1)) (.bin .mod (.bi .int (.cons (.bin .add (.bin .mul (.v 2) (.c (.int 7919))) (.bin .mul (.c (.int 104729)) (.v 1))) .nil)) (.c (.int 2147483646)))) .nil))))) .nil) .nil) (.cons (.rt (.new (.lst (.cons (.v 2) (.cons (.bin .add (.c (.int 1)) (.bin .mod (.bi .int (.cons (.bin .add (.v 2) (.v 1)) .nil)) (.c (.int 2147483646)))) .nil))))) .nil))))⟩
/-- _law_draw: slots source many found -/
def f17 : FD := ⟨2, 3, (.cons (.iff (.cmp .gt (.ix (.v 0) (.c (.int 0))) (.c (.int 0))) (.cons (.set 0 (.n 2) (.bin .mod (.bi .int (.cons (.ix (.v 0) (.c (.int 0))) .nil)) (.v 1))) (.cons (.seti (.v 0) (.c (.int 0)) (.bin .fdiv (.ix (.v 0) (.c (.int 0))) (.v 1))) (.cons (.rt (.v 2)) .nil))) .nil) (.cons (.seti (.v 0) (.c (.int 1)) (.bin .mod (.bi .int (.cons (.bin .mul (.ix (.v 0) (.c (.int 1))) (.c (.int 48271))) .nil)) (.c (.int 2147483647)))) (.cons (.rt (.bin .mod (.bi .int (.cons (.bin .fdiv (.bin .mod (.bi .int (.cons (.bin .mul (.ix (.v 0) (.c (.int 1))) (.ix (.v 0) (.c (.int 1)))) .nil)) (.c (.int 2147483629))) (.c (.int 64))) .nil)) (.v 1))) .nil)))⟩
/-- _law_of: slots source items -/
def f18 : FD := ⟨2, 2, (.cons (.rt (.ix (.v 1) (.call 17 (.cons (.v 0) (.cons (.bi .len (.cons (.v 1) .nil)) .nil))))) .nil)⟩
/-- _law_place: slots source -/
def f19 : FD := ⟨1, 1, (.cons (.iff (.cmp .eq (.call 17 (.cons (.v 0) (.cons (.c (.int 2)) .nil))) (.c (.int 0))) (.cons (.rt (.tup (.cons (.c (.str "b")) (.cons (.call 17 (.cons (.v 0) (.cons (.c (.int 5)) .nil))) .nil)))) .nil) .nil) (.cons (.rt (.tup (.cons (.c (.str "t")) (.cons (.bin .add (.c (.int 1)) (.call 17 (.cons (.v 0) (.cons (.c (.int 4)) .nil)))) .nil)))) .nil))⟩
/-- _law_belt: slots source guests turn seat wants pause -/
def f20 : FD := ⟨1, 6, (.cons (.set 0 (.n 1) (.tup .nil)) (.cons (.forr (.n 2) (.rng1 (.bin .add (.c (.int 1)) (.call 17 (.cons (.v 0) (.cons (.c (.int 2)) .nil))))) (.cons (.set 0 (.n 3) (.call 19 (.cons (.v 0) .nil))) (.cons (.set 0 (.n 3) (.ite (.cmp .eq (.v 3) (.tup (.cons (.c (.str "b")) (.cons (.c (.int 0)) .nil)))) (.tup (.cons (.c (.str "b")) (.cons (.bin .add (.c (.int 1)) (.call 17 (.cons (.v 0) (.cons (.c (.int 3)) .nil)))) .nil))) (.v 3))) (.cons (.set 0 (.n 4) (.call 18 (.cons (.v 0) (.cons (.lst (.cons (.c (.str "g")) (.cons (.c (.str "r")) (.cons (.c (.str "gr")) (.cons (.c (.str "gr")) (.cons (.c (.str "gry")) (.cons (.c (.str "ry")) .nil))))))) .nil)))) (.cons (.set 0 (.n 5) (.call 18 (.cons (.v 0) (.cons (.lst (.cons (.c (.int 1)) (.cons (.c (.int 2)) (.cons (.c (.int 5)) (.cons (.c (.int 12)) (.cons (.bin .add (.c (.int 1)) (.call 17 (.cons (.v 0) (.cons (.c (.int 60)) .nil)))) .nil)))))) .nil)))) (.cons (.set 0 (.n 1) (.bin .add (.v 1) (.tup (.cons (.tup (.cons (.v 3) (.cons (.v 4) (.cons (.v 5) (.cons (.call 18 (.cons (.v 0) (.cons (.lst (.cons (.c (.int 1)) (.cons (.c (.int 2)) (.cons (.c (.int 2)) (.cons (.c (.int 3)) (.cons (.c (.int 4)) .nil)))))) .nil))) .nil))))) .nil)))) .nil)))))) (.cons (.rt (.tup (.cons (.v 1) (.cons (.call 18 (.cons (.v 0) (.cons (.lst (.cons (.c (.int 1)) (.cons (.c (.int 2)) (.cons (.c (.int 2)) (.cons (.c (.int 3)) .nil))))) .nil))) .nil)))) .nil)))⟩
/-- _law_plates: slots source most turn found minute place kind -/
def f21 : FD := ⟨2, 7, (.cons (.set 0 (.t (.cons (.n 3) (.cons (.n 4) .nil))) (.tup (.cons (.tup .nil) (.cons (.c (.int 0)) .nil)))) (.cons (.forr (.n 2) (.rng1 (.call 17 (.cons (.v 0) (.cons (.bin .add (.v 1) (.c (.int 1))) .nil)))) (.cons (.set 0 (.n 4) (.bin .add (.v 4) (.call 18 (.cons (.v 0) (.cons (.lst (.cons (.c (.int 0)) (.cons (.c (.int 0)) (.cons (.c (.int 1)) (.cons (.c (.int 1)) (.cons (.c (.int 3)) (.cons (.c (.int 9)) (.cons (.call 17 (.cons (.v 0) (.cons (.c (.int 70)) .nil))) .nil)))))))) .nil))))) (.cons (.set 0 (.n 5) (.ite (.cmp .eq (.call 17 (.cons (.v 0) (.cons (.c (.int 2)) .nil))) (.c (.int 0))) (.call 19 (.cons (.v 0) .nil)) (.tup (.cons (.c (.str "b")) (.cons (.c (.int 0)) .nil))))) (.cons (.set 0 (.n 6) (.call 18 (.cons (.v 0) (.cons (.lst (.cons (.c (.str "g")) (.cons (.c (.str "r")) (.cons (.c (.str "r")) (.cons (.c (.str "y")) .nil))))) .nil)))) (.cons (.set 0 (.n 3) (.bin .add (.v 3) (.tup (.cons (.tup (.cons (.bi .min2 (.cons (.v 4) (.cons (.c (.int 300)) .nil))) (.cons (.v 5) (.cons (.v 6) .nil)))) .nil)))) .nil))))) (.cons (.rt (.v 3)) .nil)))⟩
/-- _law_at: slots place n -/
def f22 : FD := ⟨2, 2, (.cons (.rt (.ite (.cmp .eq (.ix (.v 0) (.c (.int 0))) (.c (.str "b"))) (.ix (.v 0) (.c (.int 1))) (.bin .sub (.v 1) (.ix (.v 0) (.c (.int 1)))))) .nil)⟩
/-- _law_is_int: slots value least top -/
def f23 : FD := ⟨3, 3, (.cons (.rt (.and (.isi (.v 0) .int) (.and (.nt (.isi (.v 0) .bool)) (.chn .le .le (.v 1) (.v 0) (.v 2))))) .nil)⟩
/-- _law_is_place: slots value -/
def f24 : FD := ⟨1, 1, (.cons (.iff (.or (.nt (.isi (.v 0) .tup)) (.or (.cmp .ne (.bi .len (.cons (.v 0) .nil)) (.c (.int 2))) (.nt (.isi (.ix (.v 0) (.c (.int 0))) .str)))) (.cons (.rt (.c (.bl false))) .nil) .nil) (.cons (.iff (.cmp .eq (.ix (.v 0) (.c (.int 0))) (.c (.str "b"))) (.cons (.rt (.call 23 (.cons (.ix (.v 0) (.c (.int 1))) (.cons (.c (.int 0)) (.cons (.c (.int 4)) .nil))))) .nil) .nil) (.cons (.rt (.and (.cmp .eq (.ix (.v 0) (.c (.int 0))) (.c (.str "t"))) (.call 23 (.cons (.ix (.v 0) (.c (.int 1))) (.cons (.c (.int 1)) (.cons (.c (.int 4)) .nil)))))) .nil)))⟩
/-- _law_is_guest: slots value -/
def f25 : FD := ⟨1, 1, (.cons (.iff (.or (.nt (.isi (.v 0) .tup)) (.or (.cmp .ne (.bi .len (.cons (.v 0) .nil)) (.c (.int 4))) (.nt (.call 24 (.cons (.ix (.v 0) (.c (.int 0))) .nil))))) (.cons (.rt (.c (.bl false))) .nil) .nil) (.cons (.iff (.or (.cmp .eq (.ix (.v 0) (.c (.int 0))) (.tup (.cons (.c (.str "b")) (.cons (.c (.int 0)) .nil)))) (.nt (.isi (.ix (.v 0) (.c (.int 1))) .str))) (.cons (.rt (.c (.bl false))) .nil) .nil) (.cons (.iff (.cmp .nin (.ix (.v 0) (.c (.int 1))) (.tup (.cons (.c (.str "g")) (.cons (.c (.str "r")) (.cons (.c (.str "y")) (.cons (.c (.str "gr")) (.cons (.c (.str "gy")) (.cons (.c (.str "ry")) (.cons (.c (.str "gry")) .nil))))))))) (.cons (.rt (.c (.bl false))) .nil) .nil) (.cons (.rt (.and (.call 23 (.cons (.ix (.v 0) (.c (.int 2))) (.cons (.c (.int 1)) (.cons (.c (.int 60)) .nil)))) (.call 23 (.cons (.ix (.v 0) (.c (.int 3))) (.cons (.c (.int 1)) (.cons (.c (.int 4)) .nil)))))) .nil))))⟩
/-- _law_is_belt: slots value guest -/
def f26 : FD := ⟨1, 2, (.cons (.iff (.or (.nt (.isi (.v 0) .tup)) (.or (.cmp .ne (.bi .len (.cons (.v 0) .nil)) (.c (.int 2))) (.nt (.call 23 (.cons (.ix (.v 0) (.c (.int 1))) (.cons (.c (.int 1)) (.cons (.c (.int 3)) .nil))))))) (.cons (.rt (.c (.bl false))) .nil) .nil) (.cons (.iff (.or (.nt (.isi (.ix (.v 0) (.c (.int 0))) .tup)) (.nt (.chn .le .le (.c (.int 1)) (.bi .len (.cons (.ix (.v 0) (.c (.int 0))) .nil)) (.c (.int 2))))) (.cons (.rt (.c (.bl false))) .nil) .nil) (.cons (.rt (.cmp .eq (.comp (.v 1) (.n 1) (.ov (.ix (.v 0) (.c (.int 0)))) (.nt (.call 25 (.cons (.v 1) .nil))) [1]) (.lst .nil))) .nil)))⟩
/-- _law_are_plates: slots value last plate -/
def f27 : FD := ⟨1, 3, (.cons (.iff (.or (.nt (.isi (.v 0) .tup)) (.cmp .gt (.bi .len (.cons (.v 0) .nil)) (.c (.int 4)))) (.cons (.rt (.c (.bl false))) .nil) .nil) (.cons (.set 0 (.n 1) (.c (.int 0))) (.cons (.forr (.n 2) (.ov (.v 0)) (.cons (.iff (.or (.nt (.isi (.v 2) .tup)) (.or (.cmp .ne (.bi .len (.cons (.v 2) .nil)) (.c (.int 3))) (.nt (.call 23 (.cons (.ix (.v 2) (.c (.int 0))) (.cons (.v 1) (.cons (.c (.int 300)) .nil))))))) (.cons (.rt (.c (.bl false))) .nil) .nil) (.cons (.iff (.or (.nt (.call 24 (.cons (.ix (.v 2) (.c (.int 1))) .nil))) (.nt (.isi (.ix (.v 2) (.c (.int 2))) .str))) (.cons (.rt (.c (.bl false))) .nil) .nil) (.cons (.iff (.cmp .nin (.ix (.v 2) (.c (.int 2))) (.tup (.cons (.c (.str "g")) (.cons (.c (.str "r")) (.cons (.c (.str "y")) .nil))))) (.cons (.rt (.c (.bl false))) .nil) .nil) (.cons (.set 0 (.n 1) (.ix (.v 2) (.c (.int 0)))) .nil))))) (.cons (.rt (.c (.bl true))) .nil))))⟩
/-- _law_told_right: slots value -/
def f29 : FD := ⟨1, 1, (.cons (.iff (.or (.cmp .ne (.call 13 (.cons (.v 0) .nil)) (.call 26 (.cons (.v 0) .nil))) (.cmp .ne (.call 14 (.cons (.v 0) .nil)) (.call 27 (.cons (.v 0) .nil)))) (.cons (.rt (.c (.bl false))) .nil) .nil) (.cons (.iff (.cmp .ne (.call 28 (.cons (.v 0) (.cons (.c .non) .nil))) (.ite (.call 23 (.cons (.v 0) (.cons (.c (.int 10)) (.cons (.bin .pow (.c (.int 10)) (.c (.int 30))) .nil)))) (.c (.str "place")) (.c (.str "number")))) (.cons (.rt (.c (.bl false))) .nil) .nil) (.cons (.rt (.cmp .eq (.call 28 (.cons (.c (.int 50)) (.cons (.v 0) .nil))) (.ite (.call 24 (.cons (.v 0) .nil)) (.call 22 (.cons (.v 0) (.cons (.c (.int 50)) .nil))) (.c (.str "place"))))) .nil)))⟩
/-- _law_odd: slots source items -/
def f30 : FD := ⟨1, 2, (.cons (.set 0 (.n 1) (.lst (.cons (.c .non) (.cons (.c (.bl true)) (.cons (.c (.bl false)) (.cons (.c (.int 0)) (.cons (.c (.int 1)) (.cons (.c (.int 3)) (.cons (.c (.int 4)) (.cons (.c (.int 5)) (.cons (.c (.int 60)) (.cons (.c (.int 61)) (.cons (.c (.int 301)) (.cons (.neg (.c (.int 1))) (.cons (.bin .pow (.c (.int 10)) (.c (.int 30))) (.cons (.c (.str "")) (.cons (.c (.str "b")) (.cons (.c (.str "t")) (.cons (.c (.str "rg")) (.cons (.c (.str "gg")) (.cons (.tup .nil) (.cons (.lst .nil) .nil)))))))))))))))))))))) (.cons (.rt (.call 18 (.cons (.v 0) (.cons (.bin .add (.v 1) (.lst (.cons (.tup (.cons (.c (.str "b")) (.cons (.c (.int 0)) .nil))) (.cons (.tup (.cons (.c (.str "t")) (.cons (.c (.int 0)) .nil))) (.cons (.tup (.cons (.c (.str "b")) (.cons (.c (.int 5)) .nil))) (.cons (.c (.int 9)) (.cons (.c (.int 10)) (.cons (.bin .add (.bin .pow (.c (.int 10)) (.c (.int 30))) (.c (.int 1))) (.cons (.c (.str "gry")) (.cons (.c (.str "w")) (.cons (.tup (.cons (.c (.str "t")) (.cons (.c (.int 4)) .nil))) .nil))))))))))) .nil)))) .nil))⟩
/-- _law_spoilt: slots source value at mode -/
def f31 : FD := ⟨2, 4, (.cons (.iff (.or (.nt (.isi (.v 1) .tup)) (.or (.cmp .eq (.v 1) (.tup .nil)) (.cmp .eq (.call 17 (.cons (.v 0) (.cons (.c (.int 6)) .nil))) (.c (.int 0))))) (.cons (.rt (.call 30 (.cons (.v 0) .nil))) .nil) .nil) (.cons (.set 2 (.t (.cons (.n 2) (.cons (.n 3) .nil))) (.tup (.cons (.call 17 (.cons (.v 0) (.cons (.bi .len (.cons (.v 1) .nil)) .nil))) (.cons (.call 17 (.cons (.v 0) (.cons (.c (.int 9)) .nil))) .nil)))) (.cons (.iff (.cmp .eq (.v 3) (.c (.int 0))) (.cons (.rt (.bin .add (.slh (.v 1) (.v 2)) (.sll (.v 1) (.bin .add (.v 2) (.c (.int 1)))))) .nil) .nil) (.cons (.iff (.cmp .eq (.v 3) (.c (.int 1))) (.cons (.rt (.bin .add (.slh (.v 1) (.bin .add (.v 2) (.c (.int 1)))) (.sll (.v 1) (.v 2)))) .nil) .nil) (.cons (.iff (.cmp .eq (.v 3) (.c (.int 2))) (.cons (.rt (.bin .add (.bin .add (.slh (.v 1) (.v 2)) (.tup (.cons (.call 30 (.cons (.v 0) .nil)) .nil))) (.sll (.v 1) (.v 2)))) .nil) .nil) (.cons (.iff (.cmp .eq (.v 3) (.c (.int 3))) (.cons (.rt (.bi .list (.cons (.v 1) .nil))) .nil) .nil) (.cons (.iff (.and (.isi (.ix (.v 1) (.v 2)) .int) (.cmp .lt (.v 3) (.c (.int 6)))) (.cons (.rt (.bin .add (.bin .add (.slh (.v 1) (.v 2)) (.tup (.cons (.bin .sub (.bin .add (.ix (.v 1) (.v 2)) (.call 17 (.cons (.v 0) (.cons (.c (.int 3)) .nil)))) (.c (.int 1))) .nil))) (.sll (.v 1) (.bin .add (.v 2) (.c (.int 1)))))) .nil) .nil) (.cons (.rt (.bin .add (.bin .add (.slh (.v 1) (.v 2)) (.tup (.cons (.call 31 (.cons (.v 0) (.cons (.ix (.v 1) (.v 2)) .nil))) .nil))) (.sll (.v 1) (.bin .add (.v 2) (.c (.int 1)))))) .nil))))))))⟩
/-- law: slots script k source some value turn n place -/
def f32 : FD := ⟨1, 8, (.cons (.forr (.n 1) (.rng1 (.bin .add (.c (.int 1)) (.bi .min2 (.cons (.bi .len (.cons (.v 0) .nil)) (.cons (.c (.int 10)) .nil))))) (.cons (.set 0 (.n 2) (.call 16 (.cons (.v 0) (.cons (.v 1) .nil)))) (.cons (.set 0 (.n 3) (.lst (.cons (.call 20 (.cons (.v 2) .nil)) (.cons (.call 21 (.cons (.v 2) (.cons (.c (.int 4)) .nil))) (.cons (.call 19 (.cons (.v 2) .nil)) .nil))))) (.cons (.forr (.n 4) (.ov (.bin .add (.v 3) (.lst (.cons (.bin .add (.c (.int 10)) (.call 17 (.cons (.v 2) (.cons (.c (.int 50)) .nil)))) .nil)))) (.cons (.forr (.n 5) (.rng1 (.c (.int 5))) (.cons (.iff (.nt (.call 29 (.cons (.v 4) .nil))) (.cons (.rt (.c (.bl false))) .nil) .nil) (.cons (.set 0 (.n 4) (.call 31 (.cons (.v 2) (.cons (.v 4) .nil)))) .nil))) .nil)) (.cons (.set 2 (.t (.cons (.n 6) (.cons (.n 7) .nil))) (.tup (.cons (.bin .add (.c (.int 10)) (.call 17 (.cons (.v 2) (.cons (.bin .sub (.bin .pow (.c (.int 10)) (.c (.int 30))) (.c (.int 9))) .nil)))) (.cons (.call 19 (.cons (.v 2) .nil)) .nil)))) (.cons (.iff (.cmp .ne (.call 15 (.cons (.v 6) (.cons (.v 7) .nil))) (.call 22 (.cons (.v 7) (.cons (.v 6) .nil)))) (.cons (.rt (.c (.bl false))) .nil) .nil) .nil)))))) (.cons (.iff (.or (.cmp .ne (.call 28 (.cons (.c (.int 9)) (.cons (.tup (.cons (.c (.str "b")) (.cons (.c (.int 0)) .nil))) .nil))) (.c (.str "number"))) (.cmp .ne (.call 28 (.cons (.c (.int 10)) (.cons (.tup (.cons (.c (.str "t")) (.cons (.c (.int 0)) .nil))) .nil))) (.c (.str "place")))) (.cons (.rt (.c (.bl false))) .nil) .nil) (.cons (.rt (.cmp .eq (.call 28 (.cons (.c (.int 10)) (.cons (.tup (.cons (.c (.str "t")) (.cons (.c (.int 4)) .nil))) .nil))) (.c (.int 6)))) .nil)))⟩
/-- added: slots one other -/
def f33 : FD := ⟨2, 2, (.cons (.rt (.tup (.cons (.bin .add (.ix (.v 0) (.c (.int 0))) (.ix (.v 1) (.c (.int 0)))) (.cons (.bin .add (.ix (.v 0) (.c (.int 1))) (.ix (.v 1) (.c (.int 1)))) .nil)))) .nil)⟩
/-- less: slots one other -/
def f34 : FD := ⟨2, 2, (.cons (.rt (.tup (.cons (.bin .sub (.ix (.v 0) (.c (.int 0))) (.ix (.v 1) (.c (.int 0)))) (.cons (.bin .sub (.ix (.v 0) (.c (.int 1))) (.ix (.v 1) (.c (.int 1)))) .nil)))) .nil)⟩
/-- sign_of: slots form n found -/
def f35 : FD := ⟨2, 3, (.cons (.set 0 (.n 2) (.call 10 (.cons (.v 0) (.cons (.v 1) .nil)))) (.cons (.rt (.ite (.cmp .gt (.v 2) (.c (.int 0))) (.c (.int 1)) (.ite (.cmp .lt (.v 2) (.c (.int 0))) (.neg (.c (.int 1))) (.c (.int 0))))) .nil))⟩
/-- further: slots place goal far -/
def f36 : FD := ⟨2, 3, (.cons (.set 0 (.n 2) (.call 34 (.cons (.call 9 (.cons (.v 1) .nil)) (.cons (.call 9 (.cons (.v 0) .nil)) .nil)))) (.cons (.rt (.ite (.cmp .lt (.call 35 (.cons (.v 2) (.cons (.c (.int 10)) .nil))) (.c (.int 0))) (.call 33 (.cons (.v 2) (.cons (.tup (.cons (.c (.int 1)) (.cons (.c (.int 0)) .nil))) .nil))) (.v 2))) .nil))⟩
/-- need_belt: slots value -/
def f37 : FD := ⟨1, 1, (.cons (.iff (.nt (.call 6 (.cons (.v 0) .nil))) (.cons (.raise 1) .nil) .nil) .nil)⟩
/-- need_plates: slots value -/
def f38 : FD := ⟨1, 1, (.cons (.iff (.nt (.call 8 (.cons (.v 0) .nil))) (.cons (.raise 2) .nil) .nil) .nil)⟩
/-- need_order: slots belt plates -/
def f39 : FD := ⟨2, 2, (.cons (.ex (.call 37 (.cons (.v 0) .nil))) (.cons (.ex (.call 38 (.cons (.v 1) .nil))) .nil))⟩
/-- off_form: slots plate rounds far -/
def f40 : FD := ⟨2, 3, (.cons (.set 0 (.n 2) (.call 36 (.cons (.ix (.v 0) (.c (.int 1))) (.cons (.tup (.cons (.c (.str "b")) (.cons (.c (.int 0)) .nil))) .nil)))) (.cons (.set 0 (.n 2) (.ite (.cmp .eq (.v 2) (.tup (.cons (.c (.int 0)) (.cons (.c (.int 0)) .nil)))) (.tup (.cons (.c (.int 1)) (.cons (.c (.int 0)) .nil))) (.v 2))) (.cons (.rt (.call 33 (.cons (.call 33 (.cons (.tup (.cons (.c (.int 0)) (.cons (.ix (.v 0) (.c (.int 0))) .nil))) (.cons (.v 2) .nil))) (.cons (.tup (.cons (.bin .sub (.v 1) (.c (.int 1))) (.cons (.c (.int 0)) .nil))) .nil)))) .nil)))⟩
/-- comings_of: slots belt plates found number guest index plate first off turn form -/
def f41 : FD := ⟨2, 11, (.cons (.set 0 (.n 2) (.lst .nil)) (.cons (.forr (.t (.cons (.n 3) (.cons (.n 4) .nil))) (.enm (.ix (.v 0) (.c (.int 0)))) (.cons (.forr (.t (.cons (.n 5) (.cons (.n 6) .nil))) (.enm (.v 1)) (.cons (.set 0 (.n 7) (.call 33 (.cons (.tup (.cons (.c (.int 0)) (.cons (.ix (.v 6) (.c (.int 0))) .nil))) (.cons (.call 36 (.cons (.ix (.v 6) (.c (.int 1))) (.cons (.ix (.v 4) (.c (.int 0))) .nil))) .nil)))) (.cons (.set 0 (.n 8) (.call 40 (.cons (.v 6) (.cons (.ix (.v 0) (.c (.int 1))) .nil)))) (.cons (.forr (.n 9) (.rng1 (.bin .add (.ix (.v 0) (.c (.int 1))) (.c (.int 1)))) (.cons (.set 0 (.n 10) (.call 33 (.cons (.v 7) (.cons (.tup (.cons (.v 9) (.cons (.c (.int 0)) .nil))) .nil)))) (.cons (.iff (.and (.cmp .inn (.ix (.v 6) (.c (.int 2))) (.ix (.v 4) (.c (.int 1)))) (.cmp .lt (.call 35 (.cons (.call 34 (.cons (.v 10) (.cons (.v 8) .nil))) (.cons (.c (.int 10)) .nil))) (.c (.int 0)))) (.cons (.set 0 (.n 2) (.bin .add (.v 2) (.lst (.cons (.tup (.cons (.v 10) (.cons (.v 3) (.cons (.v 5) .nil)))) .nil)))) .nil) .nil) .nil))) .nil)))) .nil)) (.cons (.rt (.v 2)) .nil)))⟩
/-- in_order: slots comings n rows minute guest plate form -/
def f42 : FD := ⟨2, 7, (.cons (.set 0 (.n 2) (.bi .sorted (.cons (.comp (.tup (.cons (.call 10 (.cons (.v 6) (.cons (.v 1) .nil))) (.cons (.v 4) (.cons (.v 5) (.cons (.v 6) .nil))))) (.t (.cons (.n 6) (.cons (.n 4) (.cons (.n 5) .nil)))) (.ov (.v 0)) (.c (.bl true)) [6, 4, 5]) .nil))) (.cons (.rt (.comp (.tup (.cons (.v 6) (.cons (.v 4) (.cons (.v 5) .nil)))) (.t (.cons (.n 3) (.cons (.n 4) (.cons (.n 5) (.cons (.n 6) .nil))))) (.ov (.v 2)) (.c (.bl true)) [3, 4, 5, 6])) .nil))⟩
/-- can_take: slots guest taken form n -/
def f43 : FD := ⟨4, 4, (.cons (.iff (.cmp .ge (.bi .len (.cons (.v 1) .nil)) (.ix (.v 0) (.c (.int 3)))) (.cons (.rt (.c (.bl false))) .nil) .nil) (.cons (.rt (.or (.cmp .eq (.v 1) (.tup .nil)) (.cmp .ge (.call 35 (.cons (.call 34 (.cons (.v 2) (.cons (.call 33 (.cons (.ix (.ix (.v 1) (.neg (.c (.int 1)))) (.c (.int 1))) (.cons (.tup (.cons (.c (.int 0)) (.cons (.ix (.v 0) (.c (.int 2))) .nil))) .nil))) .nil))) (.cons (.v 3) .nil))) (.c (.int 0))))) .nil))⟩
/-- meals_of: slots belt plates n found gone form guest plate -/
def f44 : FD := ⟨3, 8, (.cons (.set 2 (.t (.cons (.n 3) (.cons (.n 4) .nil))) (.tup (.cons (.bin .mul (.tup (.cons (.tup .nil) .nil)) (.bi .len (.cons (.ix (.v 0) (.c (.int 0))) .nil))) (.cons (.tup .nil) .nil)))) (.cons (.forr (.t (.cons (.n 5) (.cons (.n 6) (.cons (.n 7) .nil)))) (.ov (.call 42 (.cons (.call 41 (.cons (.v 0) (.cons (.v 1) .nil))) (.cons (.v 2) .nil)))) (.cons (.iff (.and (.cmp .nin (.v 7) (.v 4)) (.call 43 (.cons (.ix (.ix (.v 0) (.c (.int 0))) (.v 6)) (.cons (.ix (.v 3) (.v 6)) (.cons (.v 5) (.cons (.v 2) .nil)))))) (.cons (.set 0 (.n 3) (.bin .add (.bin .add (.slh (.v 3) (.v 6)) (.tup (.cons (.bin .add (.ix (.v 3) (.v 6)) (.tup (.cons (.tup (.cons (.v 7) (.cons (.v 5) .nil))) .nil))) .nil))) (.sll (.v 3) (.bin .add (.v 6) (.c (.int 1)))))) (.cons (.set 0 (.n 4) (.bin .add (.v 4) (.tup (.cons (.v 7) .nil)))) .nil)) .nil) .nil)) (.cons (.rt (.v 3)) .nil)))⟩
/-- story_of: slots belt plates n meals gone rest some index plate form -/
def f45 : FD := ⟨3, 10, (.cons (.set 0 (.n 3) (.call 44 (.cons (.v 0) (.cons (.v 1) (.cons (.v 2) .nil))))) (.cons (.set 0 (.n 4) (.comp2 (.v 8) (.n 6) (.ov (.v 3)) (.c (.bl true)) (.t (.cons (.n 8) (.cons (.n 9) .nil))) (.ov (.v 6)) (.c (.bl true)) [6, 8, 9] [8, 9])) (.cons (.set 1 (.n 5) (.comp (.v 7) (.n 7) (.rng1 (.bi .len (.cons (.v 1) .nil))) (.cmp .nin (.v 7) (.v 4)) [7])) (.cons (.rt (.tup (.cons (.v 3) (.cons (.bi .tuple (.cons (.comp (.tup (.cons (.v 7) (.cons (.call 40 (.cons (.ix (.v 1) (.v 7)) (.cons (.ix (.v 0) (.c (.int 1))) .nil))) .nil))) (.n 7) (.ov (.v 5)) (.c (.bl true)) [7]) .nil)) .nil)))) .nil))))⟩
/-- minutes_of: slots belt plates n some plate form -/
def f46 : FD := ⟨3, 6, (.cons (.rt (.bi .tuple (.cons (.comp (.bi .tuple (.cons (.comp (.tup (.cons (.v 4) (.cons (.call 10 (.cons (.v 5) (.cons (.v 2) .nil))) .nil))) (.t (.cons (.n 4) (.cons (.n 5) .nil))) (.ov (.v 3)) (.c (.bl true)) [4, 5]) .nil)) (.n 3) (.ov (.call 44 (.cons (.v 0) (.cons (.v 1) (.cons (.v 2) .nil))))) (.c (.bl true)) [3]) .nil))) .nil)⟩
/-- story: slots belt plates n -/
def f47 : FD := ⟨3, 3, (.cons (.ex (.call 39 (.cons (.v 0) (.cons (.v 1) .nil)))) (.cons (.ex (.call 11 (.cons (.v 2) .nil))) (.cons (.rt (.call 45 (.cons (.v 0) (.cons (.v 1) (.cons (.v 2) .nil))))) .nil)))⟩
/-- meals: slots belt plates n -/
def f48 : FD := ⟨3, 3, (.cons (.ex (.call 39 (.cons (.v 0) (.cons (.v 1) .nil)))) (.cons (.ex (.call 11 (.cons (.v 2) .nil))) (.cons (.rt (.call 46 (.cons (.v 0) (.cons (.v 1) (.cons (.v 2) .nil))))) .nil)))⟩
/-- _law_form: slots place -/
def f49 : FD := ⟨1, 1, (.cons (.rt (.ite (.cmp .eq (.ix (.v 0) (.c (.int 0))) (.c (.str "b"))) (.tup (.cons (.c (.int 0)) (.cons (.ix (.v 0) (.c (.int 1))) .nil))) (.tup (.cons (.c (.int 1)) (.cons (.neg (.ix (.v 0) (.c (.int 1)))) .nil))))) .nil)⟩
/-- _law_worth: slots form n -/
def f50 : FD := ⟨2, 2, (.cons (.rt (.bin .add (.bin .mul (.ix (.v 0) (.c (.int 0))) (.v 1)) (.ix (.v 0) (.c (.int 1))))) .nil)⟩
/-- _law_plus: slots form other times -/
def f51 : FD := ⟨3, 3, (.cons (.rt (.tup (.cons (.bin .add (.ix (.v 0) (.c (.int 0))) (.bin .mul (.v 2) (.ix (.v 1) (.c (.int 0))))) (.cons (.bin .add (.ix (.v 0) (.c (.int 1))) (.bin .mul (.v 2) (.ix (.v 1) (.c (.int 1))))) .nil)))) .nil)⟩
/-- _law_far: slots place goal far -/
def f52 : FD := ⟨2, 3, (.cons (.set 0 (.n 2) (.call 51 (.cons (.call 49 (.cons (.v 1) .nil)) (.cons (.call 49 (.cons (.v 0) .nil)) (.cons (.neg (.c (.int 1))) .nil))))) (.cons (.rt (.ite (.cmp .ge (.call 50 (.cons (.v 2) (.cons (.c (.int 100)) .nil))) (.c (.int 0))) (.v 2) (.call 51 (.cons (.v 2) (.cons (.tup (.cons (.c (.int 1)) (.cons (.c (.int 0)) .nil))) (.cons (.c (.int 1)) .nil)))))) .nil))⟩
/-- _law_passes: slots belt plate home start place off rows seat wants pause most turn first forms form -/
def f53 : FD := ⟨2, 15, (.cons (.set 2 (.t (.cons (.n 3) (.cons (.n 4) .nil))) (.tup (.cons (.tup (.cons (.c (.int 0)) (.cons (.ix (.v 1) (.c (.int 0))) .nil))) (.cons (.ix (.v 1) (.c (.int 1))) .nil)))) (.cons (.set 0 (.n 2) (.call 51 (.cons (.v 3) (.cons (.call 52 (.cons (.v 4) (.cons (.tup (.cons (.c (.str "b")) (.cons (.c (.int 0)) .nil))) .nil))) (.cons (.c (.int 1)) .nil))))) (.cons (.set 0 (.n 2) (.ite (.cmp .eq (.v 4) (.tup (.cons (.c (.str "b")) (.cons (.c (.int 0)) .nil)))) (.call 51 (.cons (.v 2) (.cons (.tup (.cons (.c (.int 1)) (.cons (.c (.int 0)) .nil))) (.cons (.c (.int 1)) .nil)))) (.v 2))) (.cons (.set 2 (.t (.cons (.n 5) (.cons (.n 6) .nil))) (.tup (.cons (.call 51 (.cons (.v 2) (.cons (.tup (.cons (.c (.int 1)) (.cons (.c (.int 0)) .nil))) (.cons (.bin .sub (.ix (.v 0) (.c (.int 1))) (.c (.int 1))) .nil)))) (.cons (.new (.lst .nil)) .nil)))) (.cons (.forr (.t (.cons (.n 7) (.cons (.n 8) (.cons (.n 9) (.cons (.n 10) .nil))))) (.ov (.ix (.v 0) (.c (.int 0)))) (.cons (.set 2 (.t (.cons (.n 12) (.cons (.n 13) .nil))) (.tup (.cons (.call 51 (.cons (.v 3) (.cons (.call 52 (.cons (.v 4) (.cons (.v 7) .nil))) (.cons (.c (.int 1)) .nil)))) (.cons (.new (.lst .nil)) .nil)))) (.cons (.forr (.n 11) (.rng1 (.bin .add (.ix (.v 0) (.c (.int 1))) (.c (.int 1)))) (.cons (.set 0 (.n 14) (.call 51 (.cons (.v 12) (.cons (.tup (.cons (.c (.int 1)) (.cons (.c (.int 0)) .nil))) (.cons (.v 11) .nil))))) (.cons (.iff (.and (.cmp .inn (.ix (.v 1) (.c (.int 2))) (.v 8)) (.cmp .lt (.call 50 (.cons (.v 14) (.cons (.c (.int 100)) .nil))) (.call 50 (.cons (.v 5) (.cons (.c (.int 100)) .nil))))) (.cons (.app (.v 13) (.v 14)) .nil) .nil) .nil))) (.cons (.frz 13 (.app (.v 6) (.v 13))) .nil)))) (.cons (.frz 6 (.rt (.tup (.cons (.v 6) (.cons (.v 5) .nil))))) .nil))))))⟩
/-- _law_comings: slots belt plates found number plate rows off guest forms form -/
def f54 : FD := ⟨2, 10, (.cons (.set 0 (.n 2) (.lst .nil)) (.cons (.forr (.t (.cons (.n 3) (.cons (.n 4) .nil))) (.enm (.v 1)) (.cons (.set 0 (.t (.cons (.n 5) (.cons (.n 6) .nil))) (.call 53 (.cons (.v 0) (.cons (.v 4) .nil)))) (.cons (.forr (.t (.cons (.n 7) (.cons (.n 8) .nil))) (.enm (.v 5)) (.cons (.set 0 (.n 2) (.bin .add (.v 2) (.comp (.tup (.cons (.v 9) (.cons (.v 7) (.cons (.v 3) .nil)))) (.n 9) (.ov (.v 8)) (.c (.bl true)) [9]))) .nil)) .nil))) (.cons (.rt (.v 2)) .nil)))⟩
/-- _law_lined: slots comings n rows form guest plate -/
def f55 : FD := ⟨2, 6, (.cons (.set 0 (.n 2) (.new (.lst .nil))) (.cons (.forr (.t (.cons (.n 3) (.cons (.n 4) (.cons (.n 5) .nil)))) (.ov (.v 0)) (.cons (.app (.v 2) (.tup (.cons (.call 50 (.cons (.v 3) (.cons (.v 1) .nil))) (.cons (.v 4) (.cons (.v 5) (.cons (.ix (.v 3) (.c (.int 0))) (.cons (.ix (.v 3) (.c (.int 1))) .nil))))))) .nil)) (.cons (.rt (.bi .sorted (.cons (.v 2) .nil))) .nil)))⟩
/-- _law_story: slots belt plates n thrown waiting had gone minute guest plate a b last free number seat wants pause most -/
def f56 : FD := ⟨3, 19, (.cons (.set 3 (.t (.cons (.n 4) (.cons (.n 5) (.cons (.n 6) .nil)))) (.tup (.cons (.call 54 (.cons (.v 0) (.cons (.v 1) .nil))) (.cons (.new (.bin .mul (.lst (.cons (.tup .nil) .nil)) (.bi .len (.cons (.ix (.v 0) (.c (.int 0))) .nil)))) (.cons (.new (.lst .nil)) .nil))))) (.cons (.forr (.t (.cons (.n 7) (.cons (.n 8) (.cons (.n 9) (.cons (.n 10) (.cons (.n 11) .nil)))))) (.ov (.call 55 (.cons (.v 4) (.cons (.v 2) .nil)))) (.cons (.set 0 (.t (.cons (.n 15) (.cons (.n 16) (.cons (.n 17) (.cons (.n 18) .nil))))) (.ix (.ix (.v 0) (.c (.int 0))) (.v 8))) (.cons (.set 0 (.n 12) (.ite (.cmp .ne (.ix (.v 5) (.v 8)) (.tup .nil)) (.ix (.ix (.ix (.v 5) (.v 8)) (.neg (.c (.int 1)))) (.c (.int 1))) (.c .non))) (.cons (.set 0 (.n 13) (.or (.cmp .isn (.v 12) (.c .non)) (.cmp .ge (.bin .sub (.v 7) (.call 50 (.cons (.v 12) (.cons (.v 2) .nil)))) (.v 17)))) (.cons (.iff (.and (.cmp .nin (.v 9) (.v 6)) (.and (.v 13) (.cmp .lt (.bi .len (.cons (.ix (.v 5) (.v 8)) .nil)) (.v 18)))) (.cons (.seti (.v 5) (.v 8) (.bin .add (.ix (.v 5) (.v 8)) (.tup (.cons (.tup (.cons (.v 9) (.cons (.tup (.cons (.v 10) (.cons (.v 11) .nil))) .nil))) .nil)))) (.cons (.app (.v 6) (.v 9)) .nil)) .nil) .nil))))) (.cons (.set 0 (.n 3) (.tup .nil)) (.cons (.forr (.t (.cons (.n 14) (.cons (.n 9) .nil))) (.enm (.v 1)) (.cons (.iff (.cmp .nin (.v 14) (.v 6)) (.cons (.set 0 (.n 3) (.bin .add (.v 3) (.tup (.cons (.tup (.cons (.v 14) (.cons (.ix (.call 53 (.cons (.v 0) (.cons (.v 9) .nil))) (.c (.int 1))) .nil))) .nil)))) .nil) .nil) .nil)) (.cons (.rt (.tup (.cons (.bi .tuple (.cons (.v 5) .nil)) (.cons (.v 3) .nil)))) .nil)))))⟩
/-- _law_minutes: slots belt plates n minute taken gone rounds number here guest free when place kind seat wants pause most good -/
def f57 : FD := ⟨3, 19, (.cons (.set 3 (.t (.cons (.n 4) (.cons (.n 5) (.cons (.n 6) .nil)))) (.tup (.cons (.new (.bin .mul (.lst (.cons (.tup .nil) .nil)) (.bi .len (.cons (.ix (.v 0) (.c (.int 0))) .nil)))) (.cons (.new (.lst .nil)) (.cons (.new (.bin .mul (.lst (.cons (.c (.int 0)) .nil)) (.bi .len (.cons (.v 1) .nil)))) .nil))))) (.cons (.forr (.n 3) (.rng1 (.bin .add (.c (.int 310)) (.bin .mul (.c (.int 4)) (.v 2)))) (.cons (.forr (.t (.cons (.n 7) (.cons (.t (.cons (.n 11) (.cons (.n 12) (.cons (.n 13) .nil)))) .nil))) (.enm (.v 1)) (.cons (.set 0 (.n 8) (.bin .mod (.bin .sub (.bin .add (.call 22 (.cons (.v 12) (.cons (.v 2) .nil))) (.v 3)) (.v 11)) (.v 2))) (.cons (.iff (.and (.cmp .gt (.v 3) (.v 11)) (.and (.cmp .eq (.v 8) (.c (.int 0))) (.cmp .nin (.v 7) (.v 5)))) (.cons (.seti (.v 6) (.v 7) (.bin .add (.ix (.v 6) (.v 7)) (.c (.int 1)))) (.cons (.set 0 (.n 5) (.new (.bin .add (.v 5) (.ite (.cmp .eq (.ix (.v 6) (.v 7)) (.ix (.v 0) (.c (.int 1)))) (.lst (.cons (.v 7) .nil)) (.lst .nil))))) .nil)) .nil) .nil))) (.cons (.forr (.t (.cons (.n 9) (.cons (.t (.cons (.n 14) (.cons (.n 15) (.cons (.n 16) (.cons (.n 17) .nil))))) .nil))) (.enm (.ix (.v 0) (.c (.int 0)))) (.cons (.set 0 (.n 10) (.cmp .lt (.bi .len (.cons (.ix (.v 4) (.v 9)) .nil)) (.v 17))) (.cons (.iff (.and (.cmp .ne (.ix (.v 4) (.v 9)) (.tup .nil)) (.cmp .lt (.bin .sub (.v 3) (.ix (.ix (.ix (.v 4) (.v 9)) (.neg (.c (.int 1)))) (.c (.int 1)))) (.v 16))) (.cons (.set 0 (.n 10) (.c (.bl false))) .nil) .nil) (.cons (.forr (.t (.cons (.n 7) (.cons (.t (.cons (.n 11) (.cons (.n 12) (.cons (.n 13) .nil)))) .nil))) (.enm (.v 1)) (.cons (.set 0 (.n 8) (.bin .mod (.bin .sub (.bin .add (.call 22 (.cons (.v 12) (.cons (.v 2) .nil))) (.v 3)) (.v 11)) (.v 2))) (.cons (.set 0 (.n 18) (.and (.cmp .ge (.v 3) (.v 11)) (.cmp .nin (.v 7) (.v 5)))) (.cons (.set 0 (.n 18) (.and (.v 18) (.cmp .eq (.v 8) (.call 22 (.cons (.v 14) (.cons (.v 2) .nil)))))) (.cons (.iff (.and (.v 10) (.and (.v 18) (.cmp .inn (.v 13) (.v 15)))) (.cons (.seti (.v 4) (.v 9) (.bin .add (.ix (.v 4) (.v 9)) (.tup (.cons (.tup (.cons (.v 7) (.cons (.v 3) .nil))) .nil)))) (.cons (.set 0 (.n 10) (.c (.bl false))) (.cons (.app (.v 5) (.v 7)) .nil))) .nil) .nil))))) .nil)))) .nil))) (.cons (.rt (.bi .tuple (.cons (.v 4) .nil))) .nil)))⟩
/-- law: slots script k source turn n guest plates both longer told due some belt row one -/
def f58 : FD := ⟨1, 15, (.cons (.forr (.n 1) (.rng1 (.bin .add (.c (.int 1)) (.bi .min2 (.cons (.bi .len (.cons (.v 0) .nil)) (.cons (.c (.int 10)) .nil))))) (.cons (.set 0 (.n 2) (.call 16 (.cons (.v 0) (.cons (.v 1) .nil)))) (.cons (.forr (.n 3) (.rng1 (.c (.int 4))) (.cons (.set 2 (.t (.cons (.n 12) (.cons (.n 6) .nil))) (.tup (.cons (.call 20 (.cons (.v 2) .nil)) (.cons (.call 21 (.cons (.v 2) (.cons (.c (.int 4)) .nil))) .nil)))) (.cons (.set 0 (.n 4) (.bin .add (.c (.int 10)) (.call 17 (.cons (.v 2) (.cons (.call 18 (.cons (.v 2) (.cons (.lst (.cons (.c (.int 4)) (.cons (.c (.int 30)) (.cons (.c (.int 300)) (.cons (.bin .sub (.bin .pow (.c (.int 10)) (.c (.int 30))) (.c (.int 9))) .nil))))) .nil))) .nil))))) (.cons (.set 0 (.n 9) (.call 56 (.cons (.v 12) (.cons (.v 6) (.cons (.v 4) .nil))))) (.cons (.iff (.cmp .ne (.call 47 (.cons (.v 12) (.cons (.v 6) (.cons (.v 4) .nil)))) (.v 9)) (.cons (.rt (.c (.bl false))) .nil) .nil) (.cons (.set 0 (.n 10) (.tup .nil)) (.cons (.forr (.n 11) (.ov (.ix (.v 9) (.c (.int 0)))) (.cons (.set 1 (.n 13) (.comp (.tup (.cons (.ix (.v 14) (.c (.int 0))) (.cons (.call 50 (.cons (.ix (.v 14) (.c (.int 1))) (.cons (.v 4) .nil))) .nil))) (.n 14) (.ov (.v 11)) (.c (.bl true)) [14])) (.cons (.set 0 (.n 10) (.bin .add (.v 10) (.tup (.cons (.bi .tuple (.cons (.v 13) .nil)) .nil)))) .nil))) (.cons (.iff (.cmp .ne (.call 48 (.cons (.v 12) (.cons (.v 6) (.cons (.v 4) .nil)))) (.v 10)) (.cons (.rt (.c (.bl false))) .nil) .nil) .nil)))))))) (.cons (.set 0 (.n 4) (.bin .add (.c (.int 10)) (.call 17 (.cons (.v 2) (.cons (.c (.int 12)) .nil))))) (.cons (.iff (.cmp .ne (.call 48 (.cons (.v 12) (.cons (.v 6) (.cons (.v 4) .nil)))) (.call 57 (.cons (.v 12) (.cons (.v 6) (.cons (.v 4) .nil))))) (.cons (.rt (.c (.bl false))) .nil) .nil) .nil))))) (.cons (.set 0 (.t (.cons (.n 5) (.cons (.n 6) .nil))) (.tup (.cons (.tup (.cons (.tup (.cons (.c (.str "b")) (.cons (.c (.int 2)) .nil))) (.cons (.c (.str "r")) (.cons (.c (.int 5)) (.cons (.c (.int 2)) .nil))))) (.cons (.tup (.cons (.tup (.cons (.c (.int 0)) (.cons (.tup (.cons (.c (.str "b")) (.cons (.c (.int 0)) .nil))) (.cons (.c (.str "r")) .nil)))) (.cons (.tup (.cons (.c (.int 1)) (.cons (.tup (.cons (.c (.str "b")) (.cons (.c (.int 0)) .nil))) (.cons (.c (.str "r")) .nil)))) .nil))) .nil)))) (.cons (.iff (.cmp .ne (.call 47 (.cons (.tup (.cons (.tup (.cons (.v 5) .nil)) (.cons (.c (.int 1)) .nil))) (.cons (.v 6) (.cons (.c (.int 10)) .nil)))) (.tup (.cons (.tup (.cons (.tup (.cons (.tup (.cons (.c (.int 0)) (.cons (.tup (.cons (.c (.int 0)) (.cons (.c (.int 2)) .nil))) .nil))) .nil)) .nil)) (.cons (.tup (.cons (.tup (.cons (.c (.int 1)) (.cons (.tup (.cons (.c (.int 1)) (.cons (.c (.int 1)) .nil))) .nil))) .nil)) .nil)))) (.cons (.rt (.c (.bl false))) .nil) .nil) (.cons (.set 2 (.t (.cons (.n 7) (.cons (.n 8) .nil))) (.tup (.cons (.tup (.cons (.v 5) (.cons (.tup (.cons (.tup (.cons (.c (.str "t")) (.cons (.c (.int 1)) .nil))) (.cons (.c (.str "gr")) (.cons (.c (.int 12)) (.cons (.c (.int 4)) .nil))))) .nil))) (.cons (.bin .add (.v 6) (.tup (.cons (.tup (.cons (.c (.int 4)) (.cons (.tup (.cons (.c (.str "b")) (.cons (.c (.int 3)) .nil))) (.cons (.c (.str "g")) .nil)))) .nil))) .nil)))) (.cons (.iff (.cmp .ne (.call 48 (.cons (.tup (.cons (.v 7) (.cons (.c (.int 2)) .nil))) (.cons (.v 8) (.cons (.c (.int 10)) .nil)))) (.tup (.cons (.tup (.cons (.tup (.cons (.c (.int 0)) (.cons (.c (.int 2)) .nil))) .nil)) (.cons (.tup (.cons (.tup (.cons (.c (.int 1)) (.cons (.c (.int 10)) .nil))) .nil)) .nil)))) (.cons (.rt (.c (.bl false))) .nil) .nil) (.cons (.rt (.cmp .eq (.call 48 (.cons (.tup (.cons (.v 7) (.cons (.c (.int 2)) .nil))) (.cons (.v 8) (.cons (.c (.int 12)) .nil)))) (.tup (.cons (.tup (.cons (.tup (.cons (.c (.int 0)) (.cons (.c (.int 2)) .nil))) .nil)) (.cons (.tup (.cons (.tup (.cons (.c (.int 1)) (.cons (.c (.int 12)) .nil))) (.cons (.tup (.cons (.c (.int 2)) (.cons (.c (.int 24)) .nil))) .nil))) .nil))))) .nil))))))⟩
/-- same_to: slots form n here -/
def f59 : FD := ⟨2, 3, (.cons (.set 0 (.n 2) (.call 10 (.cons (.v 0) (.cons (.v 1) .nil)))) (.cons (.iff (.or (.cmp .eq (.ix (.v 0) (.c (.int 0))) (.c (.int 0))) (.cmp .gt (.bin .mul (.v 2) (.ix (.v 0) (.c (.int 0)))) (.c (.int 0)))) (.cons (.rt (.c .non)) .nil) .nil) (.cons (.rt (.ite (.cmp .ne (.v 2) (.c (.int 0))) (.bin .add (.v 1) (.bin .fdiv (.bin .sub (.bi .abs (.cons (.v 2) .nil)) (.c (.int 1))) (.bi .abs (.cons (.ix (.v 0) (.c (.int 0))) .nil)))) (.v 1))) .nil)))⟩
/-- all_tests: slots belt plates some found number guest own one other form plate -/
def f60 : FD := ⟨2, 11, (.cons (.set 0 (.n 2) (.call 41 (.cons (.v 0) (.cons (.v 1) .nil)))) (.cons (.set 1 (.n 3) (.comp2 (.call 34 (.cons (.ix (.v 7) (.c (.int 0))) (.cons (.ix (.v 8) (.c (.int 0))) .nil))) (.n 7) (.ov (.v 2)) (.c (.bl true)) (.n 8) (.ov (.v 2)) (.c (.bl true)) [7, 8] [8])) (.cons (.forr (.t (.cons (.n 4) (.cons (.n 5) .nil))) (.enm (.ix (.v 0) (.c (.int 0)))) (.cons (.set 0 (.n 6) (.comp (.v 9) (.t (.cons (.n 9) (.cons (.n 8) (.cons (.n 10) .nil)))) (.ov (.v 2)) (.cmp .eq (.v 8) (.v 4)) [9, 8, 10])) (.cons (.set 0 (.n 3) (.bin .add (.v 3) (.comp2 (.call 34 (.cons (.call 34 (.cons (.v 7) (.cons (.v 8) .nil))) (.cons (.tup (.cons (.c (.int 0)) (.cons (.ix (.v 5) (.c (.int 2))) .nil))) .nil))) (.n 7) (.ov (.v 6)) (.c (.bl true)) (.n 8) (.ov (.v 6)) (.c (.bl true)) [7, 8] [8]))) .nil))) (.cons (.rt (.keys (.v 9) (.n 9) (.ov (.v 3)) (.cmp .ne (.ix (.v 9) (.c (.int 0))) (.c (.int 0))) [9])) .nil))))⟩
/-- until: slots forms n ends form end -/
def f61 : FD := ⟨2, 5, (.cons (.set 1 (.n 2) (.comp (.call 59 (.cons (.v 3) (.cons (.v 1) .nil))) (.n 3) (.ov (.v 0)) (.c (.bl true)) [3])) (.cons (.set 1 (.n 2) (.comp (.bi .int (.cons (.v 4) .nil)) (.n 4) (.ov (.v 2)) (.cmp .notn (.v 4) (.c .non)) [4])) (.cons (.rt (.ite (.cmp .ne (.v 2) (.lst .nil)) (.bi .minL (.cons (.v 2) .nil)) (.c .non))) .nil)))⟩
/-- joined: slots rows found least greatest told -/
def f62 : FD := ⟨1, 5, (.cons (.set 0 (.n 1) (.lst .nil)) (.cons (.forr (.t (.cons (.n 2) (.cons (.n 3) (.cons (.n 4) .nil)))) (.ov (.v 0)) (.cons (.iff (.and (.cmp .ne (.v 1) (.lst .nil)) (.cmp .eq (.ix (.ix (.v 1) (.neg (.c (.int 1)))) (.c (.int 2))) (.v 4))) (.cons (.set 0 (.n 1) (.bin .add (.slh (.v 1) (.neg (.c (.int 1)))) (.lst (.cons (.tup (.cons (.ix (.ix (.v 1) (.neg (.c (.int 1)))) (.c (.int 0))) (.cons (.v 3) (.cons (.v 4) .nil)))) .nil)))) .nil) (.cons (.set 0 (.n 1) (.bin .add (.v 1) (.lst (.cons (.tup (.cons (.v 2) (.cons (.v 3) (.cons (.v 4) .nil)))) .nil)))) .nil)) .nil)) (.cons (.rt (.v 1)) .nil)))⟩
/-- all_stories: slots belt plates found n forms end -/
def f63 : FD := ⟨2, 6, (.cons (.set 3 (.t (.cons (.n 2) (.cons (.n 3) (.cons (.n 4) .nil)))) (.tup (.cons (.lst .nil) (.cons (.c (.int 10)) (.cons (.call 60 (.cons (.v 0) (.cons (.v 1) .nil))) .nil))))) (.cons (.whl (.cmp .notn (.v 3) (.c .non)) (.cons (.set 0 (.n 5) (.call 61 (.cons (.v 4) (.cons (.v 3) .nil)))) (.cons (.set 0 (.n 2) (.bin .add (.v 2) (.lst (.cons (.tup (.cons (.v 3) (.cons (.v 5) (.cons (.call 45 (.cons (.v 0) (.cons (.v 1) (.cons (.v 3) .nil)))) .nil)))) .nil)))) (.cons (.set 0 (.n 3) (.ite (.cmp .isn (.v 5) (.c .non)) (.c .non) (.bin .add (.v 5) (.c (.int 1))))) .nil)))) (.cons (.rt (.call 62 (.cons (.v 2) .nil))) .nil)))⟩
/-- table: slots belt plates -/
def f64 : FD := ⟨2, 2, (.cons (.ex (.call 39 (.cons (.v 0) (.cons (.v 1) .nil)))) (.cons (.rt (.call 63 (.cons (.v 0) (.cons (.v 1) .nil)))) .nil))⟩
/-- _law_some: slots source least greatest far -/
def f65 : FD := ⟨3, 4, (.cons (.iff (.cmp .isn (.v 2) (.c .non)) (.cons (.set 0 (.n 3) (.bin .add (.v 1) (.call 17 (.cons (.v 0) (.cons (.bin .sub (.bin .pow (.c (.int 10)) (.c (.int 30))) (.bin .pow (.c (.int 10)) (.c (.int 6)))) .nil))))) (.cons (.rt (.lst (.cons (.v 1) (.cons (.bin .add (.v 1) (.call 17 (.cons (.v 0) (.cons (.c (.int 200)) .nil)))) (.cons (.v 3) (.cons (.bin .pow (.c (.int 10)) (.c (.int 30))) .nil)))))) .nil)) .nil) (.cons (.rt (.lst (.cons (.v 1) (.cons (.v 2) (.cons (.bin .add (.v 1) (.call 17 (.cons (.v 0) (.cons (.bin .add (.bin .sub (.v 2) (.v 1)) (.c (.int 1))) .nil)))) .nil))))) .nil))⟩
/-- _law_shaped: slots rows one other -/
def f66 : FD := ⟨1, 3, (.cons (.iff (.or (.nt (.isi (.v 0) .lst)) (.cmp .eq (.v 0) (.lst .nil))) (.cons (.rt (.c (.bl false))) .nil) .nil) (.cons (.iff (.or (.cmp .ne (.ix (.ix (.v 0) (.c (.int 0))) (.c (.int 0))) (.c (.int 10))) (.cmp .notn (.ix (.ix (.v 0) (.neg (.c (.int 1)))) (.c (.int 1))) (.c .non))) (.cons (.rt (.c (.bl false))) .nil) .nil) (.cons (.forr (.t (.cons (.n 1) (.cons (.n 2) .nil))) (.zip (.v 0) (.sll (.v 0) (.c (.int 1)))) (.cons (.iff (.or (.cmp .isn (.ix (.v 1) (.c (.int 1))) (.c .non)) (.or (.cmp .lt (.ix (.v 1) (.c (.int 1))) (.ix (.v 1) (.c (.int 0)))) (.cmp .ne (.ix (.v 2) (.c (.int 0))) (.bin .add (.ix (.v 1) (.c (.int 1))) (.c (.int 1)))))) (.cons (.rt (.c (.bl false))) .nil) .nil) (.cons (.iff (.cmp .eq (.sll (.v 1) (.c (.int 2))) (.sll (.v 2) (.c (.int 2)))) (.cons (.rt (.c (.bl false))) .nil) .nil) .nil))) (.cons (.rt (.c (.bl true))) .nil))))⟩
/-- law: slots script k both plates source turn rows again belt least greatest told n found row -/
def f67 : FD := ⟨1, 15, (.cons (.forr (.n 1) (.rng1 (.bin .add (.c (.int 1)) (.bi .min2 (.cons (.bi .len (.cons (.v 0) .nil)) (.cons (.c (.int 8)) .nil))))) (.cons (.set 0 (.n 4) (.call 16 (.cons (.v 0) (.cons (.v 1) .nil)))) (.cons (.forr (.n 5) (.rng1 (.c (.int 2))) (.cons (.set 2 (.t (.cons (.n 8) (.cons (.n 3) .nil))) (.tup (.cons (.call 20 (.cons (.v 4) .nil)) (.cons (.call 21 (.cons (.v 4) (.cons (.c (.int 4)) .nil))) .nil)))) (.cons (.set 0 (.n 6) (.call 64 (.cons (.v 8) (.cons (.v 3) .nil)))) (.cons (.iff (.nt (.call 66 (.cons (.v 6) .nil))) (.cons (.rt (.c (.bl false))) .nil) .nil) (.cons (.forr (.t (.cons (.n 9) (.cons (.n 10) (.cons (.n 11) .nil)))) (.ov (.v 6)) (.cons (.forr (.n 12) (.ov (.call 65 (.cons (.v 4) (.cons (.v 9) (.cons (.v 10) .nil))))) (.cons (.iff (.cmp .ne (.call 56 (.cons (.v 8) (.cons (.v 3) (.cons (.v 12) .nil)))) (.v 11)) (.cons (.rt (.c (.bl false))) .nil) .nil) .nil)) .nil)) (.cons (.forr (.n 7) (.rng1 (.c (.int 8))) (.cons (.set 0 (.n 12) (.bin .add (.c (.int 10)) (.call 17 (.cons (.v 4) (.cons (.c (.int 500)) .nil))))) (.cons (.set 1 (.n 13) (.comp (.v 14) (.n 14) (.ov (.v 6)) (.cmp .le (.ix (.v 14) (.c (.int 0))) (.v 12)) [14])) (.cons (.iff (.cmp .ne (.ix (.ix (.v 13) (.neg (.c (.int 1)))) (.c (.int 2))) (.call 56 (.cons (.v 8) (.cons (.v 3) (.cons (.v 12) .nil))))) (.cons (.rt (.c (.bl false))) .nil) .nil) .nil)))) .nil)))))) .nil))) (.cons (.set 0 (.n 2) (.tup (.cons (.tup (.cons (.tup (.cons (.c (.str "b")) (.cons (.c (.int 2)) .nil))) (.cons (.c (.str "r")) (.cons (.c (.int 5)) (.cons (.c (.int 2)) .nil))))) (.cons (.tup (.cons (.tup (.cons (.c (.str "t")) (.cons (.c (.int 1)) .nil))) (.cons (.c (.str "gr")) (.cons (.c (.int 12)) (.cons (.c (.int 4)) .nil))))) .nil)))) (.cons (.set 0 (.n 3) (.tup (.cons (.tup (.cons (.c (.int 0)) (.cons (.tup (.cons (.c (.str "b")) (.cons (.c (.int 0)) .nil))) (.cons (.c (.str "r")) .nil)))) (.cons (.tup (.cons (.c (.int 1)) (.cons (.tup (.cons (.c (.str "b")) (.cons (.c (.int 0)) .nil))) (.cons (.c (.str "r")) .nil)))) (.cons (.tup (.cons (.c (.int 4)) (.cons (.tup (.cons (.c (.str "b")) (.cons (.c (.int 3)) .nil))) (.cons (.c (.str "g")) .nil)))) .nil))))) (.cons (.iff (.cmp .ne (.comp (.slh (.v 14) (.c (.int 2))) (.n 14) (.ov (.call 64 (.cons (.tup (.cons (.v 2) (.cons (.c (.int 2)) .nil))) (.cons (.v 3) .nil)))) (.c (.bl true)) [14]) (.lst (.cons (.tup (.cons (.c (.int 10)) (.cons (.c (.int 11)) .nil))) (.cons (.tup (.cons (.c (.int 12)) (.cons (.c .non) .nil))) .nil)))) (.cons (.rt (.c (.bl false))) .nil) .nil) (.cons (.rt (.cmp .eq (.call 64 (.cons (.tup (.cons (.v 2) (.cons (.c (.int 1)) .nil))) (.cons (.tup .nil) .nil))) (.lst (.cons (.tup (.cons (.c (.int 10)) (.cons (.c .non) (.cons (.tup (.cons (.tup (.cons (.tup .nil) (.cons (.tup .nil) .nil))) (.cons (.tup .nil) .nil))) .nil)))) .nil)))) .nil)))))⟩
/-- need_guest: slots belt value -/
def f68 : FD := ⟨2, 2, (.cons (.iff (.nt (.call 0 (.cons (.v 1) (.cons (.c (.int 0)) (.cons (.bin .sub (.bi .len (.cons (.ix (.v 0) (.c (.int 0))) .nil)) (.c (.int 1))) .nil))))) (.cons (.raise 5) .nil) .nil) .nil)⟩
/-- need_plate: slots plates value -/
def f69 : FD := ⟨2, 2, (.cons (.iff (.nt (.call 0 (.cons (.v 1) (.cons (.c (.int 0)) (.cons (.bin .sub (.bi .len (.cons (.v 0) .nil)) (.c (.int 1))) .nil))))) (.cons (.raise 6) .nil) .nil) .nil)⟩
/-- ends_of: slots belt plates told found index end guest some plate form -/
def f70 : FD := ⟨3, 10, (.cons (.set 0 (.n 3) (.lst .nil)) (.cons (.forr (.n 4) (.rng1 (.bi .len (.cons (.v 1) .nil))) (.cons (.set 1 (.n 5) (.comp (.tup (.cons (.c .non) (.cons (.v 9) .nil))) (.t (.cons (.n 8) (.cons (.n 9) .nil))) (.ov (.ix (.v 2) (.c (.int 1)))) (.cmp .eq (.v 8) (.v 4)) [8, 9])) (.cons (.forr (.t (.cons (.n 6) (.cons (.n 7) .nil))) (.enm (.ix (.v 2) (.c (.int 0)))) (.cons (.set 0 (.n 5) (.bin .add (.v 5) (.comp (.tup (.cons (.v 6) (.cons (.v 9) .nil))) (.t (.cons (.n 8) (.cons (.n 9) .nil))) (.ov (.v 7)) (.cmp .eq (.v 8) (.v 4)) [8, 9]))) .nil)) (.cons (.set 0 (.n 3) (.bin .add (.v 3) (.v 5))) .nil)))) (.cons (.rt (.v 3)) .nil)))⟩
/-- all_ends: slots belt plates rows least greatest told -/
def f71 : FD := ⟨2, 6, (.cons (.set 0 (.n 2) (.call 63 (.cons (.v 0) (.cons (.v 1) .nil)))) (.cons (.rt (.call 62 (.cons (.comp (.tup (.cons (.v 3) (.cons (.v 4) (.cons (.call 70 (.cons (.v 0) (.cons (.v 1) (.cons (.v 5) .nil)))) .nil)))) (.t (.cons (.n 3) (.cons (.n 4) (.cons (.n 5) .nil)))) (.ov (.v 2)) (.c (.bl true)) [3, 4, 5]) .nil))) .nil))⟩
/-- lesser_end: slots one other -/
def f72 : FD := ⟨2, 2, (.cons (.iff (.cmp .isn (.v 0) (.c .non)) (.cons (.rt (.v 1)) .nil) .nil) (.cons (.rt (.ite (.or (.cmp .isn (.v 1) (.c .non)) (.cmp .lt (.v 0) (.v 1))) (.v 0) (.v 1))) .nil))⟩
/-- by_signs: slots least greatest forms found n end form -/
def f73 : FD := ⟨3, 7, (.cons (.set 0 (.t (.cons (.n 3) (.cons (.n 4) .nil))) (.tup (.cons (.lst .nil) (.cons (.v 0) .nil)))) (.cons (.whl (.and (.cmp .notn (.v 4) (.c .non)) (.or (.cmp .isn (.v 1) (.c .non)) (.cmp .le (.v 4) (.v 1)))) (.cons (.set 0 (.n 5) (.call 72 (.cons (.call 61 (.cons (.v 2) (.cons (.v 4) .nil))) (.cons (.v 1) .nil)))) (.cons (.set 0 (.n 3) (.bin .add (.v 3) (.lst (.cons (.tup (.cons (.v 4) (.cons (.v 5) (.cons (.bi .tuple (.cons (.comp (.call 35 (.cons (.v 6) (.cons (.v 4) .nil))) (.n 6) (.ov (.v 2)) (.c (.bl true)) [6]) .nil)) .nil)))) .nil)))) (.cons (.set 0 (.n 4) (.ite (.cmp .isn (.v 5) (.c .non)) (.c .non) (.bin .add (.v 5) (.c (.int 1))))) .nil)))) (.cons (.rt (.v 3)) .nil)))⟩
/-- last_of: slots forms n best form -/
def f74 : FD := ⟨2, 4, (.cons (.set 0 (.n 2) (.ix (.v 0) (.c (.int 0)))) (.cons (.forr (.n 3) (.ov (.v 0)) (.cons (.iff (.cmp .gt (.call 35 (.cons (.call 34 (.cons (.v 3) (.cons (.v 2) .nil))) (.cons (.v 1) .nil))) (.c (.int 0))) (.cons (.set 0 (.n 2) (.v 3)) .nil) .nil) .nil)) (.cons (.rt (.v 2)) .nil)))⟩
/-- done_rows: slots belt plates found least greatest ends forms pairs low high signs one other guest form -/
def f75 : FD := ⟨2, 15, (.cons (.iff (.cmp .eq (.v 1) (.tup .nil)) (.cons (.rt (.lst (.cons (.tup (.cons (.c (.int 10)) (.cons (.c .non) (.cons (.tup (.cons (.c (.int 0)) (.cons (.c (.int 0)) .nil))) .nil)))) .nil))) .nil) .nil) (.cons (.set 0 (.n 2) (.lst .nil)) (.cons (.forr (.t (.cons (.n 3) (.cons (.n 4) (.cons (.n 5) .nil)))) (.ov (.call 71 (.cons (.v 0) (.cons (.v 1) .nil)))) (.cons (.set 0 (.n 6) (.comp (.v 14) (.t (.cons (.n 13) (.cons (.n 14) .nil))) (.ov (.v 5)) (.c (.bl true)) [13, 14])) (.cons (.set 1 (.n 7) (.comp2 (.call 34 (.cons (.v 11) (.cons (.v 12) .nil))) (.n 11) (.ov (.v 6)) (.c (.bl true)) (.n 12) (.ov (.v 6)) (.c (.bl true)) [11, 12] [12])) (.cons (.forr (.t (.cons (.n 8) (.cons (.n 9) (.cons (.n 10) .nil)))) (.ov (.call 73 (.cons (.v 3) (.cons (.v 4) (.cons (.v 7) .nil))))) (.cons (.set 0 (.n 2) (.bin .add (.v 2) (.lst (.cons (.tup (.cons (.v 8) (.cons (.v 9) (.cons (.call 74 (.cons (.v 6) (.cons (.v 8) .nil))) .nil)))) .nil)))) .nil)) .nil)))) (.cons (.rt (.call 62 (.cons (.v 2) .nil))) .nil))))⟩
/-- plate_table: slots belt plates plate rows least greatest pair ends -/
def f76 : FD := ⟨3, 8, (.cons (.ex (.call 39 (.cons (.v 0) (.cons (.v 1) .nil)))) (.cons (.ex (.call 69 (.cons (.v 1) (.cons (.v 2) .nil)))) (.cons (.set 0 (.n 3) (.call 62 (.cons (.comp (.tup (.cons (.v 4) (.cons (.v 5) (.cons (.ix (.v 7) (.v 2)) .nil)))) (.t (.cons (.n 4) (.cons (.n 5) (.cons (.n 7) .nil)))) (.ov (.call 71 (.cons (.v 0) (.cons (.v 1) .nil)))) (.c (.bl true)) [4, 5, 7]) .nil))) (.cons (.rt (.comp (.bin .add (.tup (.cons (.v 4) (.cons (.v 5) .nil))) (.v 6)) (.t (.cons (.n 4) (.cons (.n 5) (.cons (.n 6) .nil)))) (.ov (.v 3)) (.c (.bl true)) [4, 5, 6])) .nil))))⟩
/-- done_table: slots belt plates -/
def f77 : FD := ⟨2, 2, (.cons (.ex (.call 39 (.cons (.v 0) (.cons (.v 1) .nil)))) (.cons (.rt (.call 75 (.cons (.v 0) (.cons (.v 1) .nil)))) .nil))⟩
/-- thrown_rows: slots belt plates least greatest told -/
def f78 : FD := ⟨2, 5, (.cons (.rt (.call 62 (.cons (.comp (.tup (.cons (.v 2) (.cons (.v 3) (.cons (.bi .len (.cons (.ix (.v 4) (.c (.int 1))) .nil)) .nil)))) (.t (.cons (.n 2) (.cons (.n 3) (.cons (.n 4) .nil)))) (.ov (.call 63 (.cons (.v 0) (.cons (.v 1) .nil)))) (.c (.bl true)) [2, 3, 4]) .nil))) .nil)⟩
/-- first_of: slots some -/
def f79 : FD := ⟨1, 1, (.cons (.rt (.ite (.cmp .ne (.v 0) (.tup .nil)) (.ix (.v 0) (.c (.int 0))) (.tup (.cons (.c .non) (.cons (.c .non) .nil))))) .nil)⟩
/-- first_table: slots belt plates guest rows least greatest pair told -/
def f80 : FD := ⟨3, 8, (.cons (.ex (.call 39 (.cons (.v 0) (.cons (.v 1) .nil)))) (.cons (.ex (.call 68 (.cons (.v 0) (.cons (.v 2) .nil)))) (.cons (.set 0 (.n 3) (.call 63 (.cons (.v 0) (.cons (.v 1) .nil)))) (.cons (.set 0 (.n 3) (.call 62 (.cons (.comp (.tup (.cons (.v 4) (.cons (.v 5) (.cons (.call 79 (.cons (.ix (.ix (.v 7) (.c (.int 0))) (.v 2)) .nil)) .nil)))) (.t (.cons (.n 4) (.cons (.n 5) (.cons (.n 7) .nil)))) (.ov (.v 3)) (.c (.bl true)) [4, 5, 7]) .nil))) (.cons (.rt (.comp (.bin .add (.tup (.cons (.v 4) (.cons (.v 5) .nil))) (.v 6)) (.t (.cons (.n 4) (.cons (.n 5) (.cons (.n 6) .nil)))) (.ov (.v 3)) (.c (.bl true)) [4, 5, 6])) .nil)))))⟩
/-- thrown_table: slots belt plates -/
def f81 : FD := ⟨2, 2, (.cons (.ex (.call 39 (.cons (.v 0) (.cons (.v 1) .nil)))) (.cons (.rt (.call 78 (.cons (.v 0) (.cons (.v 1) .nil)))) .nil))⟩
/-- _law_ends: slots belt plates told found number end guest some one -/
def f82 : FD := ⟨3, 9, (.cons (.set 0 (.n 3) (.lst .nil)) (.cons (.forr (.n 4) (.rng1 (.bi .len (.cons (.v 1) .nil))) (.cons (.set 1 (.n 5) (.comp (.tup (.cons (.c .non) (.cons (.ix (.v 8) (.c (.int 1))) .nil))) (.n 8) (.ov (.ix (.v 2) (.c (.int 1)))) (.cmp .eq (.ix (.v 8) (.c (.int 0))) (.v 4)) [8])) (.cons (.forr (.t (.cons (.n 6) (.cons (.n 7) .nil))) (.enm (.ix (.v 2) (.c (.int 0)))) (.cons (.set 0 (.n 5) (.bin .add (.v 5) (.comp (.tup (.cons (.v 6) (.cons (.ix (.v 8) (.c (.int 1))) .nil))) (.n 8) (.ov (.v 7)) (.cmp .eq (.ix (.v 8) (.c (.int 0))) (.v 4)) [8]))) .nil)) (.cons (.set 0 (.n 3) (.bin .add (.v 3) (.v 5))) .nil)))) (.cons (.rt (.v 3)) .nil)))⟩
/-- _law_plate: slots number told -/
def f83 : FD := ⟨2, 2, (.cons (.rt (.ix (.ix (.v 1) (.c (.int 1))) (.v 0))) .nil)⟩
/-- _law_last: slots told n best number guest form -/
def f84 : FD := ⟨2, 6, (.cons (.set 0 (.n 2) (.tup (.cons (.c (.int 0)) (.cons (.c (.int 0)) .nil)))) (.cons (.forr (.t (.cons (.n 3) (.cons (.t (.cons (.n 4) (.cons (.n 5) .nil))) .nil))) (.enm (.ix (.v 0) (.c (.int 1)))) (.cons (.iff (.or (.cmp .eq (.v 3) (.c (.int 0))) (.cmp .gt (.call 50 (.cons (.v 5) (.cons (.v 1) .nil))) (.call 50 (.cons (.v 2) (.cons (.v 1) .nil))))) (.cons (.set 0 (.n 2) (.v 5)) .nil) .nil) .nil)) (.cons (.rt (.tup (.cons (.v 2) .nil))) .nil)))⟩
/-- _law_first: slots guest told some -/
def f85 : FD := ⟨2, 3, (.cons (.set 0 (.n 2) (.ix (.ix (.ix (.v 1) (.c (.int 0))) (.c (.int 0))) (.v 0))) (.cons (.rt (.ite (.cmp .ne (.v 2) (.tup .nil)) (.ix (.v 2) (.c (.int 0))) (.tup (.cons (.c .non) (.cons (.c .non) .nil))))) .nil))⟩
/-- parted: slots rows other_rows found least greatest told other_least other_greatest other_told low high -/
def f88 : FD := ⟨2, 11, (.cons (.set 0 (.n 2) (.lst .nil)) (.cons (.forr (.t (.cons (.n 3) (.cons (.n 4) (.cons (.n 5) .nil)))) (.ov (.v 0)) (.cons (.forr (.t (.cons (.n 6) (.cons (.n 7) (.cons (.n 8) .nil)))) (.ov (.v 1)) (.cons (.set 0 (.n 9) (.ite (.cmp .gt (.v 3) (.v 6)) (.v 3) (.v 6))) (.cons (.set 0 (.n 10) (.call 72 (.cons (.v 4) (.cons (.v 7) .nil)))) (.cons (.iff (.or (.cmp .isn (.v 10) (.c .non)) (.cmp .le (.v 9) (.v 10))) (.cons (.set 0 (.n 2) (.bin .add (.v 2) (.lst (.cons (.tup (.cons (.v 9) (.cons (.v 10) (.cons (.tup (.cons (.v 5) (.cons (.v 8) .nil))) .nil)))) .nil)))) .nil) .nil) .nil)))) .nil)) (.cons (.rt (.v 2)) .nil)))⟩
/-- sign_rows: slots rows found least greatest form low high signs -/
def f89 : FD := ⟨1, 8, (.cons (.set 0 (.n 1) (.lst .nil)) (.cons (.forr (.t (.cons (.n 2) (.cons (.n 3) (.cons (.n 4) .nil)))) (.ov (.v 0)) (.cons (.set 0 (.n 1) (.bin .add (.v 1) (.comp (.tup (.cons (.v 5) (.cons (.v 6) (.cons (.ix (.v 7) (.c (.int 0))) .nil)))) (.t (.cons (.n 5) (.cons (.n 6) (.cons (.n 7) .nil)))) (.ov (.call 73 (.cons (.v 2) (.cons (.v 3) (.cons (.lst (.cons (.v 4) .nil)) .nil))))) (.c (.bl true)) [5, 6, 7]))) .nil)) (.cons (.rt (.v 1)) .nil)))⟩
/-- truth_of: slots truths -/
def f90 : FD := ⟨1, 1, (.cons (.rt (.ite (.cmp .eq (.mt .count (.v 0) (.cons (.ix (.v 0) (.c (.int 0))) .nil)) (.bi .len (.cons (.v 0) .nil))) (.ix (.v 0) (.c (.int 0))) (.c .non))) .nil)⟩
/-- first_true: slots rows some least truth -/
def f91 : FD := ⟨1, 4, (.cons (.set 1 (.n 1) (.comp (.v 2) (.t (.cons (.n 2) (.cons (.n 3) .nil))) (.ov (.v 0)) (.v 3) [2, 3])) (.cons (.rt (.ite (.cmp .ne (.v 1) (.lst .nil)) (.ix (.v 1) (.c (.int 0))) (.c .non))) .nil))⟩
/-- eating_rows: slots belt plates guest plate least greatest ends -/
def f92 : FD := ⟨4, 7, (.cons (.rt (.comp (.tup (.cons (.v 4) (.cons (.cmp .eq (.ix (.ix (.v 6) (.v 3)) (.c (.int 0))) (.v 2)) .nil))) (.t (.cons (.n 4) (.cons (.n 5) (.cons (.n 6) .nil)))) (.ov (.call 71 (.cons (.v 0) (.cons (.v 1) .nil)))) (.c (.bl true)) [4, 5, 6])) .nil)⟩
/-- earlier_rows: slots belt plates one other rows forms least greatest ends sign -/
def f93 : FD := ⟨4, 10, (.cons (.set 0 (.n 4) (.call 71 (.cons (.v 0) (.cons (.v 1) .nil)))) (.cons (.set 1 (.n 5) (.comp (.tup (.cons (.v 6) (.cons (.v 7) (.cons (.call 34 (.cons (.ix (.ix (.v 8) (.v 2)) (.c (.int 1))) (.cons (.ix (.ix (.v 8) (.v 3)) (.c (.int 1))) .nil))) .nil)))) (.t (.cons (.n 6) (.cons (.n 7) (.cons (.n 8) .nil)))) (.ov (.v 4)) (.c (.bl true)) [6, 7, 8])) (.cons (.rt (.comp (.tup (.cons (.v 6) (.cons (.cmp .lt (.v 9) (.c (.int 0))) .nil))) (.t (.cons (.n 6) (.cons (.n 7) (.cons (.n 9) .nil)))) (.ov (.call 89 (.cons (.v 5) .nil))) (.c (.bl true)) [6, 7, 9])) .nil)))⟩
/-- later_rows: slots one_belt other_belt plates plate rows forms least greatest sign one other -/
def f94 : FD := ⟨4, 11, (.cons (.set 0 (.n 4) (.call 88 (.cons (.call 71 (.cons (.v 0) (.cons (.v 2) .nil))) (.cons (.call 71 (.cons (.v 1) (.cons (.v 2) .nil))) .nil)))) (.cons (.set 1 (.n 5) (.comp (.tup (.cons (.v 6) (.cons (.v 7) (.cons (.call 34 (.cons (.ix (.ix (.v 9) (.v 3)) (.c (.int 1))) (.cons (.ix (.ix (.v 10) (.v 3)) (.c (.int 1))) .nil))) .nil)))) (.t (.cons (.n 6) (.cons (.n 7) (.cons (.t (.cons (.n 9) (.cons (.n 10) .nil))) .nil)))) (.ov (.v 4)) (.c (.bl true)) [6, 7, 9, 10])) (.cons (.rt (.comp (.tup (.cons (.v 6) (.cons (.cmp .gt (.v 8) (.c (.int 0))) .nil))) (.t (.cons (.n 6) (.cons (.n 7) (.cons (.n 8) .nil)))) (.ov (.call 89 (.cons (.v 5) .nil))) (.c (.bl true)) [6, 7, 8])) .nil)))⟩
/-- need_eating: slots belt plates guest plate -/
def f95 : FD := ⟨4, 4, (.cons (.ex (.call 39 (.cons (.v 0) (.cons (.v 1) .nil)))) (.cons (.ex (.call 68 (.cons (.v 0) (.cons (.v 2) .nil)))) (.cons (.ex (.call 69 (.cons (.v 1) (.cons (.v 3) .nil)))) .nil)))⟩
/-- need_two: slots belt plates one other -/
def f96 : FD := ⟨4, 4, (.cons (.ex (.call 39 (.cons (.v 0) (.cons (.v 1) .nil)))) (.cons (.ex (.call 69 (.cons (.v 1) (.cons (.v 2) .nil)))) (.cons (.ex (.call 69 (.cons (.v 1) (.cons (.v 3) .nil)))) .nil)))⟩
/-- need_belts: slots one_belt other_belt plates plate -/
def f97 : FD := ⟨4, 4, (.cons (.ex (.call 37 (.cons (.v 0) .nil))) (.cons (.ex (.call 37 (.cons (.v 1) .nil))) (.cons (.ex (.call 38 (.cons (.v 2) .nil))) (.cons (.ex (.call 69 (.cons (.v 2) (.cons (.v 3) .nil)))) .nil))))⟩
/-- eats: slots belt plates guest plate least truth -/
def f98 : FD := ⟨4, 6, (.cons (.ex (.call 95 (.cons (.v 0) (.cons (.v 1) (.cons (.v 2) (.cons (.v 3) .nil)))))) (.cons (.rt (.call 90 (.cons (.comp (.v 5) (.t (.cons (.n 4) (.cons (.n 5) .nil))) (.ov (.call 92 (.cons (.v 0) (.cons (.v 1) (.cons (.v 2) (.cons (.v 3) .nil)))))) (.c (.bl true)) [4, 5]) .nil))) .nil))⟩
/-- first_eats: slots belt plates guest plate -/
def f99 : FD := ⟨4, 4, (.cons (.ex (.call 95 (.cons (.v 0) (.cons (.v 1) (.cons (.v 2) (.cons (.v 3) .nil)))))) (.cons (.rt (.call 91 (.cons (.call 92 (.cons (.v 0) (.cons (.v 1) (.cons (.v 2) (.cons (.v 3) .nil))))) .nil))) .nil))⟩
/-- before: slots belt plates one other least truth -/
def f100 : FD := ⟨4, 6, (.cons (.ex (.call 96 (.cons (.v 0) (.cons (.v 1) (.cons (.v 2) (.cons (.v 3) .nil)))))) (.cons (.rt (.call 90 (.cons (.comp (.v 5) (.t (.cons (.n 4) (.cons (.n 5) .nil))) (.ov (.call 93 (.cons (.v 0) (.cons (.v 1) (.cons (.v 2) (.cons (.v 3) .nil)))))) (.c (.bl true)) [4, 5]) .nil))) .nil))⟩
/-- first_before: slots belt plates one other -/
def f101 : FD := ⟨4, 4, (.cons (.ex (.call 96 (.cons (.v 0) (.cons (.v 1) (.cons (.v 2) (.cons (.v 3) .nil)))))) (.cons (.rt (.call 91 (.cons (.call 93 (.cons (.v 0) (.cons (.v 1) (.cons (.v 2) (.cons (.v 3) .nil))))) .nil))) .nil))⟩
/-- never_later: slots one_belt other_belt plates plate -/
def f102 : FD := ⟨4, 4, (.cons (.ex (.call 97 (.cons (.v 0) (.cons (.v 1) (.cons (.v 2) (.cons (.v 3) .nil)))))) (.cons (.rt (.cmp .isn (.call 91 (.cons (.call 94 (.cons (.v 0) (.cons (.v 1) (.cons (.v 2) (.cons (.v 3) .nil))))) .nil)) (.c .non))) .nil))⟩
/-- first_later: slots one_belt other_belt plates plate -/
def f103 : FD := ⟨4, 4, (.cons (.ex (.call 97 (.cons (.v 0) (.cons (.v 1) (.cons (.v 2) (.cons (.v 3) .nil)))))) (.cons (.rt (.call 91 (.cons (.call 94 (.cons (.v 0) (.cons (.v 1) (.cons (.v 2) (.cons (.v 3) .nil))))) .nil))) .nil))⟩
/-- _law_until: slots forms n found a b value end -/
def f104 : FD := ⟨2, 7, (.cons (.set 0 (.n 2) (.c .non)) (.cons (.forr (.t (.cons (.n 3) (.cons (.n 4) .nil))) (.ov (.v 0)) (.cons (.set 0 (.n 5) (.bin .add (.bin .mul (.v 3) (.v 1)) (.v 4))) (.cons (.iff (.and (.cmp .ne (.v 3) (.c (.int 0))) (.or (.cmp .eq (.v 5) (.c (.int 0))) (.cmp .ne (.cmp .gt (.v 5) (.c (.int 0))) (.cmp .gt (.v 3) (.c (.int 0)))))) (.cons (.set 0 (.n 6) (.ite (.cmp .eq (.v 5) (.c (.int 0))) (.v 1) (.bin .add (.v 1) (.bin .fdiv (.bin .sub (.bi .abs (.cons (.v 5) .nil)) (.c (.int 1))) (.bi .abs (.cons (.v 3) .nil)))))) (.cons (.set 0 (.n 2) (.ite (.or (.cmp .isn (.v 2) (.c .non)) (.cmp .lt (.v 6) (.v 2))) (.v 6) (.v 2))) .nil)) .nil) .nil))) (.cons (.rt (.v 2)) .nil)))⟩
/-- _law_tests: slots belt plates some found one guest plate other late item far rows row -/
def f105 : FD := ⟨2, 13, (.cons (.set 0 (.t (.cons (.n 2) (.cons (.n 3) .nil))) (.tup (.cons (.call 54 (.cons (.v 0) (.cons (.v 1) .nil))) (.cons (.lst .nil) .nil)))) (.cons (.forr (.t (.cons (.n 4) (.cons (.n 5) (.cons (.n 6) .nil)))) (.ov (.v 2)) (.cons (.forr (.t (.cons (.n 7) (.cons (.n 8) (.cons (.n 9) .nil)))) (.ov (.v 2)) (.cons (.set 0 (.n 10) (.call 51 (.cons (.v 4) (.cons (.v 7) (.cons (.neg (.c (.int 1))) .nil))))) (.cons (.set 0 (.n 11) (.new (.lst (.cons (.v 10) .nil)))) (.cons (.iff (.cmp .eq (.v 5) (.v 8)) (.cons (.app (.v 11) (.tup (.cons (.ix (.v 10) (.c (.int 0))) (.cons (.bin .sub (.ix (.v 10) (.c (.int 1))) (.ix (.ix (.ix (.v 0) (.c (.int 0))) (.v 5)) (.c (.int 2)))) .nil)))) .nil) .nil) (.cons (.frz 11 (.set 0 (.n 3) (.bin .add (.v 3) (.comp (.v 12) (.n 12) (.ov (.v 11)) (.and (.cmp .ne (.ix (.v 12) (.c (.int 0))) (.c (.int 0))) (.cmp .nin (.v 12) (.v 3))) [12])))) .nil))))) .nil)) (.cons (.rt (.v 3)) .nil)))⟩
/-- _law_rows: slots belt plates found n forms end told -/
def f106 : FD := ⟨2, 7, (.cons (.set 3 (.t (.cons (.n 2) (.cons (.n 3) (.cons (.n 4) .nil)))) (.tup (.cons (.new (.lst .nil)) (.cons (.c (.int 10)) (.cons (.call 105 (.cons (.v 0) (.cons (.v 1) .nil))) .nil))))) (.cons (.whl (.cmp .notn (.v 3) (.c .non)) (.cons (.set 2 (.t (.cons (.n 5) (.cons (.n 6) .nil))) (.tup (.cons (.call 104 (.cons (.v 4) (.cons (.v 3) .nil))) (.cons (.call 56 (.cons (.v 0) (.cons (.v 1) (.cons (.v 3) .nil)))) .nil)))) (.cons (.app (.v 2) (.lst (.cons (.v 3) (.cons (.v 5) (.cons (.call 82 (.cons (.v 0) (.cons (.v 1) (.cons (.v 6) .nil)))) .nil))))) (.cons (.set 0 (.n 3) (.ite (.cmp .isn (.v 5) (.c .non)) (.c .non) (.bin .add (.v 5) (.c (.int 1))))) .nil)))) (.cons (.frz 2 (.rt (.v 2))) .nil)))⟩
/-- _law_both: slots rows others found low high told_so other_low other_high other_so greatest least ends end -/
def f107 : FD := ⟨2, 13, (.cons (.set 0 (.n 2) (.new (.lst .nil))) (.cons (.forr (.t (.cons (.n 3) (.cons (.n 4) (.cons (.n 5) .nil)))) (.ov (.v 0)) (.cons (.forr (.t (.cons (.n 6) (.cons (.n 7) (.cons (.n 8) .nil)))) (.ov (.v 1)) (.cons (.set 2 (.t (.cons (.n 10) (.cons (.n 11) .nil))) (.tup (.cons (.bi .max2 (.cons (.v 3) (.cons (.v 6) .nil))) (.cons (.comp (.v 12) (.n 12) (.ov (.tup (.cons (.v 4) (.cons (.v 7) .nil)))) (.cmp .notn (.v 12) (.c .non)) [12]) .nil)))) (.cons (.set 0 (.n 9) (.ite (.cmp .ne (.v 11) (.lst .nil)) (.bi .minL (.cons (.comp (.bi .int (.cons (.v 12) .nil)) (.n 12) (.ov (.v 11)) (.c (.bl true)) [12]) .nil)) (.c .non))) (.cons (.iff (.or (.cmp .isn (.v 9) (.c .non)) (.cmp .le (.v 10) (.v 9))) (.cons (.app (.v 2) (.lst (.cons (.v 10) (.cons (.v 9) (.cons (.v 5) (.cons (.v 8) .nil)))))) .nil) .nil) .nil)))) .nil)) (.cons (.frz 2 (.rt (.v 2))) .nil)))⟩
/-- _law_cuts: slots least greatest forms found n end -/
def f108 : FD := ⟨3, 6, (.cons (.set 2 (.t (.cons (.n 3) (.cons (.n 4) .nil))) (.tup (.cons (.new (.lst .nil)) (.cons (.v 0) .nil)))) (.cons (.whl (.and (.cmp .notn (.v 4) (.c .non)) (.or (.cmp .isn (.v 1) (.c .non)) (.cmp .le (.v 4) (.v 1)))) (.cons (.app (.v 3) (.v 4)) (.cons (.set 0 (.n 5) (.call 104 (.cons (.v 2) (.cons (.v 4) .nil)))) (.cons (.set 0 (.n 4) (.ite (.cmp .isn (.v 5) (.c .non)) (.c .non) (.bin .add (.v 5) (.c (.int 1))))) .nil)))) (.cons (.frz 3 (.rt (.v 3))) .nil)))⟩
/-- _law_first: slots truths some n truth -/
def f109 : FD := ⟨1, 4, (.cons (.set 1 (.n 1) (.comp (.v 2) (.t (.cons (.n 2) (.cons (.n 3) .nil))) (.ov (.v 0)) (.v 3) [2, 3])) (.cons (.rt (.ite (.cmp .ne (.v 1) (.lst .nil)) (.ix (.v 1) (.c (.int 0))) (.c .non))) .nil))⟩
/-- _law_truth: slots truths some n truth -/
def f110 : FD := ⟨1, 4, (.cons (.set 1 (.n 1) (.comp (.v 3) (.t (.cons (.n 2) (.cons (.n 3) .nil))) (.ov (.v 0)) (.c (.bl true)) [2, 3])) (.cons (.rt (.ite (.cmp .nin (.c (.bl false)) (.v 1)) (.c (.bl true)) (.ite (.cmp .inn (.c (.bl true)) (.v 1)) (.c .non) (.c (.bl false))))) .nil))⟩
/-- _law_told_right: slots found first truths due -/
def f111 : FD := ⟨3, 4, (.cons (.set 0 (.n 3) (.call 110 (.cons (.v 2) .nil))) (.cons (.iff (.or (.cmp .ne (.v 0) (.v 3)) (.cmp .ne (.cmp .isn (.v 0) (.c .non)) (.cmp .isn (.v 3) (.c .non)))) (.cons (.rt (.c (.bl false))) .nil) .nil) (.cons (.rt (.cmp .eq (.v 1) (.call 109 (.cons (.v 2) .nil)))) .nil)))⟩
/-- _law_earlier: slots rows one other found least greatest ends form n -/
def f112 : FD := ⟨3, 9, (.cons (.set 0 (.n 3) (.new (.lst .nil))) (.cons (.forr (.t (.cons (.n 4) (.cons (.n 5) (.cons (.n 6) .nil)))) (.ov (.v 0)) (.cons (.set 0 (.n 7) (.call 51 (.cons (.ix (.ix (.v 6) (.v 1)) (.c (.int 1))) (.cons (.ix (.ix (.v 6) (.v 2)) (.c (.int 1))) (.cons (.neg (.c (.int 1))) .nil))))) (.cons (.forr (.n 8) (.ov (.call 108 (.cons (.v 4) (.cons (.v 5) (.cons (.lst (.cons (.v 7) .nil)) .nil))))) (.cons (.app (.v 3) (.tup (.cons (.v 8) (.cons (.cmp .lt (.call 50 (.cons (.v 7) (.cons (.v 8) .nil))) (.c (.int 0))) .nil)))) .nil)) .nil))) (.cons (.frz 3 (.rt (.v 3))) .nil)))⟩
/-- _law_later: slots rows plate found least greatest mine yours form n -/
def f113 : FD := ⟨2, 9, (.cons (.set 0 (.n 2) (.new (.lst .nil))) (.cons (.forr (.t (.cons (.n 3) (.cons (.n 4) (.cons (.n 5) (.cons (.n 6) .nil))))) (.ov (.v 0)) (.cons (.set 0 (.n 7) (.call 51 (.cons (.ix (.ix (.v 5) (.v 1)) (.c (.int 1))) (.cons (.ix (.ix (.v 6) (.v 1)) (.c (.int 1))) (.cons (.neg (.c (.int 1))) .nil))))) (.cons (.forr (.n 8) (.ov (.call 108 (.cons (.v 3) (.cons (.v 4) (.cons (.lst (.cons (.v 7) .nil)) .nil))))) (.cons (.app (.v 2) (.tup (.cons (.v 8) (.cons (.cmp .gt (.call 50 (.cons (.v 7) (.cons (.v 8) .nil))) (.c (.int 0))) .nil)))) .nil)) .nil))) (.cons (.frz 2 (.rt (.v 2))) .nil)))⟩
/-- _law_plates_right: slots belt plates rows one guest other truths first row -/
def f114 : FD := ⟨4, 9, (.cons (.forr (.n 4) (.rng1 (.bi .len (.cons (.ix (.v 0) (.c (.int 0))) .nil))) (.cons (.set 1 (.n 6) (.comp (.tup (.cons (.ix (.v 8) (.c (.int 0))) (.cons (.cmp .eq (.ix (.ix (.ix (.v 8) (.c (.int 2))) (.v 3)) (.c (.int 0))) (.v 4)) .nil))) (.n 8) (.ov (.v 2)) (.c (.bl true)) [8])) (.cons (.set 0 (.n 7) (.call 99 (.cons (.v 0) (.cons (.v 1) (.cons (.v 4) (.cons (.v 3) .nil)))))) (.cons (.iff (.nt (.call 111 (.cons (.call 98 (.cons (.v 0) (.cons (.v 1) (.cons (.v 4) (.cons (.v 3) .nil))))) (.cons (.v 7) (.cons (.v 6) .nil))))) (.cons (.rt (.c (.bl false))) .nil) .nil) .nil)))) (.cons (.forr (.n 5) (.rng1 (.bi .len (.cons (.v 1) .nil))) (.cons (.set 0 (.n 6) (.call 112 (.cons (.v 2) (.cons (.v 3) (.cons (.v 5) .nil))))) (.cons (.set 0 (.n 7) (.call 101 (.cons (.v 0) (.cons (.v 1) (.cons (.v 3) (.cons (.v 5) .nil)))))) (.cons (.iff (.nt (.call 111 (.cons (.call 100 (.cons (.v 0) (.cons (.v 1) (.cons (.v 3) (.cons (.v 5) .nil))))) (.cons (.v 7) (.cons (.v 6) .nil))))) (.cons (.rt (.c (.bl false))) .nil) .nil) .nil)))) (.cons (.rt (.c (.bl true))) .nil)))⟩
/-- law: slots script k source both one guest plates short wide belt rows late due -/
def f115 : FD := ⟨1, 13, (.cons (.forr (.n 1) (.rng1 (.bin .add (.c (.int 1)) (.bi .min2 (.cons (.bi .len (.cons (.v 0) .nil)) (.cons (.c (.int 4)) .nil))))) (.cons (.set 0 (.n 2) (.call 16 (.cons (.v 0) (.cons (.v 1) .nil)))) (.cons (.set 2 (.t (.cons (.n 9) (.cons (.n 6) .nil))) (.tup (.cons (.call 20 (.cons (.v 2) .nil)) (.cons (.call 21 (.cons (.v 2) (.cons (.c (.int 3)) .nil))) .nil)))) (.cons (.set 2 (.t (.cons (.n 10) (.cons (.n 11) .nil))) (.tup (.cons (.call 106 (.cons (.v 9) (.cons (.v 6) .nil))) (.cons (.tup (.cons (.ix (.v 9) (.c (.int 0))) (.cons (.bin .add (.c (.int 1)) (.bin .mod (.ix (.v 9) (.c (.int 1))) (.c (.int 3)))) .nil))) .nil)))) (.cons (.iff (.cmp .eq (.call 17 (.cons (.v 2) (.cons (.c (.int 2)) .nil))) (.c (.int 0))) (.cons (.set 0 (.n 11) (.call 20 (.cons (.v 2) .nil))) .nil) .nil) (.cons (.set 0 (.n 3) (.call 107 (.cons (.v 10) (.cons (.call 106 (.cons (.v 11) (.cons (.v 6) .nil))) .nil)))) (.cons (.forr (.n 4) (.rng1 (.bi .len (.cons (.v 6) .nil))) (.cons (.iff (.nt (.call 114 (.cons (.v 9) (.cons (.v 6) (.cons (.v 10) (.cons (.v 4) .nil)))))) (.cons (.rt (.c (.bl false))) .nil) .nil) (.cons (.set 0 (.n 12) (.call 109 (.cons (.call 113 (.cons (.v 3) (.cons (.v 4) .nil))) .nil))) (.cons (.iff (.cmp .ne (.call 103 (.cons (.v 9) (.cons (.v 11) (.cons (.v 6) (.cons (.v 4) .nil))))) (.v 12)) (.cons (.rt (.c (.bl false))) .nil) .nil) (.cons (.iff (.cmp .ne (.call 102 (.cons (.v 9) (.cons (.v 11) (.cons (.v 6) (.cons (.v 4) .nil))))) (.cmp .isn (.v 12) (.c .non))) (.cons (.rt (.c (.bl false))) .nil) .nil) .nil))))) .nil))))))) (.cons (.set 0 (.t (.cons (.n 5) (.cons (.n 6) .nil))) (.tup (.cons (.tup (.cons (.tup (.cons (.c (.str "b")) (.cons (.c (.int 2)) .nil))) (.cons (.c (.str "r")) (.cons (.c (.int 5)) (.cons (.c (.int 2)) .nil))))) (.cons (.tup (.cons (.tup (.cons (.c (.int 0)) (.cons (.tup (.cons (.c (.str "b")) (.cons (.c (.int 0)) .nil))) (.cons (.c (.str "r")) .nil)))) (.cons (.tup (.cons (.c (.int 1)) (.cons (.tup (.cons (.c (.str "b")) (.cons (.c (.int 0)) .nil))) (.cons (.c (.str "r")) .nil)))) (.cons (.tup (.cons (.c (.int 4)) (.cons (.tup (.cons (.c (.str "b")) (.cons (.c (.int 3)) .nil))) (.cons (.c (.str "g")) .nil)))) .nil)))) .nil)))) (.cons (.set 2 (.t (.cons (.n 7) (.cons (.n 8) .nil))) (.tup (.cons (.tup (.cons (.tup (.cons (.v 5) (.cons (.tup (.cons (.tup (.cons (.c (.str "t")) (.cons (.c (.int 1)) .nil))) (.cons (.c (.str "gr")) (.cons (.c (.int 3)) (.cons (.c (.int 4)) .nil))))) .nil))) (.cons (.c (.int 2)) .nil))) (.cons (.tup (.cons (.tup (.cons (.v 5) (.cons (.tup (.cons (.tup (.cons (.c (.str "t")) (.cons (.c (.int 1)) .nil))) (.cons (.c (.str "gr")) (.cons (.c (.int 12)) (.cons (.c (.int 4)) .nil))))) .nil))) (.cons (.c (.int 2)) .nil))) .nil)))) (.cons (.iff (.or (.cmp .nis (.call 98 (.cons (.v 8) (.cons (.v 6) (.cons (.c (.int 0)) (.cons (.c (.int 0)) .nil))))) (.c (.bl true))) (.cmp .notn (.call 98 (.cons (.v 8) (.cons (.v 6) (.cons (.c (.int 1)) (.cons (.c (.int 2)) .nil))))) (.c .non))) (.cons (.rt (.c (.bl false))) .nil) .nil) (.cons (.iff (.or (.cmp .ne (.call 99 (.cons (.v 8) (.cons (.v 6) (.cons (.c (.int 1)) (.cons (.c (.int 2)) .nil))))) (.c (.int 12))) (.cmp .notn (.call 101 (.cons (.v 8) (.cons (.v 6) (.cons (.c (.int 2)) (.cons (.c (.int 1)) .nil))))) (.c .non))) (.cons (.rt (.c (.bl false))) .nil) .nil) (.cons (.iff (.or (.cmp .nis (.call 100 (.cons (.v 8) (.cons (.v 6) (.cons (.c (.int 0)) (.cons (.c (.int 1)) .nil))))) (.c (.bl true))) (.cmp .nis (.call 98 (.cons (.v 8) (.cons (.v 6) (.cons (.c (.int 0)) (.cons (.c (.int 2)) .nil))))) (.c (.bl false)))) (.cons (.rt (.c (.bl false))) .nil) .nil) (.cons (.iff (.cmp .ne (.call 103 (.cons (.v 8) (.cons (.v 7) (.cons (.v 6) (.cons (.c (.int 2)) .nil))))) (.c (.int 10))) (.cons (.rt (.c (.bl false))) .nil) .nil) (.cons (.rt (.call 102 (.cons (.v 7) (.cons (.v 8) (.cons (.v 6) (.cons (.c (.int 2)) .nil)))))) .nil))))))))⟩
/-- first_unlike: slots rows other_rows least greatest forms one other low high signs mine yours guest form sign -/
def f116 : FD := ⟨2, 15, (.cons (.forr (.t (.cons (.n 2) (.cons (.n 3) (.cons (.t (.cons (.n 5) (.cons (.n 6) .nil))) .nil)))) (.ov (.call 88 (.cons (.v 0) (.cons (.v 1) .nil)))) (.cons (.iff (.cmp .ne (.comp (.v 12) (.t (.cons (.n 12) (.cons (.n 13) .nil))) (.ov (.v 5)) (.c (.bl true)) [12, 13]) (.comp (.v 12) (.t (.cons (.n 12) (.cons (.n 13) .nil))) (.ov (.v 6)) (.c (.bl true)) [12, 13])) (.cons (.rt (.v 2)) .nil) .nil) (.cons (.set 1 (.n 4) (.comp (.call 34 (.cons (.ix (.v 10) (.c (.int 1))) (.cons (.ix (.v 11) (.c (.int 1))) .nil))) (.t (.cons (.n 10) (.cons (.n 11) .nil))) (.zip (.v 5) (.v 6)) (.c (.bl true)) [10, 11])) (.cons (.forr (.t (.cons (.n 7) (.cons (.n 8) (.cons (.n 9) .nil)))) (.ov (.call 73 (.cons (.v 2) (.cons (.v 3) (.cons (.v 4) .nil))))) (.cons (.iff (.bi .any (.cons (.comp (.cmp .ne (.v 14) (.c (.int 0))) (.n 14) (.ov (.v 9)) (.c (.bl true)) [14]) .nil)) (.cons (.rt (.v 7)) .nil) .nil) .nil)) .nil)))) (.cons (.rt (.c .non)) .nil))⟩
/-- unlike_length: slots one_belt one_plates other_belt other_plates -/
def f117 : FD := ⟨4, 4, (.cons (.rt (.call 116 (.cons (.call 71 (.cons (.v 0) (.cons (.v 1) .nil))) (.cons (.call 71 (.cons (.v 2) (.cons (.v 3) .nil))) .nil)))) .nil)⟩
/-- without: slots plates index -/
def f118 : FD := ⟨2, 2, (.cons (.rt (.bin .add (.slh (.v 0) (.v 1)) (.sll (.v 0) (.bin .add (.v 1) (.c (.int 1)))))) .nil)⟩
/-- is_idle: slots belt plates index rows least greatest ends -/
def f119 : FD := ⟨3, 7, (.cons (.set 1 (.n 3) (.comp (.tup (.cons (.v 4) (.cons (.v 5) (.cons (.bin .add (.slh (.v 6) (.v 2)) (.sll (.v 6) (.bin .add (.v 2) (.c (.int 1))))) .nil)))) (.t (.cons (.n 4) (.cons (.n 5) (.cons (.n 6) .nil)))) (.ov (.call 71 (.cons (.v 0) (.cons (.v 1) .nil)))) (.c (.bl true)) [4, 5, 6])) (.cons (.rt (.cmp .isn (.call 116 (.cons (.v 3) (.cons (.call 71 (.cons (.v 0) (.cons (.call 118 (.cons (.v 1) (.cons (.v 2) .nil))) .nil))) .nil))) (.c .non))) .nil))⟩
/-- need_two_orders: slots one_belt one_plates other_belt other_plates -/
def f120 : FD := ⟨4, 4, (.cons (.ex (.call 39 (.cons (.v 0) (.cons (.v 1) .nil)))) (.cons (.ex (.call 39 (.cons (.v 2) (.cons (.v 3) .nil)))) (.cons (.iff (.cmp .ne (.bi .len (.cons (.v 1) .nil)) (.bi .len (.cons (.v 3) .nil))) (.cons (.raise 7) .nil) .nil) .nil)))⟩
/-- alike: slots one_belt one_plates other_belt other_plates -/
def f121 : FD := ⟨4, 4, (.cons (.ex (.call 120 (.cons (.v 0) (.cons (.v 1) (.cons (.v 2) (.cons (.v 3) .nil)))))) (.cons (.rt (.cmp .isn (.call 117 (.cons (.v 0) (.cons (.v 1) (.cons (.v 2) (.cons (.v 3) .nil))))) (.c .non))) .nil))⟩
/-- parting: slots one_belt one_plates other_belt other_plates -/
def f122 : FD := ⟨4, 4, (.cons (.ex (.call 120 (.cons (.v 0) (.cons (.v 1) (.cons (.v 2) (.cons (.v 3) .nil)))))) (.cons (.rt (.call 117 (.cons (.v 0) (.cons (.v 1) (.cons (.v 2) (.cons (.v 3) .nil)))))) .nil))⟩
/-- idle_plates: slots belt plates index -/
def f123 : FD := ⟨2, 3, (.cons (.ex (.call 39 (.cons (.v 0) (.cons (.v 1) .nil)))) (.cons (.rt (.comp (.v 2) (.n 2) (.rng1 (.bi .len (.cons (.v 1) .nil))) (.call 119 (.cons (.v 0) (.cons (.v 1) (.cons (.v 2) .nil)))) [2])) .nil))⟩
/-- _law_near: slots source belt plates mode when place kind seat wants pause most -/
def f125 : FD := ⟨3, 11, (.cons (.set 0 (.n 3) (.call 17 (.cons (.v 0) (.cons (.c (.int 4)) .nil)))) (.cons (.iff (.cmp .eq (.v 3) (.c (.int 0))) (.cons (.rt (.tup (.cons (.tup (.cons (.ix (.v 1) (.c (.int 0))) (.cons (.bin .add (.c (.int 1)) (.bin .mod (.ix (.v 1) (.c (.int 1))) (.c (.int 3)))) .nil))) (.cons (.v 2) .nil)))) .nil) .nil) (.cons (.iff (.cmp .eq (.v 3) (.c (.int 1))) (.cons (.set 0 (.t (.cons (.n 7) (.cons (.n 8) (.cons (.n 9) (.cons (.n 10) .nil))))) (.ix (.ix (.v 1) (.c (.int 0))) (.c (.int 0)))) (.cons (.rt (.tup (.cons (.tup (.cons (.bin .add (.tup (.cons (.tup (.cons (.v 7) (.cons (.v 8) (.cons (.bin .add (.c (.int 1)) (.bin .mod (.v 9) (.c (.int 60)))) (.cons (.v 10) .nil))))) .nil)) (.sll (.ix (.v 1) (.c (.int 0))) (.c (.int 1)))) (.cons (.ix (.v 1) (.c (.int 1))) .nil))) (.cons (.v 2) .nil)))) .nil)) .nil) (.cons (.iff (.cmp .eq (.v 3) (.c (.int 2))) (.cons (.set 0 (.t (.cons (.n 7) (.cons (.n 8) (.cons (.n 9) (.cons (.n 10) .nil))))) (.ix (.ix (.v 1) (.c (.int 0))) (.neg (.c (.int 1))))) (.cons (.rt (.tup (.cons (.tup (.cons (.bin .add (.slh (.ix (.v 1) (.c (.int 0))) (.neg (.c (.int 1)))) (.tup (.cons (.tup (.cons (.v 7) (.cons (.v 8) (.cons (.v 9) (.cons (.bin .add (.c (.int 1)) (.bin .mod (.v 10) (.c (.int 4)))) .nil))))) .nil))) (.cons (.ix (.v 1) (.c (.int 1))) .nil))) (.cons (.v 2) .nil)))) .nil)) .nil) (.cons (.iff (.cmp .eq (.v 2) (.tup .nil)) (.cons (.rt (.tup (.cons (.v 1) (.cons (.v 2) .nil)))) .nil) .nil) (.cons (.set 0 (.t (.cons (.n 4) (.cons (.n 5) (.cons (.n 6) .nil)))) (.ix (.v 2) (.neg (.c (.int 1))))) (.cons (.rt (.tup (.cons (.v 1) (.cons (.bin .add (.slh (.v 2) (.neg (.c (.int 1)))) (.tup (.cons (.tup (.cons (.bi .min2 (.cons (.bin .add (.v 4) (.call 17 (.cons (.v 0) (.cons (.c (.int 3)) .nil)))) (.cons (.c (.int 300)) .nil))) (.cons (.v 5) (.cons (.v 6) .nil)))) .nil))) .nil)))) .nil)))))))⟩
/-- _law_unlike: slots rows others least greatest mine yours forms n one other form -/
def f126 : FD := ⟨2, 11, (.cons (.forr (.t (.cons (.n 2) (.cons (.n 3) (.cons (.n 4) (.cons (.n 5) .nil))))) (.ov (.call 107 (.cons (.v 0) (.cons (.v 1) .nil)))) (.cons (.iff (.cmp .ne (.comp (.ix (.v 8) (.c (.int 0))) (.n 8) (.ov (.v 4)) (.c (.bl true)) [8]) (.comp (.ix (.v 8) (.c (.int 0))) (.n 8) (.ov (.v 5)) (.c (.bl true)) [8])) (.cons (.rt (.v 2)) .nil) .nil) (.cons (.set 0 (.n 6) (.new (.lst .nil))) (.cons (.forr (.t (.cons (.n 8) (.cons (.n 9) .nil))) (.zip (.v 4) (.v 5)) (.cons (.app (.v 6) (.call 51 (.cons (.ix (.v 8) (.c (.int 1))) (.cons (.ix (.v 9) (.c (.int 1))) (.cons (.neg (.c (.int 1))) .nil))))) .nil)) (.cons (.frz 6 (.forr (.n 7) (.ov (.call 108 (.cons (.v 2) (.cons (.v 3) (.cons (.v 6) .nil))))) (.cons (.frz 6 (.iff (.cmp .ne (.comp (.v 10) (.n 10) (.ov (.v 6)) (.cmp .ne (.call 50 (.cons (.v 10) (.cons (.v 7) .nil))) (.c (.int 0))) [10]) (.lst .nil)) (.cons (.rt (.v 7)) .nil) .nil)) .nil))) .nil))))) (.cons (.rt (.c .non)) .nil))⟩
/-- _law_idle: slots belt plates number found rows some others least greatest ends -/
def f127 : FD := ⟨2, 10, (.cons (.set 2 (.t (.cons (.n 3) (.cons (.n 4) .nil))) (.tup (.cons (.new (.lst .nil)) (.cons (.call 106 (.cons (.v 0) (.cons (.v 1) .nil))) .nil)))) (.cons (.forr (.n 2) (.rng1 (.bi .len (.cons (.v 1) .nil))) (.cons (.set 0 (.n 5) (.new (.lst .nil))) (.cons (.forr (.t (.cons (.n 7) (.cons (.n 8) (.cons (.n 9) .nil)))) (.ov (.v 4)) (.cons (.app (.v 5) (.lst (.cons (.v 7) (.cons (.v 8) (.cons (.bin .add (.slh (.v 9) (.v 2)) (.sll (.v 9) (.bin .add (.v 2) (.c (.int 1))))) .nil))))) .nil)) (.cons (.set 0 (.n 6) (.call 106 (.cons (.v 0) (.cons (.bin .add (.slh (.v 1) (.v 2)) (.sll (.v 1) (.bin .add (.v 2) (.c (.int 1))))) .nil)))) (.cons (.frz 5 (.iff (.cmp .isn (.call 126 (.cons (.v 5) (.cons (.v 6) .nil))) (.c .non)) (.cons (.app (.v 3) (.v 2)) .nil) .nil)) .nil))))) (.cons (.frz 3 (.rt (.v 3))) .nil)))⟩
/-- best_of: slots numbers tables rows other found least greatest some few many low high number -/
def f129 : FD := ⟨2, 13, (.cons (.set 1 (.n 2) (.comp (.tup (.cons (.v 5) (.cons (.v 6) (.cons (.tup (.cons (.v 9) .nil)) .nil)))) (.t (.cons (.n 5) (.cons (.n 6) (.cons (.n 9) .nil)))) (.ov (.ix (.v 1) (.c (.int 0)))) (.c (.bl true)) [5, 6, 9])) (.cons (.forr (.n 3) (.ov (.sll (.v 1) (.c (.int 1)))) (.cons (.set 1 (.n 2) (.comp (.tup (.cons (.v 10) (.cons (.v 11) (.cons (.bin .add (.v 7) (.tup (.cons (.v 9) .nil))) .nil)))) (.t (.cons (.n 10) (.cons (.n 11) (.cons (.t (.cons (.n 7) (.cons (.n 9) .nil))) .nil)))) (.ov (.call 88 (.cons (.v 2) (.cons (.v 3) .nil)))) (.c (.bl true)) [10, 11, 7, 9])) .nil)) (.cons (.set 0 (.n 4) (.lst .nil)) (.cons (.forr (.t (.cons (.n 5) (.cons (.n 6) (.cons (.n 7) .nil)))) (.ov (.v 2)) (.cons (.set 0 (.n 8) (.bi .minL (.cons (.comp (.bi .int (.cons (.v 9) .nil)) (.n 9) (.ov (.v 7)) (.c (.bl true)) [9]) .nil))) (.cons (.set 0 (.n 4) (.bin .add (.v 4) (.lst (.cons (.tup (.cons (.v 5) (.cons (.v 6) (.cons (.bi .tuple (.cons (.comp (.v 12) (.t (.cons (.n 12) (.cons (.n 9) .nil))) (.zip (.v 0) (.v 7)) (.cmp .eq (.v 9) (.v 8)) [12, 9]) .nil)) .nil)))) .nil)))) .nil))) (.cons (.rt (.call 62 (.cons (.v 4) .nil))) .nil)))))⟩
/-- with_eats: slots belt guest eats seat wants old most -/
def f130 : FD := ⟨3, 7, (.cons (.set 0 (.t (.cons (.n 3) (.cons (.n 4) (.cons (.n 5) (.cons (.n 6) .nil))))) (.ix (.ix (.v 0) (.c (.int 0))) (.v 1))) (.cons (.rt (.tup (.cons (.bin .add (.bin .add (.slh (.ix (.v 0) (.c (.int 0))) (.v 1)) (.tup (.cons (.tup (.cons (.v 3) (.cons (.v 4) (.cons (.v 2) (.cons (.v 6) .nil))))) .nil))) (.sll (.ix (.v 0) (.c (.int 0))) (.bin .add (.v 1) (.c (.int 1))))) (.cons (.ix (.v 0) (.c (.int 1))) .nil)))) .nil))⟩
/-- best_rounds: slots belt plates rounds many -/
def f131 : FD := ⟨2, 4, (.cons (.ex (.call 39 (.cons (.v 0) (.cons (.v 1) .nil)))) (.cons (.set 0 (.n 2) (.lst (.cons (.c (.int 1)) (.cons (.c (.int 2)) (.cons (.c (.int 3)) .nil))))) (.cons (.rt (.call 129 (.cons (.v 2) (.cons (.comp (.call 78 (.cons (.tup (.cons (.ix (.v 0) (.c (.int 0))) (.cons (.v 3) .nil))) (.cons (.v 1) .nil))) (.n 3) (.ov (.v 2)) (.c (.bl true)) [3]) .nil)))) .nil)))⟩
/-- best_eats: slots belt plates guest some eats -/
def f132 : FD := ⟨3, 5, (.cons (.ex (.call 39 (.cons (.v 0) (.cons (.v 1) .nil)))) (.cons (.ex (.call 68 (.cons (.v 0) (.cons (.v 2) .nil)))) (.cons (.set 0 (.n 3) (.lrng (.c (.int 1)) (.bin .add (.ix (.ix (.ix (.v 0) (.c (.int 0))) (.v 2)) (.c (.int 2))) (.c (.int 1))))) (.cons (.rt (.call 129 (.cons (.v 3) (.cons (.comp (.call 78 (.cons (.call 130 (.cons (.v 0) (.cons (.v 2) (.cons (.v 4) .nil)))) (.cons (.v 1) .nil))) (.n 4) (.ov (.v 3)) (.c (.bl true)) [4]) .nil)))) .nil))))⟩
/-- _law_best: slots some plates n off one many -/
def f133 : FD := ⟨3, 6, (.cons (.set 0 (.n 3) (.comp (.bi .len (.cons (.ix (.call 56 (.cons (.ix (.v 4) (.c (.int 1))) (.cons (.v 1) (.cons (.v 2) .nil)))) (.c (.int 1))) .nil)) (.n 4) (.ov (.v 0)) (.c (.bl true)) [4])) (.cons (.rt (.bi .tuple (.cons (.comp (.ix (.v 4) (.c (.int 0))) (.t (.cons (.n 4) (.cons (.n 5) .nil))) (.zip (.v 0) (.v 3)) (.cmp .eq (.v 5) (.bi .minL (.cons (.v 3) .nil))) [4, 5]) .nil))) .nil))⟩
/-- _law_right: slots source rows some plates turn least greatest numbers n found row -/
def f134 : FD := ⟨4, 11, (.cons (.iff (.nt (.call 66 (.cons (.v 1) .nil))) (.cons (.rt (.c (.bl false))) .nil) .nil) (.cons (.forr (.t (.cons (.n 5) (.cons (.n 6) (.cons (.n 7) .nil)))) (.ov (.v 1)) (.cons (.forr (.n 8) (.ov (.bin .add (.call 65 (.cons (.v 0) (.cons (.v 5) (.cons (.v 6) .nil)))) (.lst (.cons (.bin .add (.v 5) (.c (.int 1))) .nil)))) (.cons (.iff (.or (.cmp .isn (.v 6) (.c .non)) (.cmp .le (.v 8) (.v 6))) (.cons (.iff (.cmp .ne (.call 133 (.cons (.v 2) (.cons (.v 3) (.cons (.v 8) .nil)))) (.v 7)) (.cons (.rt (.c (.bl false))) .nil) .nil) .nil) .nil) .nil)) .nil)) (.cons (.forr (.n 4) (.rng1 (.c (.int 5))) (.cons (.set 0 (.n 8) (.bin .add (.c (.int 10)) (.call 17 (.cons (.v 0) (.cons (.c (.int 300)) .nil))))) (.cons (.set 1 (.n 9) (.comp (.v 10) (.n 10) (.ov (.v 1)) (.cmp .le (.ix (.v 10) (.c (.int 0))) (.v 8)) [10])) (.cons (.iff (.cmp .ne (.call 133 (.cons (.v 2) (.cons (.v 3) (.cons (.v 8) .nil)))) (.ix (.ix (.v 9) (.neg (.c (.int 1)))) (.c (.int 2)))) (.cons (.rt (.c (.bl false))) .nil) .nil) .nil)))) (.cons (.rt (.c (.bl true))) .nil))))⟩
/-- law: slots script k source some top belt many guest plates wide longer seat wants pause most guests -/
def f135 : FD := ⟨1, 16, (.cons (.forr (.n 1) (.rng1 (.bin .add (.c (.int 1)) (.bi .min2 (.cons (.bi .len (.cons (.v 0) .nil)) (.cons (.c (.int 4)) .nil))))) (.cons (.set 0 (.n 2) (.call 16 (.cons (.v 0) (.cons (.v 1) .nil)))) (.cons (.set 0 (.t (.cons (.n 5) (.cons (.n 8) .nil))) (.tup (.cons (.call 20 (.cons (.v 2) .nil)) (.cons (.call 21 (.cons (.v 2) (.cons (.c (.int 3)) .nil))) .nil)))) (.cons (.set 1 (.n 3) (.comp (.tup (.cons (.v 6) (.cons (.tup (.cons (.ix (.v 5) (.c (.int 0))) (.cons (.v 6) .nil))) .nil))) (.n 6) (.ov (.lst (.cons (.c (.int 1)) (.cons (.c (.int 2)) (.cons (.c (.int 3)) .nil))))) (.c (.bl true)) [6])) (.cons (.iff (.nt (.call 134 (.cons (.v 2) (.cons (.call 131 (.cons (.v 5) (.cons (.v 8) .nil))) (.cons (.v 3) (.cons (.v 8) .nil)))))) (.cons (.rt (.c (.bl false))) .nil) .nil) (.cons (.set 0 (.t (.cons (.n 11) (.cons (.n 12) (.cons (.n 13) (.cons (.n 14) .nil))))) (.ix (.ix (.v 5) (.c (.int 0))) (.c (.int 0)))) (.cons (.set 0 (.n 4) (.bi .min2 (.cons (.v 13) (.cons (.c (.int 8)) .nil)))) (.cons (.set 0 (.n 5) (.tup (.cons (.bin .add (.tup (.cons (.tup (.cons (.v 11) (.cons (.v 12) (.cons (.v 4) (.cons (.v 14) .nil))))) .nil)) (.sll (.ix (.v 5) (.c (.int 0))) (.c (.int 1)))) (.cons (.ix (.v 5) (.c (.int 1))) .nil)))) (.cons (.set 0 (.n 3) (.new (.lst .nil))) (.cons (.forr (.n 6) (.rng2 (.c (.int 1)) (.bin .add (.v 4) (.c (.int 1)))) (.cons (.set 0 (.n 15) (.bin .add (.tup (.cons (.tup (.cons (.v 11) (.cons (.v 12) (.cons (.v 6) (.cons (.v 14) .nil))))) .nil)) (.sll (.ix (.v 5) (.c (.int 0))) (.c (.int 1))))) (.cons (.app (.v 3) (.tup (.cons (.v 6) (.cons (.tup (.cons (.v 15) (.cons (.ix (.v 5) (.c (.int 1))) .nil))) .nil)))) .nil))) (.cons (.frz 3 (.iff (.nt (.call 134 (.cons (.v 2) (.cons (.call 132 (.cons (.v 5) (.cons (.v 8) (.cons (.c (.int 0)) .nil)))) (.cons (.v 3) (.cons (.v 8) .nil)))))) (.cons (.rt (.c (.bl false))) .nil) .nil)) .nil))))))))))) (.cons (.set 0 (.t (.cons (.n 7) (.cons (.n 8) .nil))) (.tup (.cons (.tup (.cons (.tup (.cons (.c (.str "b")) (.cons (.c (.int 2)) .nil))) (.cons (.c (.str "r")) (.cons (.c (.int 5)) (.cons (.c (.int 2)) .nil))))) (.cons (.tup (.cons (.tup (.cons (.c (.int 0)) (.cons (.tup (.cons (.c (.str "b")) (.cons (.c (.int 0)) .nil))) (.cons (.c (.str "r")) .nil)))) (.cons (.tup (.cons (.c (.int 1)) (.cons (.tup (.cons (.c (.str "b")) (.cons (.c (.int 0)) .nil))) (.cons (.c (.str "r")) .nil)))) .nil))) .nil)))) (.cons (.iff (.cmp .ne (.call 131 (.cons (.tup (.cons (.tup (.cons (.v 7) .nil)) (.cons (.c (.int 1)) .nil))) (.cons (.v 8) .nil))) (.lst (.cons (.tup (.cons (.c (.int 10)) (.cons (.c .non) (.cons (.tup (.cons (.c (.int 2)) (.cons (.c (.int 3)) .nil))) .nil)))) .nil))) (.cons (.rt (.c (.bl false))) .nil) .nil) (.cons (.iff (.cmp .ne (.call 132 (.cons (.tup (.cons (.tup (.cons (.v 7) .nil)) (.cons (.c (.int 1)) .nil))) (.cons (.v 8) (.cons (.c (.int 0)) .nil)))) (.lst (.cons (.tup (.cons (.c (.int 10)) (.cons (.c .non) (.cons (.tup (.cons (.c (.int 1)) .nil)) .nil)))) .nil))) (.cons (.rt (.c (.bl false))) .nil) .nil) (.cons (.set 2 (.t (.cons (.n 9) (.cons (.n 10) .nil))) (.tup (.cons (.tup (.cons (.tup (.cons (.v 7) (.cons (.tup (.cons (.tup (.cons (.c (.str "t")) (.cons (.c (.int 1)) .nil))) (.cons (.c (.str "gr")) (.cons (.c (.int 12)) (.cons (.c (.int 4)) .nil))))) .nil))) (.cons (.c (.int 2)) .nil))) (.cons (.bin .add (.v 8) (.tup (.cons (.tup (.cons (.c (.int 4)) (.cons (.tup (.cons (.c (.str "b")) (.cons (.c (.int 3)) .nil))) (.cons (.c (.str "g")) .nil)))) .nil))) .nil)))) (.cons (.rt (.cmp .eq (.call 131 (.cons (.v 9) (.cons (.v 10) .nil))) (.lst (.cons (.tup (.cons (.c (.int 10)) (.cons (.c (.int 11)) (.cons (.tup (.cons (.c (.int 3)) .nil)) .nil)))) (.cons (.tup (.cons (.c (.int 12)) (.cons (.c .non) (.cons (.tup (.cons (.c (.int 2)) (.cons (.c (.int 3)) .nil))) .nil)))) .nil))))) .nil))))))⟩
/-- is_fact: slots belt plates value -/
def f136 : FD := ⟨3, 3, (.cons (.iff (.or (.nt (.call 1 (.cons (.v 2) (.cons (.c (.int 3)) (.cons (.c (.int 3)) .nil))))) (.nt (.call 0 (.cons (.ix (.v 2) (.c (.int 0))) (.cons (.c (.int 0)) (.cons (.bin .sub (.bi .len (.cons (.v 1) .nil)) (.c (.int 1))) .nil)))))) (.cons (.rt (.c (.bl false))) .nil) .nil) (.cons (.iff (.and (.cmp .notn (.ix (.v 2) (.c (.int 1))) (.c .non)) (.nt (.call 0 (.cons (.ix (.v 2) (.c (.int 1))) (.cons (.c (.int 0)) (.cons (.bin .sub (.bi .len (.cons (.ix (.v 0) (.c (.int 0))) .nil)) (.c (.int 1))) .nil)))))) (.cons (.rt (.c (.bl false))) .nil) .nil) (.cons (.rt (.call 0 (.cons (.ix (.v 2) (.c (.int 2))) (.cons (.c (.int 0)) (.cons (.c (.int 10000000000000000000000000000000)) .nil))))) .nil)))⟩
/-- need_seen: slots belt plates value fact -/
def f137 : FD := ⟨3, 4, (.cons (.iff (.or (.nt (.call 1 (.cons (.v 2) (.cons (.c (.int 1)) (.cons (.c (.int 4)) .nil))))) (.nt (.bi .all (.cons (.comp (.call 136 (.cons (.v 0) (.cons (.v 1) (.cons (.v 3) .nil)))) (.n 3) (.ov (.v 2)) (.c (.bl true)) [3]) .nil)))) (.cons (.raise 8) .nil) .nil) .nil)⟩
/-- gathered: slots rows found least greatest -/
def f138 : FD := ⟨1, 4, (.cons (.set 0 (.n 1) (.lst .nil)) (.cons (.forr (.t (.cons (.n 2) (.cons (.n 3) .nil))) (.ov (.v 0)) (.cons (.iff (.and (.cmp .ne (.v 1) (.lst .nil)) (.cmp .eq (.ix (.ix (.v 1) (.neg (.c (.int 1)))) (.c (.int 1))) (.bin .sub (.v 2) (.c (.int 1))))) (.cons (.set 0 (.n 1) (.bin .add (.slh (.v 1) (.neg (.c (.int 1)))) (.lst (.cons (.tup (.cons (.ix (.ix (.v 1) (.neg (.c (.int 1)))) (.c (.int 0))) (.cons (.v 3) .nil))) .nil)))) .nil) (.cons (.set 0 (.n 1) (.bin .add (.v 1) (.lst (.cons (.tup (.cons (.v 2) (.cons (.v 3) .nil))) .nil)))) .nil)) .nil)) (.cons (.rt (.v 1)) .nil)))⟩
/-- lengths_told: slots belt plates seen found least greatest ends forms good low high signs plate guest minute sign -/
def f139 : FD := ⟨3, 16, (.cons (.ex (.call 39 (.cons (.v 0) (.cons (.v 1) .nil)))) (.cons (.ex (.call 137 (.cons (.v 0) (.cons (.v 1) (.cons (.v 2) .nil))))) (.cons (.set 0 (.n 3) (.lst .nil)) (.cons (.forr (.t (.cons (.n 4) (.cons (.n 5) (.cons (.n 6) .nil)))) (.ov (.call 71 (.cons (.v 0) (.cons (.v 1) .nil)))) (.cons (.set 1 (.n 7) (.comp (.call 34 (.cons (.ix (.ix (.v 6) (.v 12)) (.c (.int 1))) (.cons (.tup (.cons (.c (.int 0)) (.cons (.v 14) .nil))) .nil))) (.t (.cons (.n 12) (.cons (.n 13) (.cons (.n 14) .nil)))) (.ov (.v 2)) (.c (.bl true)) [12, 13, 14])) (.cons (.set 0 (.n 8) (.bi .all (.cons (.comp (.cmp .eq (.ix (.ix (.v 6) (.v 12)) (.c (.int 0))) (.v 13)) (.t (.cons (.n 12) (.cons (.n 13) (.cons (.n 14) .nil)))) (.ov (.v 2)) (.c (.bl true)) [12, 13, 14]) .nil))) (.cons (.forr (.t (.cons (.n 9) (.cons (.n 10) (.cons (.n 11) .nil)))) (.ov (.call 73 (.cons (.v 4) (.cons (.v 5) (.cons (.v 7) .nil))))) (.cons (.iff (.and (.v 8) (.bi .all (.cons (.comp (.cmp .eq (.v 15) (.c (.int 0))) (.n 15) (.ov (.v 11)) (.c (.bl true)) [15]) .nil))) (.cons (.set 0 (.n 3) (.bin .add (.v 3) (.lst (.cons (.tup (.cons (.v 9) (.cons (.v 10) .nil))) .nil)))) .nil) .nil) .nil)) .nil)))) (.cons (.rt (.call 138 (.cons (.v 3) .nil))) .nil)))))⟩
/-- is_seen: slots belt plates n seen ends plate guest minute -/
def f140 : FD := ⟨4, 8, (.cons (.ex (.call 39 (.cons (.v 0) (.cons (.v 1) .nil)))) (.cons (.ex (.call 11 (.cons (.v 2) .nil))) (.cons (.ex (.call 137 (.cons (.v 0) (.cons (.v 1) (.cons (.v 3) .nil))))) (.cons (.set 0 (.n 4) (.call 70 (.cons (.v 0) (.cons (.v 1) (.cons (.call 45 (.cons (.v 0) (.cons (.v 1) (.cons (.v 2) .nil)))) .nil))))) (.cons (.rt (.bi .all (.cons (.comp (.and (.cmp .eq (.ix (.ix (.v 4) (.v 5)) (.c (.int 0))) (.v 6)) (.cmp .eq (.call 10 (.cons (.ix (.ix (.v 4) (.v 5)) (.c (.int 1))) (.cons (.v 2) .nil))) (.v 7))) (.t (.cons (.n 5) (.cons (.n 6) (.cons (.n 7) .nil)))) (.ov (.v 3)) (.c (.bl true)) [5, 6, 7]) .nil))) .nil)))))⟩
/-- _law_drawn: slots source belt plates n turn ends found plate minute guest form -/
def f142 : FD := ⟨4, 11, (.cons (.set 2 (.t (.cons (.n 5) (.cons (.n 6) .nil))) (.tup (.cons (.call 82 (.cons (.v 1) (.cons (.v 2) (.cons (.call 56 (.cons (.v 1) (.cons (.v 2) (.cons (.v 3) .nil)))) .nil)))) (.cons (.tup .nil) .nil)))) (.cons (.forr (.n 4) (.rng1 (.bin .add (.c (.int 1)) (.call 17 (.cons (.v 0) (.cons (.c (.int 3)) .nil))))) (.cons (.set 0 (.n 7) (.call 17 (.cons (.v 0) (.cons (.bi .len (.cons (.v 2) .nil)) .nil)))) (.cons (.set 0 (.t (.cons (.n 9) (.cons (.n 10) .nil))) (.ix (.v 5) (.v 7))) (.cons (.set 0 (.n 8) (.bin .add (.call 50 (.cons (.v 10) (.cons (.v 3) .nil))) (.call 18 (.cons (.v 0) (.cons (.lst (.cons (.c (.int 0)) (.cons (.c (.int 0)) (.cons (.c (.int 0)) (.cons (.c (.int 0)) (.cons (.c (.int 0)) (.cons (.c (.int 1)) (.cons (.c (.int 2)) .nil)))))))) .nil))))) (.cons (.set 0 (.n 9) (.call 18 (.cons (.v 0) (.cons (.lst (.cons (.v 9) (.cons (.v 9) (.cons (.v 9) (.cons (.v 9) (.cons (.c .non) (.cons (.c (.int 0)) .nil))))))) .nil)))) (.cons (.set 0 (.n 6) (.bin .add (.v 6) (.tup (.cons (.tup (.cons (.v 7) (.cons (.v 9) (.cons (.v 8) .nil)))) .nil)))) .nil)))))) (.cons (.rt (.v 6)) .nil)))⟩
/-- _law_told: slots rows seen found least greatest ends cuts forms good plate guest minute n end worths form cut -/
def f143 : FD := ⟨2, 17, (.cons (.set 0 (.n 2) (.new (.lst .nil))) (.cons (.forr (.t (.cons (.n 3) (.cons (.n 4) (.cons (.n 5) .nil)))) (.ov (.v 0)) (.cons (.set 2 (.t (.cons (.n 7) (.cons (.n 8) .nil))) (.tup (.cons (.new (.lst .nil)) (.cons (.c (.bl true)) .nil)))) (.cons (.forr (.t (.cons (.n 9) (.cons (.n 10) (.cons (.n 11) .nil)))) (.ov (.v 1)) (.cons (.app (.v 7) (.call 51 (.cons (.ix (.ix (.v 5) (.v 9)) (.c (.int 1))) (.cons (.tup (.cons (.c (.int 0)) (.cons (.v 11) .nil))) (.cons (.neg (.c (.int 1))) .nil))))) (.cons (.set 0 (.n 8) (.and (.v 8) (.cmp .eq (.ix (.ix (.v 5) (.v 9)) (.c (.int 0))) (.v 10)))) .nil))) (.cons (.frz 7 (.set 0 (.n 6) (.call 108 (.cons (.v 3) (.cons (.v 4) (.cons (.v 7) .nil)))))) (.cons (.forr (.t (.cons (.n 12) (.cons (.n 13) .nil))) (.zip (.v 6) (.bin .add (.comp (.bin .sub (.v 16) (.c (.int 1))) (.n 16) (.ov (.sll (.v 6) (.c (.int 1)))) (.c (.bl true)) [16]) (.lst (.cons (.v 4) .nil)))) (.cons (.frz 7 (.set 1 (.n 14) (.comp (.call 50 (.cons (.v 15) (.cons (.v 12) .nil))) (.n 15) (.ov (.v 7)) (.c (.bl true)) [15]))) (.cons (.iff (.and (.v 8) (.cmp .eq (.v 14) (.bin .mul (.lst (.cons (.c (.int 0)) .nil)) (.bi .len (.cons (.v 7) .nil))))) (.cons (.iff (.and (.cmp .ne (.v 2) (.lst .nil)) (.cmp .eq (.ix (.ix (.v 2) (.neg (.c (.int 1)))) (.c (.int 1))) (.bin .sub (.v 12) (.c (.int 1))))) (.cons (.seti (.v 2) (.neg (.c (.int 1))) (.tup (.cons (.ix (.ix (.v 2) (.neg (.c (.int 1)))) (.c (.int 0))) (.cons (.v 13) .nil)))) .nil) (.cons (.app (.v 2) (.tup (.cons (.v 12) (.cons (.v 13) .nil)))) .nil)) .nil) .nil) .nil))) .nil))))) (.cons (.frz 2 (.rt (.v 2))) .nil)))⟩
/-- _law_row_of: slots rows n row -/
def f145 : FD := ⟨2, 3, (.cons (.rt (.ix (.comp (.v 2) (.n 2) (.ov (.v 0)) (.cmp .le (.ix (.v 2) (.c (.int 0))) (.v 1)) [2]) (.neg (.c (.int 1))))) .nil)⟩
/-- _law_length_right: slots belt plates n ends form number some row seen guest minute -/
def f147 : FD := ⟨3, 11, (.cons (.iff (.cmp .ne (.ix (.call 145 (.cons (.call 64 (.cons (.v 0) (.cons (.v 1) .nil))) (.cons (.v 2) .nil))) (.c (.int 2))) (.call 47 (.cons (.v 0) (.cons (.v 1) (.cons (.v 2) .nil))))) (.cons (.rt (.c (.bl false))) .nil) .nil) (.cons (.set 0 (.n 3) (.call 146 (.cons (.v 0) (.cons (.v 1) (.cons (.v 2) .nil))))) (.cons (.forr (.t (.cons (.n 5) (.cons (.n 6) .nil))) (.enm (.v 3)) (.cons (.iff (.or (.cmp .ne (.bi .len (.cons (.v 6) .nil)) (.c (.int 1))) (.cmp .lt (.ix (.ix (.v 6) (.c (.int 0))) (.c (.int 1))) (.ix (.ix (.v 1) (.v 5)) (.c (.int 0))))) (.cons (.rt (.c (.bl false))) .nil) .nil) (.cons (.set 2 (.t (.cons (.n 9) (.cons (.n 10) .nil))) (.tup (.cons (.ix (.ix (.v 6) (.c (.int 0))) (.c (.int 0))) (.cons (.ix (.ix (.v 6) (.c (.int 0))) (.c (.int 1))) .nil)))) (.cons (.set 0 (.n 7) (.call 145 (.cons (.call 76 (.cons (.v 0) (.cons (.v 1) (.cons (.v 5) .nil)))) (.cons (.v 2) .nil)))) (.cons (.iff (.or (.cmp .ne (.ix (.v 7) (.c (.int 2))) (.v 9)) (.cmp .ne (.call 50 (.cons (.ix (.v 7) (.c (.int 3))) (.cons (.v 2) .nil))) (.v 10))) (.cons (.rt (.c (.bl false))) .nil) .nil) (.cons (.set 0 (.n 8) (.tup (.cons (.tup (.cons (.v 5) (.cons (.v 9) (.cons (.v 10) .nil)))) .nil))) (.cons (.iff (.nt (.call 140 (.cons (.v 0) (.cons (.v 1) (.cons (.v 2) (.cons (.v 8) .nil)))))) (.cons (.rt (.c (.bl false))) .nil) .nil) (.cons (.set 0 (.n 7) (.call 145 (.cons (.bin .add (.lst (.cons (.tup (.cons (.c (.int 0)) (.cons (.c (.int 0)) .nil))) .nil)) (.call 139 (.cons (.v 0) (.cons (.v 1) (.cons (.v 8) .nil))))) (.cons (.v 2) .nil)))) (.cons (.iff (.or (.cmp .gt (.ix (.v 7) (.c (.int 0))) (.v 2)) (.and (.cmp .notn (.ix (.v 7) (.c (.int 1))) (.c .non)) (.cmp .gt (.v 2) (.ix (.v 7) (.c (.int 1)))))) (.cons (.rt (.c (.bl false))) .nil) .nil) .nil))))))))) (.cons (.set 0 (.n 4) (.ix (.call 145 (.cons (.call 77 (.cons (.v 0) (.cons (.v 1) .nil))) (.cons (.v 2) .nil))) (.c (.int 2)))) (.cons (.iff (.cmp .ne (.call 50 (.cons (.v 4) (.cons (.v 2) .nil))) (.bi .maxL (.cons (.bin .add (.lst (.cons (.c (.int 0)) .nil)) (.comp (.bi .int (.cons (.ix (.ix (.v 6) (.c (.int 0))) (.c (.int 1))) .nil)) (.n 6) (.ov (.v 3)) (.c (.bl true)) [6])) .nil))) (.cons (.rt (.c (.bl false))) .nil) .nil) (.cons (.rt (.cmp .eq (.ix (.call 145 (.cons (.call 81 (.cons (.v 0) (.cons (.v 1) .nil))) (.cons (.v 2) .nil))) (.c (.int 2))) (.bi .len (.cons (.ix (.call 47 (.cons (.v 0) (.cons (.v 1) (.cons (.v 2) .nil)))) (.c (.int 1))) .nil)))) .nil))))))⟩
/-- _law_claims_right: slots belt late plates n one ends others first guest two told truth -/
def f148 : FD := ⟨4, 12, (.cons (.set 2 (.t (.cons (.n 5) (.cons (.n 6) .nil))) (.tup (.cons (.call 146 (.cons (.v 0) (.cons (.v 2) (.cons (.v 3) .nil)))) (.cons (.call 146 (.cons (.v 1) (.cons (.v 2) (.cons (.v 3) .nil)))) .nil)))) (.cons (.forr (.n 4) (.rng1 (.bi .len (.cons (.v 2) .nil))) (.cons (.set 0 (.n 7) (.call 103 (.cons (.v 0) (.cons (.v 1) (.cons (.v 2) (.cons (.v 4) .nil)))))) (.cons (.iff (.cmp .ne (.call 102 (.cons (.v 0) (.cons (.v 1) (.cons (.v 2) (.cons (.v 4) .nil))))) (.cmp .isn (.v 7) (.c .non))) (.cons (.rt (.c (.bl false))) .nil) .nil) (.cons (.iff (.and (.cmp .gt (.ix (.ix (.ix (.v 5) (.v 4)) (.c (.int 0))) (.c (.int 1))) (.ix (.ix (.ix (.v 6) (.v 4)) (.c (.int 0))) (.c (.int 1)))) (.or (.cmp .isn (.v 7) (.c .non)) (.cmp .lt (.v 3) (.v 7)))) (.cons (.rt (.c (.bl false))) .nil) .nil) (.cons (.forr (.n 8) (.rng1 (.bi .len (.cons (.ix (.v 0) (.c (.int 0))) .nil))) (.cons (.set 0 (.n 10) (.call 98 (.cons (.v 0) (.cons (.v 2) (.cons (.v 8) (.cons (.v 4) .nil)))))) (.cons (.set 0 (.n 7) (.call 99 (.cons (.v 0) (.cons (.v 2) (.cons (.v 8) (.cons (.v 4) .nil)))))) (.cons (.iff (.nt (.call 149 (.cons (.v 10) (.cons (.v 7) (.cons (.cmp .eq (.ix (.ix (.ix (.v 5) (.v 4)) (.c (.int 0))) (.c (.int 0))) (.v 8)) (.cons (.v 3) .nil)))))) (.cons (.rt (.c (.bl false))) .nil) .nil) .nil)))) (.cons (.forr (.n 9) (.rng1 (.bi .len (.cons (.v 2) .nil))) (.cons (.set 0 (.n 10) (.call 100 (.cons (.v 0) (.cons (.v 2) (.cons (.v 4) (.cons (.v 9) .nil)))))) (.cons (.set 0 (.n 7) (.call 101 (.cons (.v 0) (.cons (.v 2) (.cons (.v 4) (.cons (.v 9) .nil)))))) (.cons (.set 0 (.n 11) (.cmp .lt (.ix (.ix (.ix (.v 5) (.v 4)) (.c (.int 0))) (.c (.int 1))) (.ix (.ix (.ix (.v 5) (.v 9)) (.c (.int 0))) (.c (.int 1))))) (.cons (.iff (.nt (.call 149 (.cons (.v 10) (.cons (.v 7) (.cons (.v 11) (.cons (.v 3) .nil)))))) (.cons (.rt (.c (.bl false))) .nil) .nil) .nil))))) .nil)))))) (.cons (.rt (.c (.bl true))) .nil)))⟩
/-- _law_claim_right: slots told first truth n -/
def f149 : FD := ⟨4, 4, (.cons (.iff (.or (.and (.cmp .notn (.v 0) (.c .non)) (.cmp .ne (.v 0) (.v 2))) (.and (.cmp .eq (.v 3) (.v 1)) (.nt (.v 2)))) (.cons (.rt (.c (.bl false))) .nil) .nil) (.cons (.rt (.or (.nt (.v 2)) (.and (.cmp .notn (.v 1) (.c .non)) (.cmp .ge (.v 3) (.v 1))))) .nil))⟩
/-- law: slots script k source late wide belt plates n off best guest row had many -/
def f150 : FD := ⟨1, 14, (.cons (.forr (.n 1) (.rng1 (.bin .add (.c (.int 1)) (.bi .min2 (.cons (.bi .len (.cons (.v 0) .nil)) (.cons (.c (.int 5)) .nil))))) (.cons (.set 0 (.n 2) (.call 16 (.cons (.v 0) (.cons (.v 1) .nil)))) (.cons (.set 0 (.t (.cons (.n 5) (.cons (.n 6) .nil))) (.tup (.cons (.call 20 (.cons (.v 2) .nil)) (.cons (.call 21 (.cons (.v 2) (.cons (.c (.int 3)) .nil))) .nil)))) (.cons (.set 0 (.n 3) (.tup (.cons (.ix (.v 5) (.c (.int 0))) (.cons (.bin .add (.c (.int 1)) (.bin .mod (.ix (.v 5) (.c (.int 1))) (.c (.int 3)))) .nil)))) (.cons (.forr (.n 4) (.ov (.lst (.cons (.c (.int 1)) (.cons (.c (.int 20)) (.cons (.bin .sub (.bin .pow (.c (.int 10)) (.c (.int 30))) (.c (.int 9))) .nil))))) (.cons (.set 0 (.n 7) (.bin .add (.c (.int 10)) (.call 17 (.cons (.v 2) (.cons (.v 4) .nil))))) (.cons (.iff (.nt (.call 147 (.cons (.v 5) (.cons (.v 6) (.cons (.v 7) .nil))))) (.cons (.rt (.c (.bl false))) .nil) .nil) (.cons (.iff (.nt (.call 148 (.cons (.v 5) (.cons (.v 3) (.cons (.v 6) (.cons (.v 7) .nil)))))) (.cons (.rt (.c (.bl false))) .nil) .nil) (.cons (.set 0 (.n 8) (.comp (.bi .len (.cons (.ix (.call 47 (.cons (.tup (.cons (.ix (.v 5) (.c (.int 0))) (.cons (.v 13) .nil))) (.cons (.v 6) (.cons (.v 7) .nil)))) (.c (.int 1))) .nil)) (.n 13) (.ov (.lst (.cons (.c (.int 1)) (.cons (.c (.int 2)) (.cons (.c (.int 3)) .nil))))) (.c (.bl true)) [13])) (.cons (.set 0 (.n 9) (.bi .tuple (.cons (.comp (.v 13) (.n 13) (.ov (.lst (.cons (.c (.int 1)) (.cons (.c (.int 2)) (.cons (.c (.int 3)) .nil))))) (.cmp .eq (.ix (.v 8) (.bin .sub (.v 13) (.c (.int 1)))) (.bi .minL (.cons (.v 8) .nil))) [13]) .nil))) (.cons (.iff (.cmp .ne (.ix (.call 145 (.cons (.call 131 (.cons (.v 5) (.cons (.v 6) .nil))) (.cons (.v 7) .nil))) (.c (.int 2))) (.v 9)) (.cons (.rt (.c (.bl false))) .nil) .nil) (.cons (.forr (.n 10) (.rng1 (.bi .len (.cons (.ix (.v 5) (.c (.int 0))) .nil))) (.cons (.set 0 (.n 11) (.call 145 (.cons (.call 80 (.cons (.v 5) (.cons (.v 6) (.cons (.v 10) .nil)))) (.cons (.v 7) .nil)))) (.cons (.set 0 (.n 12) (.ix (.call 48 (.cons (.v 5) (.cons (.v 6) (.cons (.v 7) .nil)))) (.v 10))) (.cons (.iff (.cmp .ne (.ix (.v 11) (.c (.int 2))) (.ite (.cmp .ne (.v 12) (.tup .nil)) (.ix (.ix (.v 12) (.c (.int 0))) (.c (.int 0))) (.c .non))) (.cons (.rt (.c (.bl false))) .nil) .nil) .nil)))) .nil)))))))) .nil))))) (.cons (.rt (.c (.bl true))) .nil))⟩
/-- _wall: slots k -/
def f151 : FD := ⟨1, 1, (.cons (.whl (.c (.bl true)) (.cons .pass .nil)) .nil)⟩
/-- part_in: slots word good sign -/
def f154 : FD := ⟨1, 3, (.cons (.iff (.cmp .inn (.v 0) (.c (.tup [(.str "b0"), (.str "b1"), (.str "b2"), (.str "b3"), (.str "b4"), (.str "t1"), (.str "t2"), (.str "t3"), (.str "t4")]))) (.cons (.rt (.tup (.cons (.ix (.v 0) (.c (.int 0))) (.cons (.bi .int (.cons (.ix (.v 0) (.c (.int 1))) .nil)) .nil)))) .nil) .nil) (.cons (.set 0 (.n 1) (.and (.cmp .ne (.v 0) (.c (.str ""))) (.and (.bi .all (.cons (.comp (.cmp .inn (.v 2) (.c (.str "0123456789"))) (.n 2) (.ov (.v 0)) (.c (.bl true)) [2]) .nil)) (.cmp .lt (.bi .len (.cons (.v 0) .nil)) (.c (.int 5)))))) (.cons (.rt (.ite (.and (.v 1) (.cmp .eq (.bi .str (.cons (.bi .int (.cons (.v 0) .nil)) .nil)) (.v 0))) (.bi .int (.cons (.v 0) .nil)) (.v 0))) .nil)))⟩
/-- line_in: slots line words found word -/
def f155 : FD := ⟨1, 4, (.cons (.set 0 (.n 1) (.mt .split (.v 0) (.cons (.c (.str " ")) .nil))) (.cons (.set 0 (.n 2) (.bi .tuple (.cons (.comp (.call 154 (.cons (.v 3) .nil)) (.n 3) (.ov (.sll (.v 1) (.c (.int 1)))) (.c (.bl true)) [3]) .nil))) (.cons (.iff (.cmp .eq (.ix (.v 1) (.c (.int 0))) (.c (.str "guest"))) (.cons (.rt (.ite (.call 5 (.cons (.v 2) .nil)) (.tup (.cons (.c (.str "guest")) (.cons (.v 2) .nil))) (.c .non))) .nil) .nil) (.cons (.iff (.cmp .eq (.ix (.v 1) (.c (.int 0))) (.c (.str "plate"))) (.cons (.rt (.ite (.call 7 (.cons (.v 2) .nil)) (.tup (.cons (.c (.str "plate")) (.cons (.v 2) .nil))) (.c .non))) .nil) .nil) (.cons (.rt (.ite (.cmp .inn (.v 0) (.tup (.cons (.c (.str "rounds 1")) (.cons (.c (.str "rounds 2")) (.cons (.c (.str "rounds 3")) .nil))))) (.tup (.cons (.c (.str "rounds")) (.cons (.ix (.v 2) (.c (.int 0))) .nil))) (.c .non))) .nil)))))⟩
/-- good_plates: slots value -/
def f157 : FD := ⟨1, 1, (.cons (.iff (.nt (.call 8 (.cons (.v 0) .nil))) (.cons (.raise 2) .nil) .nil) (.cons (.rt (.v 0)) .nil))⟩
/-- need_index: slots plates value -/
def f158 : FD := ⟨2, 2, (.cons (.iff (.nt (.call 0 (.cons (.v 1) (.cons (.c (.int 0)) (.cons (.bin .sub (.bi .len (.cons (.v 0) .nil)) (.c (.int 1))) .nil))))) (.cons (.raise 10) .nil) .nil) .nil)⟩
/-- fewer: slots plates index -/
def f159 : FD := ⟨2, 2, (.cons (.ex (.call 158 (.cons (.v 0) (.cons (.v 1) .nil)))) (.cons (.rt (.call 118 (.cons (.v 0) (.cons (.v 1) .nil)))) .nil))⟩
/-- later: slots plates minutes minute place kind -/
def f160 : FD := ⟨2, 5, (.cons (.iff (.nt (.call 0 (.cons (.v 1) (.cons (.c (.int 0)) (.cons (.c (.int 300)) .nil))))) (.cons (.raise 3) .nil) .nil) (.cons (.rt (.call 157 (.cons (.bi .tuple (.cons (.comp (.tup (.cons (.bin .add (.v 2) (.v 1)) (.cons (.v 3) (.cons (.v 4) .nil)))) (.t (.cons (.n 2) (.cons (.n 3) (.cons (.n 4) .nil)))) (.ov (.v 0)) (.c (.bl true)) [2, 3, 4]) .nil)) .nil))) .nil))⟩
/-- _law_moved: slots told minutes rows some row one -/
def f161 : FD := ⟨2, 6, (.cons (.set 0 (.n 2) (.tup .nil)) (.cons (.forr (.n 3) (.ov (.bin .add (.ix (.v 0) (.c (.int 0))) (.tup (.cons (.ix (.v 0) (.c (.int 1))) .nil)))) (.cons (.set 1 (.n 4) (.comp (.tup (.cons (.ix (.v 5) (.c (.int 0))) (.cons (.tup (.cons (.ix (.ix (.v 5) (.c (.int 1))) (.c (.int 0))) (.cons (.bin .add (.ix (.ix (.v 5) (.c (.int 1))) (.c (.int 1))) (.v 1)) .nil))) .nil))) (.n 5) (.ov (.v 3)) (.c (.bl true)) [5])) (.cons (.set 0 (.n 2) (.bin .add (.v 2) (.tup (.cons (.bi .tuple (.cons (.v 4) .nil)) .nil)))) .nil))) (.cons (.rt (.tup (.cons (.slh (.v 2) (.neg (.c (.int 1)))) (.cons (.ix (.v 2) (.neg (.c (.int 1)))) .nil)))) .nil)))⟩
/-- _law_same_right: slots one_so two_so n first here mine yours same -/
def f162 : FD := ⟨3, 8, (.cons (.set 0 (.n 3) (.call 122 (.cons (.ix (.v 0) (.c (.int 0))) (.cons (.ix (.v 0) (.c (.int 1))) (.cons (.ix (.v 1) (.c (.int 0))) (.cons (.ix (.v 1) (.c (.int 1))) .nil)))))) (.cons (.iff (.cmp .ne (.call 121 (.cons (.ix (.v 0) (.c (.int 0))) (.cons (.ix (.v 0) (.c (.int 1))) (.cons (.ix (.v 1) (.c (.int 0))) (.cons (.ix (.v 1) (.c (.int 1))) .nil))))) (.cmp .isn (.v 3) (.c .non))) (.cons (.rt (.c (.bl false))) .nil) .nil) (.cons (.iff (.cmp .ne (.bi .len (.cons (.ix (.ix (.v 0) (.c (.int 0))) (.c (.int 0))) .nil)) (.bi .len (.cons (.ix (.ix (.v 1) (.c (.int 0))) (.c (.int 0))) .nil))) (.cons (.rt (.c (.bl true))) .nil) .nil) (.cons (.forr (.n 4) (.ov (.bin .add (.lst (.cons (.v 2) .nil)) (.ite (.cmp .notn (.v 3) (.c .non)) (.lst (.cons (.v 3) (.cons (.bi .max2 (.cons (.c (.int 10)) (.cons (.bin .sub (.v 3) (.c (.int 1))) .nil))) .nil))) (.lst .nil)))) (.cons (.set 0 (.n 5) (.call 163 (.cons (.call 47 (.cons (.ix (.v 0) (.c (.int 0))) (.cons (.ix (.v 0) (.c (.int 1))) (.cons (.v 4) .nil)))) (.cons (.v 4) .nil)))) (.cons (.set 0 (.n 6) (.call 163 (.cons (.call 47 (.cons (.ix (.v 1) (.c (.int 0))) (.cons (.ix (.v 1) (.c (.int 1))) (.cons (.v 4) .nil)))) (.cons (.v 4) .nil)))) (.cons (.set 0 (.n 7) (.cmp .eq (.call 48 (.cons (.ix (.v 0) (.c (.int 0))) (.cons (.ix (.v 0) (.c (.int 1))) (.cons (.v 4) .nil)))) (.call 48 (.cons (.ix (.v 1) (.c (.int 0))) (.cons (.ix (.v 1) (.c (.int 1))) (.cons (.v 4) .nil)))))) (.cons (.set 0 (.n 7) (.and (.v 7) (.cmp .eq (.v 5) (.v 6)))) (.cons (.iff (.or (.and (.or (.cmp .isn (.v 3) (.c .non)) (.cmp .lt (.v 4) (.v 3))) (.nt (.v 7))) (.and (.cmp .eq (.v 4) (.v 3)) (.v 7))) (.cons (.rt (.c (.bl false))) .nil) .nil) .nil)))))) (.cons (.rt (.c (.bl true))) .nil)))))⟩
/-- _law_off: slots told n plate form -/
def f163 : FD := ⟨2, 4, (.cons (.rt (.comp (.tup (.cons (.v 2) (.cons (.call 50 (.cons (.v 3) (.cons (.v 1) .nil))) .nil))) (.t (.cons (.n 2) (.cons (.n 3) .nil))) (.ov (.ix (.v 0) (.c (.int 1)))) (.c (.bl true)) [2, 3])) .nil)⟩
/-- order_text: slots belt plates -/
def f165 : FD := ⟨2, 2, (.cons (.ex (.call 39 (.cons (.v 0) (.cons (.v 1) .nil)))) (.cons (.rt (.mt .join (.c (.str "\n")) (.cons (.call 153 (.cons (.v 0) (.cons (.v 1) .nil))) .nil))) .nil))⟩
/-- read_order: slots value -/
def f166 : FD := ⟨1, 1, (.cons (.rt (.call 156 (.cons (.v 0) .nil))) .nil)⟩
/-- _law_name: slots place -/
def f167 : FD := ⟨1, 1, (.cons (.rt (.bin .add (.ix (.v 0) (.c (.int 0))) (.bi .str (.cons (.ix (.v 0) (.c (.int 1))) .nil)))) .nil)⟩
/-- _law_text: slots belt plates lines seat wants pause most when place kind -/
def f168 : FD := ⟨2, 10, (.cons (.set 0 (.n 2) (.new (.lst (.cons (.bin .add (.c (.str "rounds ")) (.bi .str (.cons (.ix (.v 0) (.c (.int 1))) .nil))) .nil)))) (.cons (.forr (.t (.cons (.n 3) (.cons (.n 4) (.cons (.n 5) (.cons (.n 6) .nil))))) (.ov (.ix (.v 0) (.c (.int 0)))) (.cons (.app (.v 2) (.mt .join (.c (.str " ")) (.cons (.lst (.cons (.c (.str "guest")) (.cons (.call 167 (.cons (.v 3) .nil)) (.cons (.v 4) (.cons (.bi .str (.cons (.v 5) .nil)) (.cons (.bi .str (.cons (.v 6) .nil)) .nil)))))) .nil))) .nil)) (.cons (.forr (.t (.cons (.n 7) (.cons (.n 8) (.cons (.n 9) .nil)))) (.ov (.v 1)) (.cons (.app (.v 2) (.mt .join (.c (.str " ")) (.cons (.lst (.cons (.c (.str "plate")) (.cons (.bi .str (.cons (.v 7) .nil)) (.cons (.call 167 (.cons (.v 8) .nil)) (.cons (.v 9) .nil))))) .nil))) .nil)) (.cons (.frz 2 (.rt (.mt .join (.c (.str "\n")) (.cons (.v 2) .nil)))) .nil))))⟩
/-- _law_small: slots word least most number -/
def f171 : FD := ⟨3, 4, (.cons (.rt (.cmp .inn (.v 0) (.comp (.bi .str (.cons (.v 3) .nil)) (.n 3) (.rng2 (.v 1) (.bin .add (.v 2) (.c (.int 1)))) (.c (.bl true)) [3]))) .nil)⟩
/-- _law_is_name: slots word -/
def f172 : FD := ⟨1, 1, (.cons (.rt (.cmp .inn (.v 0) (.lst (.cons (.c (.str "b0")) (.cons (.c (.str "b1")) (.cons (.c (.str "b2")) (.cons (.c (.str "b3")) (.cons (.c (.str "b4")) (.cons (.c (.str "t1")) (.cons (.c (.str "t2")) (.cons (.c (.str "t3")) (.cons (.c (.str "t4")) .nil)))))))))))) .nil)⟩
/-- _law_is_line: slots line words good -/
def f173 : FD := ⟨1, 3, (.cons (.set 0 (.n 1) (.mt .split (.v 0) (.cons (.c (.str " ")) .nil))) (.cons (.iff (.cmp .eq (.ix (.v 1) (.c (.int 0))) (.c (.str "rounds"))) (.cons (.rt (.and (.cmp .eq (.bi .len (.cons (.v 1) .nil)) (.c (.int 2))) (.cmp .inn (.ix (.v 1) (.c (.int 1))) (.lst (.cons (.c (.str "1")) (.cons (.c (.str "2")) (.cons (.c (.str "3")) .nil))))))) .nil) .nil) (.cons (.iff (.cmp .eq (.ix (.v 1) (.c (.int 0))) (.c (.str "plate"))) (.cons (.set 0 (.n 2) (.and (.cmp .eq (.bi .len (.cons (.v 1) .nil)) (.c (.int 4))) (.call 171 (.cons (.ix (.v 1) (.c (.int 1))) (.cons (.c (.int 0)) (.cons (.c (.int 300)) .nil)))))) (.cons (.rt (.and (.v 2) (.and (.call 172 (.cons (.ix (.v 1) (.c (.int 2))) .nil)) (.cmp .inn (.ix (.v 1) (.c (.int 3))) (.lst (.cons (.c (.str "g")) (.cons (.c (.str "r")) (.cons (.c (.str "y")) .nil)))))))) .nil)) .nil) (.cons (.iff (.or (.cmp .ne (.ix (.v 1) (.c (.int 0))) (.c (.str "guest"))) (.or (.cmp .ne (.bi .len (.cons (.v 1) .nil)) (.c (.int 5))) (.or (.nt (.call 172 (.cons (.ix (.v 1) (.c (.int 1))) .nil))) (.cmp .eq (.ix (.v 1) (.c (.int 1))) (.c (.str "b0")))))) (.cons (.rt (.c (.bl false))) .nil) .nil) (.cons (.iff (.cmp .nin (.ix (.v 1) (.c (.int 2))) (.lst (.cons (.c (.str "g")) (.cons (.c (.str "r")) (.cons (.c (.str "y")) (.cons (.c (.str "gr")) (.cons (.c (.str "gy")) (.cons (.c (.str "ry")) (.cons (.c (.str "gry")) .nil))))))))) (.cons (.rt (.c (.bl false))) .nil) .nil) (.cons (.rt (.and (.call 171 (.cons (.ix (.v 1) (.c (.int 3))) (.cons (.c (.int 1)) (.cons (.c (.int 60)) .nil)))) (.call 171 (.cons (.ix (.v 1) (.c (.int 4))) (.cons (.c (.int 1)) (.cons (.c (.int 4)) .nil)))))) .nil))))))⟩
/-- _law_spoilt: slots source text signs at more lines spot rest -/
def f174 : FD := ⟨2, 8, (.cons (.set 2 (.t (.cons (.n 3) (.cons (.n 4) .nil))) (.tup (.cons (.call 17 (.cons (.v 0) (.cons (.bin .add (.bi .len (.cons (.v 1) .nil)) (.c (.int 1))) .nil))) (.cons (.call 17 (.cons (.v 0) (.cons (.c (.int 3)) .nil))) .nil)))) (.cons (.set 0 (.n 2) (.lst (.cons (.c (.str "")) (.cons (.c (.str " ")) (.cons (.c (.str "0")) (.cons (.c (.str "1")) (.cons (.c (.str "3")) (.cons (.c (.str "6")) (.cons (.c (.str "-")) (.cons (.c (.str "\n")) (.cons (.c (.str "\nplate 9 b0 r")) (.cons (.c (.str " 2")) .nil)))))))))))) (.cons (.set 0 (.n 2) (.bin .add (.v 2) (.lst (.cons (.c (.str "g")) (.cons (.c (.str "b1")) (.cons (.c (.str "t")) (.cons (.c (.str "y")) (.cons (.c (.str "\nguest b1 r 1 1")) .nil)))))))) (.cons (.iff (.cmp .eq (.v 4) (.c (.int 2))) (.cons (.set 0 (.n 5) (.mt .split (.v 1) (.cons (.c (.str "\n")) .nil))) (.cons (.set 0 (.n 6) (.call 17 (.cons (.v 0) (.cons (.bi .len (.cons (.v 5) .nil)) .nil)))) (.cons (.set 0 (.n 7) (.slb (.v 5) (.v 6) (.bin .add (.v 6) (.call 17 (.cons (.v 0) (.cons (.c (.int 3)) .nil)))))) (.cons (.rt (.mt .join (.c (.str "\n")) (.cons (.bin .add (.bin .add (.slh (.v 5) (.v 6)) (.sll (.v 5) (.bin .add (.v 6) (.c (.int 1))))) (.v 7)) .nil))) .nil)))) .nil) (.cons (.rt (.bin .add (.bin .add (.slh (.v 1) (.v 3)) (.call 18 (.cons (.v 0) (.cons (.v 2) .nil)))) (.sll (.v 1) (.bin .add (.v 3) (.v 4))))) .nil)))))⟩
/-- _law_right: slots text found line rows bad at row -/
def f175 : FD := ⟨3, 7, (.cons (.set 2 (.t (.cons (.n 3) (.cons (.n 4) .nil))) (.tup (.cons (.mt .split (.v 0) (.cons (.c (.str "\n")) .nil)) (.cons (.lst .nil) .nil)))) (.cons (.forr (.t (.cons (.n 5) (.cons (.n 6) .nil))) (.enm (.v 3)) (.cons (.set 0 (.n 4) (.bin .add (.v 4) (.ite (.call 173 (.cons (.v 6) .nil)) (.lst .nil) (.lst (.cons (.bin .add (.v 5) (.c (.int 1))) .nil))))) .nil)) (.cons (.iff (.cmp .isn (.v 1) (.c .non)) (.cons (.rt (.cmp .eq (.v 2) (.ix (.bin .add (.v 4) (.lst (.cons (.bin .add (.bi .len (.cons (.v 3) .nil)) (.c (.int 1))) .nil))) (.c (.int 0))))) .nil) .nil) (.cons (.iff (.or (.cmp .ne (.v 4) (.lst .nil)) (.or (.nt (.call 13 (.cons (.ix (.v 1) (.c (.int 0))) .nil))) (.nt (.call 14 (.cons (.ix (.v 1) (.c (.int 1))) .nil))))) (.cons (.rt (.c (.bl false))) .nil) .nil) (.cons (.rt (.cmp .eq (.call 168 (.cons (.ix (.v 1) (.c (.int 0))) (.cons (.ix (.v 1) (.c (.int 1))) .nil))) (.v 0))) .nil)))))⟩
/-- law: slots script k good texts source some text turn found line -/
def f176 : FD := ⟨1, 10, (.cons (.forr (.n 1) (.rng1 (.bin .add (.c (.int 1)) (.bi .min2 (.cons (.bi .len (.cons (.v 0) .nil)) (.cons (.c (.int 10)) .nil))))) (.cons (.set 0 (.n 4) (.call 16 (.cons (.v 0) (.cons (.v 1) .nil)))) (.cons (.set 0 (.n 5) (.tup (.cons (.call 20 (.cons (.v 4) .nil)) (.cons (.call 21 (.cons (.v 4) (.cons (.c (.int 4)) .nil))) .nil)))) (.cons (.set 0 (.n 6) (.call 168 (.cons (.ix (.v 5) (.c (.int 0))) (.cons (.ix (.v 5) (.c (.int 1))) .nil)))) (.cons (.forr (.n 7) (.rng1 (.c (.int 6))) (.cons (.set 0 (.t (.cons (.n 8) (.cons (.n 9) .nil))) (.call 170 (.cons (.v 6) .nil))) (.cons (.iff (.or (.nt (.call 175 (.cons (.v 6) (.cons (.v 8) (.cons (.v 9) .nil))))) (.and (.cmp .eq (.v 7) (.c (.int 0))) (.cmp .ne (.v 8) (.v 5)))) (.cons (.rt (.c (.bl false))) .nil) .nil) (.cons (.set 0 (.n 6) (.slh (.call 174 (.cons (.v 4) (.cons (.v 6) .nil))) (.c (.int 1600)))) .nil)))) (.cons (.iff (.cmp .ne (.call 170 (.cons (.call 18 (.cons (.v 4) (.cons (.lst (.cons (.c .non) (.cons (.c (.int 5)) (.cons (.c (.bl true)) (.cons (.lst .nil) (.cons (.tup (.cons (.c (.str "rounds")) .nil)) (.cons (.v 5) .nil))))))) .nil))) .nil)) (.tup (.cons (.c .non) (.cons (.c (.int 0)) .nil)))) (.cons (.rt (.c (.bl false))) .nil) .nil) .nil)))))) (.cons (.set 0 (.n 2) (.c (.str "rounds 1\nguest b2 r 5 2\nplate 5 b0 r"))) (.cons (.set 0 (.n 3) (.lst (.cons (.c (.str "")) (.cons (.v 2) (.cons (.bin .add (.v 2) (.c (.str "\n"))) (.cons (.bin .add (.v 2) (.c (.str "\nplate 4 b0 r"))) (.cons (.bin .add (.v 2) (.c (.str "\nplate 5 t0 r"))) .nil))))))) (.cons (.set 0 (.n 3) (.bin .add (.v 3) (.lst (.cons (.c (.str "guest b2 r 5 2")) (.cons (.bin .add (.v 2) (.c (.str "\nguest b2 r 5 2"))) (.cons (.c (.str "rounds 4")) (.cons (.c (.str "rounds 1")) .nil))))))) (.cons (.set 0 (.n 3) (.bin .add (.v 3) (.lst (.cons (.bin .add (.v 2) (.c (.str "\nplate 301 b0 r"))) (.cons (.bin .add (.v 2) (.bin .mul (.c (.str "\nplate 5 b0 r")) (.c (.int 4)))) .nil))))) (.cons (.set 0 (.n 3) (.bin .add (.v 3) (.lst (.cons (.c (.str "rounds  1")) (.cons (.bin .add (.v 2) (.c (.str "\nplate 05 b0 r"))) (.cons (.c (.str "rounds 1\nguest b2 rg 5 2")) .nil)))))) (.cons (.rt (.cmp .eq (.comp (.ix (.call 170 (.cons (.v 6) .nil)) (.c (.int 1))) (.n 6) (.ov (.v 3)) (.c (.bl true)) [6]) (.lst (.cons (.c (.int 1)) (.cons (.c .non) (.cons (.c (.int 4)) (.cons (.c (.int 5)) (.cons (.c (.int 4)) (.cons (.c (.int 2)) (.cons (.c (.int 5)) (.cons (.c (.int 1)) (.cons (.c (.int 2)) (.cons (.c (.int 4)) (.cons (.c (.int 8)) (.cons (.c (.int 1)) (.cons (.c (.int 4)) (.cons (.c (.int 2)) .nil))))))))))))))))) .nil)))))))⟩
/-- _law_always: slots belt plates rows row end -/
def f181 : FD := ⟨2, 5, (.cons (.set 0 (.n 2) (.call 106 (.cons (.v 0) (.cons (.v 1) .nil)))) (.cons (.rt (.cmp .eq (.comp (.v 3) (.n 3) (.ov (.v 2)) (.cmp .inn (.c .non) (.comp (.ix (.v 4) (.c (.int 0))) (.n 4) (.ov (.ix (.v 3) (.c (.int 2)))) (.c (.bl true)) [4])) [3]) (.lst .nil))) .nil))⟩
/-- is_row: slots value -/
def f187 : FD := ⟨1, 1, (.cons (.rt (.and (.call 1 (.cons (.v 0) (.cons (.c (.int 3)) (.cons (.c (.int 3)) .nil)))) (.and (.call 0 (.cons (.ix (.v 0) (.c (.int 0))) (.cons (.c (.int 0)) (.cons (.c (.int 1000)) .nil)))) (.and (.call 3 (.cons (.ix (.v 0) (.c (.int 1))) .nil)) (.call 2 (.cons (.ix (.v 0) (.c (.int 2))) .nil)))))) .nil)⟩
/-- _law_when: slots triple -/
def f188 : FD := ⟨1, 1, (.cons (.rt (.bin .add (.mt .rjust (.bi .str (.cons (.ix (.v 0) (.c (.int 0))) .nil)) (.cons (.c (.int 40)) .nil)) (.mt .rjust (.bi .str (.cons (.ix (.v 0) (.c (.int 1))) .nil)) (.cons (.c (.int 9)) .nil)))) .nil)⟩
/-- _law_put: slots now minutes place kind minute -/
def f193 : FD := ⟨4, 5, (.cons (.set 0 (.n 4) (.bin .add (.ix (.v 0) (.c (.int 0))) (.v 1))) (.cons (.rt (.lst (.cons (.v 4) (.cons (.bin .add (.ix (.v 0) (.c (.int 1))) (.tup (.cons (.tup (.cons (.v 4) (.cons (.v 2) (.cons (.v 3) .nil)))) .nil))) .nil)))) .nil))⟩
/-- _law_later: slots past minutes first late last minute plates -/
def f200 : FD := ⟨2, 7, (.cons (.set 0 (.t (.cons (.n 5) (.cons (.n 6) .nil))) (.ix (.v 0) (.neg (.c (.int 1))))) (.cons (.set 0 (.n 2) (.bin .add (.v 6) (.tup (.cons (.tup (.cons (.v 5) (.cons (.tup (.cons (.c (.str "b")) (.cons (.c (.int 0)) .nil))) (.cons (.c (.str "r")) .nil)))) .nil)))) (.cons (.set 0 (.n 3) (.bin .add (.bin .add (.v 5) (.v 1)) (.c (.int 3)))) (.cons (.set 0 (.n 4) (.bin .add (.v 2) (.tup (.cons (.tup (.cons (.v 3) (.cons (.tup (.cons (.c (.str "b")) (.cons (.c (.int 3)) .nil))) (.cons (.c (.str "g")) .nil)))) (.cons (.tup (.cons (.v 3) (.cons (.tup (.cons (.c (.str "t")) (.cons (.c (.int 4)) .nil))) (.cons (.c (.str "r")) .nil)))) .nil))))) (.cons (.set 0 (.n 0) (.bin .add (.v 0) (.lst (.cons (.lst (.cons (.v 5) (.cons (.v 2) .nil))) (.cons (.lst (.cons (.bin .add (.v 5) (.v 1)) (.cons (.v 2) .nil))) .nil))))) (.cons (.rt (.bin .add (.v 0) (.lst (.cons (.lst (.cons (.bin .add (.bin .add (.v 5) (.v 1)) (.c (.int 2))) (.cons (.v 2) .nil))) (.cons (.lst (.cons (.v 3) (.cons (.v 4) .nil))) .nil))))) .nil))))))⟩
/-- _law_great: slots guests -/
def f215 : FD := ⟨0, 1, (.cons (.set 0 (.n 0) (.tup (.cons (.tup (.cons (.tup (.cons (.c (.str "b")) (.cons (.c (.int 4)) .nil))) (.cons (.c (.str "gry")) (.cons (.c (.int 60)) (.cons (.c (.int 4)) .nil))))) (.cons (.tup (.cons (.tup (.cons (.c (.str "t")) (.cons (.c (.int 4)) .nil))) (.cons (.c (.str "gry")) (.cons (.c (.int 60)) (.cons (.c (.int 4)) .nil))))) .nil)))) (.cons (.rt (.tup (.cons (.tup (.cons (.v 0) (.cons (.c (.int 3)) .nil))) (.cons (.bin .mul (.tup (.cons (.tup (.cons (.c (.int 300)) (.cons (.tup (.cons (.c (.str "b")) (.cons (.c (.int 0)) .nil))) (.cons (.c (.str "r")) .nil)))) .nil)) (.c (.int 4))) .nil)))) .nil))⟩
/-- _law_first_right: slots n found due seen belt plates -/
def f216 : FD := ⟨1, 6, (.cons (.set 0 (.t (.cons (.n 4) (.cons (.n 5) .nil))) (.call 215 .nil)) (.cons (.set 0 (.n 1) (.new (.lst (.cons (.call 13 (.cons (.v 4) .nil)) .nil)))) (.cons (.app (.v 1) (.nt (.call 13 (.cons (.tup (.cons (.ix (.v 4) (.c (.int 0))) (.cons (.c (.int 4)) .nil))) .nil)))) (.cons (.app (.v 1) (.call 14 (.cons (.v 5) .nil))) (.cons (.app (.v 1) (.nt (.call 14 (.cons (.bin .add (.v 5) (.slh (.v 5) (.c (.int 1)))) .nil)))) (.cons (.set 0 (.n 1) (.new (.bin .add (.v 1) (.lst (.cons (.nt (.call 14 (.cons (.tup (.cons (.tup (.cons (.c (.int 301)) (.cons (.tup (.cons (.c (.str "b")) (.cons (.c (.int 0)) .nil))) (.cons (.c (.str "r")) .nil)))) .nil)) .nil))) (.cons (.cmp .eq (.call 15 (.cons (.v 0) (.cons (.tup (.cons (.c (.str "t")) (.cons (.c (.int 4)) .nil))) .nil))) (.bin .sub (.v 0) (.c (.int 4)))) .nil)))))) (.cons (.set 0 (.n 2) (.tup (.cons (.tup (.cons (.tup (.cons (.c (.int 0)) (.cons (.c (.int 304)) .nil))) (.cons (.tup (.cons (.c (.int 2)) (.cons (.bin .add (.v 0) (.c (.int 304))) .nil))) .nil))) (.cons (.tup (.cons (.tup (.cons (.c (.int 1)) (.cons (.bin .add (.v 0) (.c (.int 296))) .nil))) (.cons (.tup (.cons (.c (.int 3)) (.cons (.bin .add (.bin .mul (.c (.int 2)) (.v 0)) (.c (.int 296))) .nil))) .nil))) .nil)))) (.cons (.app (.v 1) (.cmp .eq (.call 48 (.cons (.v 4) (.cons (.v 5) (.cons (.v 0) .nil)))) (.v 2))) (.cons (.app (.v 1) (.cmp .eq (.ix (.call 47 (.cons (.v 4) (.cons (.v 5) (.cons (.v 0) .nil)))) (.c (.int 1))) (.tup .nil))) (.cons (.set 0 (.n 3) (.tup (.cons (.tup (.cons (.c (.int 3)) (.cons (.c (.int 1)) (.cons (.bin .add (.bin .mul (.c (.int 2)) (.v 0)) (.c (.int 296))) .nil)))) (.cons (.tup (.cons (.c (.int 0)) (.cons (.c (.int 0)) (.cons (.c (.int 304)) .nil)))) .nil)))) (.cons (.app (.v 1) (.call 140 (.cons (.v 4) (.cons (.v 5) (.cons (.v 0) (.cons (.v 3) .nil)))))) (.cons (.app (.v 1) (.cmp .eq (.call 139 (.cons (.v 4) (.cons (.v 5) (.cons (.v 3) .nil)))) (.lst (.cons (.tup (.cons (.v 0) (.cons (.v 0) .nil))) .nil)))) (.cons (.rt (.bin .add (.v 1) (.lst (.cons (.cmp .eq (.call 139 (.cons (.v 4) (.cons (.v 5) (.cons (.sll (.v 3) (.c (.int 1))) .nil)))) (.lst (.cons (.tup (.cons (.c (.int 10)) (.cons (.c .non) .nil))) .nil))) .nil)))) .nil)))))))))))))⟩
/-- _law_second_right: slots found due belt plates row -/
def f217 : FD := ⟨0, 5, (.cons (.set 0 (.t (.cons (.n 2) (.cons (.n 3) .nil))) (.call 215 .nil)) (.cons (.set 0 (.n 0) (.new (.lst (.cons (.cmp .eq (.comp (.slh (.v 4) (.c (.int 2))) (.n 4) (.ov (.call 64 (.cons (.v 2) (.cons (.v 3) .nil)))) (.c (.bl true)) [4]) (.lst (.cons (.tup (.cons (.c (.int 10)) (.cons (.c (.int 29)) .nil))) (.cons (.tup (.cons (.c (.int 30)) (.cons (.c (.int 59)) .nil))) (.cons (.tup (.cons (.c (.int 60)) (.cons (.c .non) .nil))) .nil))))) .nil)))) (.cons (.set 0 (.n 1) (.lst (.cons (.tup (.cons (.c (.int 10)) (.cons (.c (.int 29)) (.cons (.c .non) (.cons (.tup (.cons (.c (.int 3)) (.cons (.c (.int 300)) .nil))) .nil))))) (.cons (.tup (.cons (.c (.int 30)) (.cons (.c (.int 59)) (.cons (.c (.int 1)) (.cons (.tup (.cons (.c (.int 3)) (.cons (.c (.int 296)) .nil))) .nil))))) (.cons (.tup (.cons (.c (.int 60)) (.cons (.c .non) (.cons (.c (.int 1)) (.cons (.tup (.cons (.c (.int 2)) (.cons (.c (.int 296)) .nil))) .nil))))) .nil))))) (.cons (.app (.v 0) (.cmp .eq (.call 76 (.cons (.v 2) (.cons (.v 3) (.cons (.c (.int 3)) .nil)))) (.v 1))) (.cons (.set 0 (.n 1) (.lst (.cons (.tup (.cons (.c (.int 10)) (.cons (.c (.int 29)) (.cons (.tup (.cons (.c (.int 3)) (.cons (.c (.int 300)) .nil))) .nil)))) (.cons (.tup (.cons (.c (.int 30)) (.cons (.c (.int 59)) (.cons (.tup (.cons (.c (.int 3)) (.cons (.c (.int 296)) .nil))) .nil)))) (.cons (.tup (.cons (.c (.int 60)) (.cons (.c .non) (.cons (.tup (.cons (.c (.int 2)) (.cons (.c (.int 296)) .nil))) .nil)))) .nil))))) (.cons (.app (.v 0) (.cmp .eq (.call 77 (.cons (.v 2) (.cons (.v 3) .nil))) (.v 1))) (.cons (.app (.v 0) (.cmp .eq (.call 81 (.cons (.v 2) (.cons (.v 3) .nil))) (.lst (.cons (.tup (.cons (.c (.int 10)) (.cons (.c (.int 29)) (.cons (.c (.int 2)) .nil)))) (.cons (.tup (.cons (.c (.int 30)) (.cons (.c .non) (.cons (.c (.int 0)) .nil)))) .nil))))) (.cons (.app (.v 0) (.cmp .eq (.call 80 (.cons (.v 2) (.cons (.v 3) (.cons (.c (.int 1)) .nil)))) (.lst (.cons (.tup (.cons (.c (.int 10)) (.cons (.c .non) (.cons (.c (.int 1)) (.cons (.tup (.cons (.c (.int 1)) (.cons (.c (.int 296)) .nil))) .nil))))) .nil)))) (.cons (.app (.v 0) (.cmp .isn (.call 98 (.cons (.v 2) (.cons (.v 3) (.cons (.c (.int 0)) (.cons (.c (.int 2)) .nil))))) (.c .non))) (.cons (.app (.v 0) (.cmp .eq (.call 99 (.cons (.v 2) (.cons (.v 3) (.cons (.c (.int 0)) (.cons (.c (.int 2)) .nil))))) (.c (.int 30)))) (.cons (.app (.v 0) (.cmp .iss (.call 100 (.cons (.v 2) (.cons (.v 3) (.cons (.c (.int 0)) (.cons (.c (.int 1)) .nil))))) (.c (.bl true)))) (.cons (.app (.v 0) (.cmp .isn (.call 101 (.cons (.v 2) (.cons (.v 3) (.cons (.c (.int 3)) (.cons (.c (.int 2)) .nil))))) (.c .non))) (.cons (.app (.v 0) (.cmp .eq (.call 131 (.cons (.v 2) (.cons (.v 3) .nil))) (.lst (.cons (.tup (.cons (.c (.int 10)) (.cons (.c (.int 29)) (.cons (.tup (.cons (.c (.int 1)) (.cons (.c (.int 2)) (.cons (.c (.int 3)) .nil)))) .nil)))) (.cons (.tup (.cons (.c (.int 30)) (.cons (.c (.int 59)) (.cons (.tup (.cons (.c (.int 3)) .nil)) .nil)))) (.cons (.tup (.cons (.c (.int 60)) (.cons (.c .non) (.cons (.tup (.cons (.c (.int 2)) (.cons (.c (.int 3)) .nil))) .nil)))) .nil)))))) (.cons (.app (.v 0) (.cmp .eq (.call 123 (.cons (.v 2) (.cons (.v 3) .nil))) (.lst (.cons (.c (.int 3)) .nil)))) (.cons (.app (.v 0) (.call 102 (.cons (.tup (.cons (.ix (.v 2) (.c (.int 0))) (.cons (.c (.int 2)) .nil))) (.cons (.v 2) (.cons (.v 3) (.cons (.c (.int 3)) .nil)))))) (.cons (.app (.v 0) (.cmp .eq (.call 103 (.cons (.v 2) (.cons (.tup (.cons (.ix (.v 2) (.c (.int 0))) (.cons (.c (.int 2)) .nil))) (.cons (.v 3) (.cons (.c (.int 3)) .nil))))) (.c (.int 10)))) (.cons (.rt (.bin .add (.v 0) (.lst (.cons (.cmp .eq (.call 122 (.cons (.v 2) (.cons (.v 3) (.cons (.tup (.cons (.ix (.v 2) (.c (.int 0))) (.cons (.c (.int 2)) .nil))) (.cons (.v 3) .nil))))) (.c (.int 10))) .nil)))) .nil)))))))))))))))))⟩
/-- law: slots script k source n -/
def f219 : FD := ⟨1, 4, (.cons (.forr (.n 1) (.rng1 (.bin .add (.c (.int 1)) (.bi .min2 (.cons (.bi .len (.cons (.v 0) .nil)) (.cons (.c (.int 2)) .nil))))) (.cons (.set 0 (.n 2) (.call 16 (.cons (.v 0) (.cons (.v 1) .nil)))) (.cons (.set 0 (.n 3) (.call 18 (.cons (.v 2) (.cons (.lst (.cons (.bin .pow (.c (.int 10)) (.c (.int 30))) (.cons (.bin .pow (.c (.int 10)) (.c (.int 30))) (.cons (.bin .add (.c (.int 100)) (.call 17 (.cons (.v 2) (.cons (.bin .pow (.c (.int 10)) (.c (.int 9))) .nil)))) .nil)))) .nil)))) (.cons (.iff (.or (.cmp .inn (.c (.bl false)) (.call 216 (.cons (.v 3) .nil))) (.cmp .inn (.c (.bl false)) (.call 218 (.cons (.v 3) .nil)))) (.cons (.rt (.c (.bl false))) .nil) .nil) (.cons (.iff (.and (.cmp .eq (.v 1) (.c (.int 0))) (.cmp .inn (.c (.bl false)) (.bin .add (.call 217 .nil) (.call 218 (.cons (.c (.int 10)) .nil))))) (.cons (.rt (.c (.bl false))) .nil) .nil) .nil))))) (.cons (.rt (.c (.bl true))) .nil))⟩
/-- _law_eating_right: slots pause later_so belt plates good due found few -/
def f220 : FD := ⟨2, 8, (.cons (.set 0 (.n 2) (.tup (.cons (.tup (.cons (.tup (.cons (.tup (.cons (.c (.str "b")) (.cons (.c (.int 2)) .nil))) (.cons (.c (.str "r")) (.cons (.v 0) (.cons (.c (.int 2)) .nil))))) .nil)) (.cons (.c (.int 1)) .nil)))) (.cons (.set 0 (.n 3) (.tup (.cons (.tup (.cons (.c (.int 0)) (.cons (.tup (.cons (.c (.str "b")) (.cons (.c (.int 0)) .nil))) (.cons (.c (.str "r")) .nil)))) (.cons (.tup (.cons (.v 1) (.cons (.tup (.cons (.c (.str "b")) (.cons (.c (.int 0)) .nil))) (.cons (.c (.str "r")) .nil)))) .nil)))) (.cons (.set 0 (.n 4) (.cmp .ge (.v 1) (.v 0))) (.cons (.set 0 (.n 5) (.ite (.v 4) (.lst (.cons (.tup (.cons (.c (.int 10)) (.cons (.c .non) (.cons (.c (.int 0)) (.cons (.tup (.cons (.c (.int 0)) (.cons (.bin .add (.v 1) (.c (.int 2))) .nil))) .nil))))) .nil)) (.lst (.cons (.tup (.cons (.c (.int 10)) (.cons (.c .non) (.cons (.c .non) (.cons (.tup (.cons (.c (.int 1)) (.cons (.v 1) .nil))) .nil))))) .nil)))) (.cons (.set 0 (.n 6) (.new (.lst (.cons (.cmp .eq (.call 76 (.cons (.v 2) (.cons (.v 3) (.cons (.c (.int 1)) .nil)))) (.v 5)) .nil)))) (.cons (.app (.v 6) (.cmp .eq (.call 98 (.cons (.v 2) (.cons (.v 3) (.cons (.c (.int 0)) (.cons (.c (.int 1)) .nil))))) (.v 4))) (.cons (.app (.v 6) (.cmp .eq (.ix (.ix (.call 48 (.cons (.v 2) (.cons (.v 3) (.cons (.c (.int 10)) .nil)))) (.c (.int 0))) (.c (.int 0))) (.tup (.cons (.c (.int 0)) (.cons (.c (.int 2)) .nil))))) (.cons (.app (.v 6) (.cmp .eq (.call 81 (.cons (.v 2) (.cons (.v 3) .nil))) (.lst (.cons (.tup (.cons (.c (.int 10)) (.cons (.c .non) (.cons (.bi .int (.cons (.nt (.v 4)) .nil)) .nil)))) .nil)))) (.cons (.set 0 (.n 7) (.tup (.cons (.tup (.cons (.tup (.cons (.tup (.cons (.c (.str "b")) (.cons (.c (.int 2)) .nil))) (.cons (.c (.str "r")) (.cons (.v 0) (.cons (.c (.int 1)) .nil))))) .nil)) (.cons (.c (.int 1)) .nil)))) (.cons (.app (.v 6) (.cmp .eq (.call 76 (.cons (.v 7) (.cons (.v 3) (.cons (.c (.int 1)) .nil)))) (.lst (.cons (.tup (.cons (.c (.int 10)) (.cons (.c .non) (.cons (.c .non) (.cons (.tup (.cons (.c (.int 1)) (.cons (.v 1) .nil))) .nil))))) .nil)))) (.cons (.app (.v 6) (.cmp .eq (.call 123 (.cons (.v 7) (.cons (.v 3) .nil))) (.lst (.cons (.c (.int 1)) .nil)))) (.cons (.rt (.bin .add (.v 6) (.lst (.cons (.cmp .eq (.ix (.ix (.call 80 (.cons (.v 7) (.cons (.sll (.v 3) (.c (.int 1))) (.cons (.c (.int 0)) .nil)))) (.c (.int 0))) (.c (.int 3))) (.tup (.cons (.c (.int 0)) (.cons (.bin .add (.v 1) (.c (.int 2))) .nil)))) .nil)))) .nil))))))))))))⟩
/-- _law_put_right: slots minute belt plates found -/
def f221 : FD := ⟨1, 4, (.cons (.set 0 (.n 1) (.tup (.cons (.tup (.cons (.tup (.cons (.tup (.cons (.c (.str "b")) (.cons (.c (.int 2)) .nil))) (.cons (.c (.str "r")) (.cons (.c (.int 5)) (.cons (.c (.int 2)) .nil))))) .nil)) (.cons (.c (.int 1)) .nil)))) (.cons (.set 0 (.n 2) (.tup (.cons (.tup (.cons (.v 0) (.cons (.tup (.cons (.c (.str "b")) (.cons (.c (.int 2)) .nil))) (.cons (.c (.str "r")) .nil)))) (.cons (.tup (.cons (.v 0) (.cons (.tup (.cons (.c (.str "b")) (.cons (.c (.int 0)) .nil))) (.cons (.c (.str "g")) .nil)))) .nil)))) (.cons (.set 0 (.n 2) (.bin .add (.v 2) (.tup (.cons (.tup (.cons (.v 0) (.cons (.tup (.cons (.c (.str "t")) (.cons (.c (.int 1)) .nil))) (.cons (.c (.str "r")) .nil)))) (.cons (.tup (.cons (.v 0) (.cons (.tup (.cons (.c (.str "b")) (.cons (.c (.int 3)) .nil))) (.cons (.c (.str "r")) .nil)))) .nil))))) (.cons (.set 0 (.n 3) (.new (.lst (.cons (.cmp .eq (.call 76 (.cons (.v 1) (.cons (.v 2) (.cons (.c (.int 0)) .nil)))) (.lst (.cons (.tup (.cons (.c (.int 10)) (.cons (.c .non) (.cons (.c (.int 0)) (.cons (.tup (.cons (.c (.int 0)) (.cons (.v 0) .nil))) .nil))))) .nil))) .nil)))) (.cons (.app (.v 3) (.cmp .eq (.call 76 (.cons (.v 1) (.cons (.v 2) (.cons (.c (.int 1)) .nil)))) (.lst (.cons (.tup (.cons (.c (.int 10)) (.cons (.c .non) (.cons (.c .non) (.cons (.tup (.cons (.c (.int 1)) (.cons (.v 0) .nil))) .nil))))) .nil)))) (.cons (.app (.v 3) (.cmp .eq (.call 76 (.cons (.v 1) (.cons (.v 2) (.cons (.c (.int 2)) .nil)))) (.lst (.cons (.tup (.cons (.c (.int 10)) (.cons (.c .non) (.cons (.c .non) (.cons (.tup (.cons (.c (.int 0)) (.cons (.bin .add (.v 0) (.c (.int 1))) .nil))) .nil))))) .nil)))) (.cons (.app (.v 3) (.cmp .eq (.call 76 (.cons (.v 1) (.cons (.v 2) (.cons (.c (.int 3)) .nil)))) (.lst (.cons (.tup (.cons (.c (.int 10)) (.cons (.c .non) (.cons (.c .non) (.cons (.tup (.cons (.c (.int 1)) (.cons (.bin .sub (.v 0) (.c (.int 3))) .nil))) .nil))))) .nil)))) (.cons (.app (.v 3) (.cmp .eq (.call 77 (.cons (.v 1) (.cons (.v 2) .nil))) (.lst (.cons (.tup (.cons (.c (.int 10)) (.cons (.c .non) (.cons (.tup (.cons (.c (.int 1)) (.cons (.v 0) .nil))) .nil)))) .nil)))) (.cons (.rt (.bin .add (.v 3) (.lst (.cons (.cmp .iss (.call 100 (.cons (.v 1) (.cons (.v 2) (.cons (.c (.int 3)) (.cons (.c (.int 1)) .nil))))) (.c (.bl true))) .nil)))) .nil)))))))))⟩
/-- _law_piled_right: slots pause due found both belt plates -/
def f222 : FD := ⟨1, 6, (.cons (.set 2 (.t (.cons (.n 4) (.cons (.n 5) .nil))) (.tup (.cons (.tup (.cons (.tup (.cons (.tup (.cons (.tup (.cons (.c (.str "b")) (.cons (.c (.int 2)) .nil))) (.cons (.c (.str "r")) (.cons (.v 0) (.cons (.c (.int 2)) .nil))))) .nil)) (.cons (.c (.int 2)) .nil))) (.cons (.bin .mul (.tup (.cons (.tup (.cons (.c (.int 0)) (.cons (.tup (.cons (.c (.str "b")) (.cons (.c (.int 0)) .nil))) (.cons (.c (.str "r")) .nil)))) .nil)) (.c (.int 2))) .nil)))) (.cons (.set 0 (.n 1) (.lst (.cons (.tup (.cons (.c (.int 10)) (.cons (.c .non) (.cons (.c (.int 0)) (.cons (.tup (.cons (.c (.int 1)) (.cons (.c (.int 2)) .nil))) .nil))))) .nil))) (.cons (.iff (.cmp .gt (.v 0) (.c (.int 10))) (.cons (.set 0 (.n 1) (.lst (.cons (.tup (.cons (.c (.int 10)) (.cons (.bin .sub (.v 0) (.c (.int 1))) (.cons (.c .non) (.cons (.tup (.cons (.c (.int 2)) (.cons (.c (.int 0)) .nil))) .nil))))) (.cons (.tup (.cons (.v 0) (.cons (.c .non) (.cons (.c (.int 0)) (.cons (.tup (.cons (.c (.int 1)) (.cons (.c (.int 2)) .nil))) .nil))))) .nil)))) .nil) .nil) (.cons (.set 0 (.n 2) (.new (.lst (.cons (.cmp .eq (.call 76 (.cons (.v 4) (.cons (.v 5) (.cons (.c (.int 1)) .nil)))) (.v 1)) .nil)))) (.cons (.app (.v 2) (.cmp .eq (.call 99 (.cons (.v 4) (.cons (.v 5) (.cons (.c (.int 0)) (.cons (.c (.int 1)) .nil))))) (.bi .max2 (.cons (.c (.int 10)) (.cons (.v 0) .nil))))) (.cons (.app (.v 2) (.cmp .eq (.bi .len (.cons (.call 64 (.cons (.v 4) (.cons (.v 5) .nil))) .nil)) (.bi .len (.cons (.v 1) .nil)))) (.cons (.app (.v 2) (.cmp .eq (.call 80 (.cons (.v 4) (.cons (.v 5) (.cons (.c (.int 0)) .nil)))) (.lst (.cons (.tup (.cons (.c (.int 10)) (.cons (.c .non) (.cons (.c (.int 0)) (.cons (.tup (.cons (.c (.int 0)) (.cons (.c (.int 2)) .nil))) .nil))))) .nil)))) (.cons (.set 0 (.n 3) (.tup (.cons (.bin .mul (.ix (.v 4) (.c (.int 0))) (.c (.int 2))) (.cons (.c (.int 1)) .nil)))) (.cons (.app (.v 2) (.cmp .eq (.call 48 (.cons (.v 3) (.cons (.v 5) (.cons (.c (.int 50)) .nil)))) (.tup (.cons (.tup (.cons (.tup (.cons (.c (.int 0)) (.cons (.c (.int 2)) .nil))) .nil)) (.cons (.tup (.cons (.tup (.cons (.c (.int 1)) (.cons (.c (.int 2)) .nil))) .nil)) .nil))))) (.cons (.app (.v 2) (.cmp .eq (.call 48 (.cons (.v 3) (.cons (.slh (.v 5) (.c (.int 1))) (.cons (.c (.int 50)) .nil)))) (.tup (.cons (.tup (.cons (.tup (.cons (.c (.int 0)) (.cons (.c (.int 2)) .nil))) .nil)) (.cons (.tup .nil) .nil))))) (.cons (.app (.v 2) (.cmp .eq (.call 81 (.cons (.v 3) (.cons (.v 5) .nil))) (.lst (.cons (.tup (.cons (.c (.int 10)) (.cons (.c .non) (.cons (.c (.int 0)) .nil)))) .nil)))) (.cons (.rt (.bin .add (.v 2) (.lst (.cons (.call 121 (.cons (.v 3) (.cons (.v 5) (.cons (.tup (.cons (.ix (.v 3) (.c (.int 0))) (.cons (.c (.int 3)) .nil))) (.cons (.v 5) .nil))))) .nil)))) .nil))))))))))))⟩
/-- _law_first_right: slots later_so belt plates found mine yours -/
def f223 : FD := ⟨1, 6, (.cons (.set 0 (.n 1) (.tup (.cons (.tup (.cons (.tup (.cons (.tup (.cons (.c (.str "b")) (.cons (.c (.int 2)) .nil))) (.cons (.c (.str "r")) (.cons (.c (.int 60)) (.cons (.c (.int 1)) .nil))))) .nil)) (.cons (.c (.int 2)) .nil)))) (.cons (.set 0 (.n 2) (.tup (.cons (.tup (.cons (.c (.int 0)) (.cons (.tup (.cons (.c (.str "b")) (.cons (.c (.int 3)) .nil))) (.cons (.c (.str "r")) .nil)))) (.cons (.tup (.cons (.v 0) (.cons (.tup (.cons (.c (.str "b")) (.cons (.c (.int 0)) .nil))) (.cons (.c (.str "r")) .nil)))) .nil)))) (.cons (.set 2 (.t (.cons (.n 4) (.cons (.n 5) .nil))) (.tup (.cons (.lst (.cons (.tup (.cons (.c (.int 10)) (.cons (.c .non) (.cons (.c .non) (.cons (.tup (.cons (.c (.int 2)) (.cons (.neg (.c (.int 3))) .nil))) .nil))))) .nil)) (.cons (.new (.lst (.cons (.tup (.cons (.c (.int 10)) (.cons (.c .non) (.cons (.c (.int 0)) (.cons (.tup (.cons (.c (.int 0)) (.cons (.bin .add (.v 0) (.c (.int 2))) .nil))) .nil))))) .nil))) .nil)))) (.cons (.iff (.cmp .gt (.v 0) (.c (.int 6))) (.cons (.set 0 (.n 4) (.lst (.cons (.tup (.cons (.c (.int 10)) (.cons (.bin .add (.v 0) (.c (.int 3))) (.cons (.c (.int 0)) (.cons (.tup (.cons (.c (.int 1)) (.cons (.neg (.c (.int 1))) .nil))) .nil))))) (.cons (.tup (.cons (.bin .add (.v 0) (.c (.int 4))) (.cons (.c .non) (.cons (.c .non) (.cons (.tup (.cons (.c (.int 2)) (.cons (.neg (.c (.int 3))) .nil))) .nil))))) .nil)))) (.cons (.set 0 (.n 5) (.new (.lst (.cons (.tup (.cons (.c (.int 10)) (.cons (.bin .add (.v 0) (.c (.int 3))) (.cons (.c .non) (.cons (.tup (.cons (.c (.int 2)) (.cons (.v 0) .nil))) .nil))))) .nil)))) (.cons (.app (.v 5) (.tup (.cons (.bin .add (.v 0) (.c (.int 4))) (.cons (.c .non) (.cons (.c (.int 0)) (.cons (.tup (.cons (.c (.int 0)) (.cons (.bin .add (.v 0) (.c (.int 2))) .nil))) .nil)))))) .nil))) .nil) (.cons (.set 0 (.n 3) (.new (.lst (.cons (.cmp .eq (.call 76 (.cons (.v 1) (.cons (.v 2) (.cons (.c (.int 0)) .nil)))) (.v 4)) .nil)))) (.cons (.app (.v 3) (.cmp .eq (.call 76 (.cons (.v 1) (.cons (.v 2) (.cons (.c (.int 1)) .nil)))) (.v 5))) (.cons (.app (.v 3) (.cmp .eq (.call 99 (.cons (.v 1) (.cons (.v 2) (.cons (.c (.int 0)) (.cons (.c (.int 1)) .nil))))) (.bi .max2 (.cons (.c (.int 10)) (.cons (.bin .add (.v 0) (.c (.int 4))) .nil))))) (.cons (.rt (.bin .add (.v 3) (.lst (.cons (.cmp .eq (.call 123 (.cons (.v 1) (.cons (.v 2) .nil))) (.ite (.cmp .gt (.v 0) (.c (.int 6))) (.lst .nil) (.lst (.cons (.c (.int 0)) .nil)))) .nil)))) .nil))))))))⟩
/-- law: slots script k source -/
def f224 : FD := ⟨1, 3, (.cons (.forr (.n 1) (.rng1 (.bin .add (.c (.int 1)) (.bi .min2 (.cons (.bi .len (.cons (.v 0) .nil)) (.cons (.c (.int 8)) .nil))))) (.cons (.set 0 (.n 2) (.call 16 (.cons (.v 0) (.cons (.v 1) .nil)))) (.cons (.iff (.cmp .inn (.c (.bl false)) (.call 220 (.cons (.bin .add (.c (.int 1)) (.call 17 (.cons (.v 2) (.cons (.c (.int 20)) .nil)))) (.cons (.call 17 (.cons (.v 2) (.cons (.c (.int 25)) .nil))) .nil)))) (.cons (.rt (.c (.bl false))) .nil) .nil) (.cons (.iff (.cmp .inn (.c (.bl false)) (.call 221 (.cons (.call 17 (.cons (.v 2) (.cons (.c (.int 200)) .nil))) .nil))) (.cons (.rt (.c (.bl false))) .nil) .nil) (.cons (.iff (.cmp .inn (.c (.bl false)) (.call 222 (.cons (.bin .add (.c (.int 1)) (.call 17 (.cons (.v 2) (.cons (.c (.int 60)) .nil)))) .nil))) (.cons (.rt (.c (.bl false))) .nil) .nil) (.cons (.iff (.cmp .inn (.c (.bl false)) (.call 223 (.cons (.call 17 (.cons (.v 2) (.cons (.c (.int 200)) .nil))) .nil))) (.cons (.rt (.c (.bl false))) .nil) .nil) .nil)))))) (.cons (.rt (.cmp .eq (.call 47 (.cons (.tup (.cons (.tup (.cons (.tup (.cons (.tup (.cons (.c (.str "b")) (.cons (.c (.int 2)) .nil))) (.cons (.c (.str "y")) (.cons (.c (.int 1)) (.cons (.c (.int 1)) .nil))))) .nil)) (.cons (.c (.int 1)) .nil))) (.cons (.tup (.cons (.tup (.cons (.c (.int 0)) (.cons (.tup (.cons (.c (.str "b")) (.cons (.c (.int 0)) .nil))) (.cons (.c (.str "r")) .nil)))) .nil)) (.cons (.c (.int 10)) .nil)))) (.tup (.cons (.tup (.cons (.tup .nil) .nil)) (.cons (.tup (.cons (.tup (.cons (.c (.int 0)) (.cons (.tup (.cons (.c (.int 1)) (.cons (.c (.int 0)) .nil))) .nil))) .nil)) .nil))))) .nil))⟩
/-- _law_orders: slots guest two short wide -/
def f225 : FD := ⟨0, 4, (.cons (.set 0 (.t (.cons (.n 0) (.cons (.n 1) .nil))) (.tup (.cons (.tup (.cons (.tup (.cons (.c (.str "b")) (.cons (.c (.int 2)) .nil))) (.cons (.c (.str "r")) (.cons (.c (.int 5)) (.cons (.c (.int 2)) .nil))))) (.cons (.tup (.cons (.tup (.cons (.c (.int 0)) (.cons (.tup (.cons (.c (.str "b")) (.cons (.c (.int 0)) .nil))) (.cons (.c (.str "r")) .nil)))) (.cons (.tup (.cons (.c (.int 1)) (.cons (.tup (.cons (.c (.str "b")) (.cons (.c (.int 0)) .nil))) (.cons (.c (.str "r")) .nil)))) .nil))) .nil)))) (.cons (.set 2 (.t (.cons (.n 2) (.cons (.n 3) .nil))) (.tup (.cons (.tup (.cons (.tup (.cons (.v 0) (.cons (.tup (.cons (.tup (.cons (.c (.str "t")) (.cons (.c (.int 1)) .nil))) (.cons (.c (.str "gr")) (.cons (.c (.int 3)) (.cons (.c (.int 4)) .nil))))) .nil))) (.cons (.c (.int 2)) .nil))) (.cons (.tup (.cons (.tup (.cons (.v 0) (.cons (.tup (.cons (.tup (.cons (.c (.str "t")) (.cons (.c (.int 1)) .nil))) (.cons (.c (.str "gr")) (.cons (.c (.int 12)) (.cons (.c (.int 4)) .nil))))) .nil))) (.cons (.c (.int 2)) .nil))) .nil)))) (.cons (.rt (.tup (.cons (.tup (.cons (.tup (.cons (.v 0) .nil)) (.cons (.c (.int 1)) .nil))) (.cons (.v 2) (.cons (.v 3) (.cons (.v 1) (.cons (.bin .add (.v 1) (.tup (.cons (.tup (.cons (.c (.int 4)) (.cons (.tup (.cons (.c (.str "b")) (.cons (.c (.int 3)) .nil))) (.cons (.c (.str "g")) .nil)))) .nil))) .nil))))))) .nil)))⟩
/-- _law_first_right: slots found one short wide two all_so row -/
def f226 : FD := ⟨0, 7, (.cons (.set 0 (.t (.cons (.n 1) (.cons (.n 2) (.cons (.n 3) (.cons (.n 4) (.cons (.n 5) .nil)))))) (.call 225 .nil)) (.cons (.set 0 (.n 0) (.new (.lst (.cons (.call 13 (.cons (.v 1) .nil)) (.cons (.nt (.call 13 (.cons (.tup (.cons (.ix (.v 1) (.c (.int 0))) (.cons (.c (.int 4)) .nil))) .nil))) (.cons (.nt (.call 13 (.cons (.tup (.cons (.tup .nil) (.cons (.c (.int 1)) .nil))) .nil))) .nil)))))) (.cons (.app (.v 0) (.nt (.call 13 (.cons (.tup (.cons (.tup (.cons (.tup (.cons (.tup (.cons (.c (.str "b")) (.cons (.c (.int 0)) .nil))) (.cons (.c (.str "r")) (.cons (.c (.int 1)) (.cons (.c (.int 1)) .nil))))) .nil)) (.cons (.c (.int 1)) .nil))) .nil)))) (.cons (.app (.v 0) (.call 14 (.cons (.v 5) .nil))) (.cons (.app (.v 0) (.nt (.call 14 (.cons (.rev (.v 5)) .nil)))) (.cons (.set 0 (.n 0) (.new (.bin .add (.v 0) (.lst (.cons (.nt (.call 14 (.cons (.tup (.cons (.tup (.cons (.c (.int 0)) (.cons (.tup (.cons (.c (.str "t")) (.cons (.c (.int 0)) .nil))) (.cons (.c (.str "r")) .nil)))) .nil)) .nil))) (.cons (.cmp .eq (.call 15 (.cons (.c (.int 10)) (.cons (.tup (.cons (.c (.str "t")) (.cons (.c (.int 4)) .nil))) .nil))) (.c (.int 6))) .nil)))))) (.cons (.app (.v 0) (.cmp .eq (.call 15 (.cons (.bin .pow (.c (.int 10)) (.c (.int 30))) (.cons (.tup (.cons (.c (.str "b")) (.cons (.c (.int 3)) .nil))) .nil))) (.c (.int 3)))) (.cons (.app (.v 0) (.cmp .eq (.call 47 (.cons (.v 1) (.cons (.v 4) (.cons (.c (.int 10)) .nil)))) (.tup (.cons (.tup (.cons (.tup (.cons (.tup (.cons (.c (.int 0)) (.cons (.tup (.cons (.c (.int 0)) (.cons (.c (.int 2)) .nil))) .nil))) .nil)) .nil)) (.cons (.tup (.cons (.tup (.cons (.c (.int 1)) (.cons (.tup (.cons (.c (.int 1)) (.cons (.c (.int 1)) .nil))) .nil))) .nil)) .nil))))) (.cons (.app (.v 0) (.cmp .eq (.call 47 (.cons (.v 2) (.cons (.v 5) (.cons (.c (.int 50)) .nil)))) (.tup (.cons (.tup (.cons (.tup (.cons (.tup (.cons (.c (.int 0)) (.cons (.tup (.cons (.c (.int 0)) (.cons (.c (.int 2)) .nil))) .nil))) .nil)) (.cons (.tup (.cons (.tup (.cons (.c (.int 1)) (.cons (.tup (.cons (.c (.int 1)) (.cons (.c (.int 0)) .nil))) .nil))) (.cons (.tup (.cons (.c (.int 2)) (.cons (.tup (.cons (.c (.int 2)) (.cons (.c (.int 0)) .nil))) .nil))) .nil))) .nil))) (.cons (.tup .nil) .nil))))) (.cons (.app (.v 0) (.cmp .eq (.call 48 (.cons (.v 3) (.cons (.v 5) (.cons (.c (.int 10)) .nil)))) (.tup (.cons (.tup (.cons (.tup (.cons (.c (.int 0)) (.cons (.c (.int 2)) .nil))) .nil)) (.cons (.tup (.cons (.tup (.cons (.c (.int 1)) (.cons (.c (.int 10)) .nil))) .nil)) .nil))))) (.cons (.app (.v 0) (.cmp .eq (.call 48 (.cons (.v 2) (.cons (.tup .nil) (.cons (.c (.int 10)) .nil)))) (.tup (.cons (.tup .nil) (.cons (.tup .nil) .nil))))) (.cons (.set 0 (.n 0) (.new (.bin .add (.v 0) (.lst (.cons (.cmp .eq (.call 48 (.cons (.v 3) (.cons (.v 5) (.cons (.c (.int 12)) .nil)))) (.tup (.cons (.tup (.cons (.tup (.cons (.c (.int 0)) (.cons (.c (.int 2)) .nil))) .nil)) (.cons (.tup (.cons (.tup (.cons (.c (.int 1)) (.cons (.c (.int 12)) .nil))) (.cons (.tup (.cons (.c (.int 2)) (.cons (.c (.int 24)) .nil))) .nil))) .nil)))) .nil))))) (.cons (.set 0 (.n 0) (.new (.bin .add (.v 0) (.lst (.cons (.cmp .eq (.ix (.call 47 (.cons (.v 3) (.cons (.v 5) (.cons (.c (.int 10)) .nil)))) (.c (.int 1))) (.tup (.cons (.tup (.cons (.c (.int 2)) (.cons (.tup (.cons (.c (.int 2)) (.cons (.c (.int 1)) .nil))) .nil))) .nil))) .nil))))) (.cons (.set 0 (.n 0) (.new (.bin .add (.v 0) (.lst (.cons (.cmp .eq (.comp (.slh (.v 6) (.c (.int 2))) (.n 6) (.ov (.call 64 (.cons (.v 2) (.cons (.v 5) .nil)))) (.c (.bl true)) [6]) (.lst (.cons (.tup (.cons (.c (.int 10)) (.cons (.c .non) .nil))) .nil))) .nil))))) (.cons (.app (.v 0) (.cmp .eq (.comp (.slh (.v 6) (.c (.int 2))) (.n 6) (.ov (.call 64 (.cons (.v 3) (.cons (.v 5) .nil)))) (.c (.bl true)) [6]) (.lst (.cons (.tup (.cons (.c (.int 10)) (.cons (.c (.int 11)) .nil))) (.cons (.tup (.cons (.c (.int 12)) (.cons (.c .non) .nil))) .nil))))) (.cons (.app (.v 0) (.cmp .eq (.call 76 (.cons (.v 3) (.cons (.v 5) (.cons (.c (.int 2)) .nil)))) (.lst (.cons (.tup (.cons (.c (.int 10)) (.cons (.c (.int 11)) (.cons (.c .non) (.cons (.tup (.cons (.c (.int 2)) (.cons (.c (.int 1)) .nil))) .nil))))) (.cons (.tup (.cons (.c (.int 12)) (.cons (.c .non) (.cons (.c (.int 1)) (.cons (.tup (.cons (.c (.int 2)) (.cons (.c (.int 0)) .nil))) .nil))))) .nil))))) (.cons (.app (.v 0) (.cmp .eq (.call 76 (.cons (.v 1) (.cons (.v 4) (.cons (.c (.int 1)) .nil)))) (.lst (.cons (.tup (.cons (.c (.int 10)) (.cons (.c .non) (.cons (.c .non) (.cons (.tup (.cons (.c (.int 1)) (.cons (.c (.int 1)) .nil))) .nil))))) .nil)))) (.cons (.app (.v 0) (.cmp .eq (.call 77 (.cons (.v 3) (.cons (.v 5) .nil))) (.lst (.cons (.tup (.cons (.c (.int 10)) (.cons (.c (.int 11)) (.cons (.tup (.cons (.c (.int 2)) (.cons (.c (.int 1)) .nil))) .nil)))) (.cons (.tup (.cons (.c (.int 12)) (.cons (.c .non) (.cons (.tup (.cons (.c (.int 2)) (.cons (.c (.int 0)) .nil))) .nil)))) .nil))))) (.cons (.rt (.bin .add (.v 0) (.lst (.cons (.cmp .eq (.call 77 (.cons (.v 1) (.cons (.tup .nil) .nil))) (.lst (.cons (.tup (.cons (.c (.int 10)) (.cons (.c .non) (.cons (.tup (.cons (.c (.int 0)) (.cons (.c (.int 0)) .nil))) .nil)))) .nil))) .nil)))) .nil)))))))))))))))))))⟩
/-- _law_second_right: slots found one short wide two all_so -/
def f227 : FD := ⟨0, 6, (.cons (.set 0 (.t (.cons (.n 1) (.cons (.n 2) (.cons (.n 3) (.cons (.n 4) (.cons (.n 5) .nil)))))) (.call 225 .nil)) (.cons (.set 0 (.n 0) (.new (.lst (.cons (.cmp .eq (.call 80 (.cons (.v 3) (.cons (.v 5) (.cons (.c (.int 1)) .nil)))) (.lst (.cons (.tup (.cons (.c (.int 10)) (.cons (.c .non) (.cons (.c (.int 1)) (.cons (.tup (.cons (.c (.int 1)) (.cons (.c (.int 0)) .nil))) .nil))))) .nil))) .nil)))) (.cons (.app (.v 0) (.cmp .eq (.call 80 (.cons (.v 1) (.cons (.tup .nil) (.cons (.c (.int 0)) .nil)))) (.lst (.cons (.tup (.cons (.c (.int 10)) (.cons (.c .non) (.cons (.c .non) (.cons (.c .non) .nil))))) .nil)))) (.cons (.app (.v 0) (.cmp .eq (.call 81 (.cons (.v 3) (.cons (.v 5) .nil))) (.lst (.cons (.tup (.cons (.c (.int 10)) (.cons (.c (.int 11)) (.cons (.c (.int 1)) .nil)))) (.cons (.tup (.cons (.c (.int 12)) (.cons (.c .non) (.cons (.c (.int 0)) .nil)))) .nil))))) (.cons (.app (.v 0) (.cmp .eq (.call 81 (.cons (.v 1) (.cons (.v 4) .nil))) (.lst (.cons (.tup (.cons (.c (.int 10)) (.cons (.c .non) (.cons (.c (.int 1)) .nil)))) .nil)))) (.cons (.app (.v 0) (.cmp .eq (.call 81 (.cons (.v 2) (.cons (.v 5) .nil))) (.lst (.cons (.tup (.cons (.c (.int 10)) (.cons (.c .non) (.cons (.c (.int 0)) .nil)))) .nil)))) (.cons (.app (.v 0) (.cmp .iss (.call 98 (.cons (.v 3) (.cons (.v 5) (.cons (.c (.int 0)) (.cons (.c (.int 0)) .nil))))) (.c (.bl true)))) (.cons (.app (.v 0) (.cmp .isn (.call 98 (.cons (.v 3) (.cons (.v 5) (.cons (.c (.int 1)) (.cons (.c (.int 2)) .nil))))) (.c .non))) (.cons (.app (.v 0) (.cmp .iss (.call 98 (.cons (.v 3) (.cons (.v 5) (.cons (.c (.int 0)) (.cons (.c (.int 2)) .nil))))) (.c (.bl false)))) (.cons (.app (.v 0) (.cmp .eq (.call 99 (.cons (.v 3) (.cons (.v 5) (.cons (.c (.int 1)) (.cons (.c (.int 2)) .nil))))) (.c (.int 12)))) (.cons (.app (.v 0) (.cmp .isn (.call 99 (.cons (.v 3) (.cons (.v 5) (.cons (.c (.int 0)) (.cons (.c (.int 1)) .nil))))) (.c .non))) (.cons (.app (.v 0) (.cmp .iss (.call 100 (.cons (.v 3) (.cons (.v 5) (.cons (.c (.int 0)) (.cons (.c (.int 1)) .nil))))) (.c (.bl true)))) (.cons (.app (.v 0) (.cmp .isn (.call 101 (.cons (.v 3) (.cons (.v 5) (.cons (.c (.int 2)) (.cons (.c (.int 1)) .nil))))) (.c .non))) (.cons (.app (.v 0) (.cmp .eq (.call 101 (.cons (.v 3) (.cons (.v 5) (.cons (.c (.int 1)) (.cons (.c (.int 2)) .nil))))) (.c (.int 10)))) (.cons (.app (.v 0) (.call 102 (.cons (.v 2) (.cons (.v 3) (.cons (.v 5) (.cons (.c (.int 2)) .nil)))))) (.cons (.app (.v 0) (.cmp .eq (.call 103 (.cons (.v 3) (.cons (.v 2) (.cons (.v 5) (.cons (.c (.int 2)) .nil))))) (.c (.int 10)))) (.cons (.app (.v 0) (.cmp .isn (.call 103 (.cons (.v 2) (.cons (.v 3) (.cons (.v 5) (.cons (.c (.int 2)) .nil))))) (.c .non))) (.cons (.app (.v 0) (.nt (.call 121 (.cons (.v 2) (.cons (.v 5) (.cons (.v 3) (.cons (.v 5) .nil))))))) (.cons (.app (.v 0) (.cmp .eq (.call 122 (.cons (.v 2) (.cons (.v 5) (.cons (.v 3) (.cons (.v 5) .nil))))) (.c (.int 10)))) (.cons (.app (.v 0) (.call 121 (.cons (.v 2) (.cons (.v 4) (.cons (.v 3) (.cons (.v 4) .nil)))))) (.cons (.app (.v 0) (.cmp .isn (.call 122 (.cons (.v 2) (.cons (.v 4) (.cons (.v 3) (.cons (.v 4) .nil))))) (.c .non))) (.cons (.app (.v 0) (.cmp .eq (.call 123 (.cons (.v 2) (.cons (.v 5) .nil))) (.lst (.cons (.c (.int 2)) .nil)))) (.cons (.rt (.bin .add (.v 0) (.lst (.cons (.cmp .eq (.call 123 (.cons (.v 1) (.cons (.v 4) .nil))) (.lst (.cons (.c (.int 1)) .nil))) (.cons (.cmp .eq (.call 123 (.cons (.v 1) (.cons (.slh (.v 4) (.c (.int 1))) .nil))) (.lst (.cons (.c (.int 0)) .nil))) .nil))))) .nil)))))))))))))))))))))))⟩
/-- _law_third_right: slots found one short wide two all_so -/
def f228 : FD := ⟨0, 6, (.cons (.set 0 (.t (.cons (.n 1) (.cons (.n 2) (.cons (.n 3) (.cons (.n 4) (.cons (.n 5) .nil)))))) (.call 225 .nil)) (.cons (.set 0 (.n 0) (.new (.lst (.cons (.cmp .eq (.call 131 (.cons (.v 3) (.cons (.v 5) .nil))) (.lst (.cons (.tup (.cons (.c (.int 10)) (.cons (.c (.int 11)) (.cons (.tup (.cons (.c (.int 3)) .nil)) .nil)))) (.cons (.tup (.cons (.c (.int 12)) (.cons (.c .non) (.cons (.tup (.cons (.c (.int 2)) (.cons (.c (.int 3)) .nil))) .nil)))) .nil)))) .nil)))) (.cons (.app (.v 0) (.cmp .eq (.call 131 (.cons (.v 1) (.cons (.v 4) .nil))) (.lst (.cons (.tup (.cons (.c (.int 10)) (.cons (.c .non) (.cons (.tup (.cons (.c (.int 2)) (.cons (.c (.int 3)) .nil))) .nil)))) .nil)))) (.cons (.app (.v 0) (.cmp .eq (.call 132 (.cons (.v 1) (.cons (.v 4) (.cons (.c (.int 0)) .nil)))) (.lst (.cons (.tup (.cons (.c (.int 10)) (.cons (.c .non) (.cons (.tup (.cons (.c (.int 1)) .nil)) .nil)))) .nil)))) (.cons (.set 0 (.n 0) (.new (.bin .add (.v 0) (.lst (.cons (.cmp .eq (.call 131 (.cons (.v 1) (.cons (.tup .nil) .nil))) (.lst (.cons (.tup (.cons (.c (.int 10)) (.cons (.c .non) (.cons (.tup (.cons (.c (.int 1)) (.cons (.c (.int 2)) (.cons (.c (.int 3)) .nil)))) .nil)))) .nil))) .nil))))) (.cons (.app (.v 0) (.cmp .eq (.call 139 (.cons (.v 3) (.cons (.v 5) (.cons (.tup (.cons (.tup (.cons (.c (.int 2)) (.cons (.c (.int 1)) (.cons (.c (.int 24)) .nil)))) .nil)) .nil)))) (.lst (.cons (.tup (.cons (.c (.int 12)) (.cons (.c (.int 12)) .nil))) .nil)))) (.cons (.app (.v 0) (.cmp .eq (.call 139 (.cons (.v 3) (.cons (.v 5) (.cons (.tup (.cons (.tup (.cons (.c (.int 1)) (.cons (.c (.int 1)) (.cons (.c (.int 10)) .nil)))) .nil)) .nil)))) (.lst (.cons (.tup (.cons (.c (.int 10)) (.cons (.c (.int 10)) .nil))) .nil)))) (.cons (.app (.v 0) (.cmp .eq (.call 139 (.cons (.v 3) (.cons (.v 5) (.cons (.tup (.cons (.tup (.cons (.c (.int 0)) (.cons (.c (.int 0)) (.cons (.c (.int 2)) .nil)))) .nil)) .nil)))) (.lst (.cons (.tup (.cons (.c (.int 10)) (.cons (.c .non) .nil))) .nil)))) (.cons (.app (.v 0) (.cmp .eq (.call 139 (.cons (.v 3) (.cons (.v 5) (.cons (.tup (.cons (.tup (.cons (.c (.int 2)) (.cons (.c .non) (.cons (.c (.int 40)) .nil)))) .nil)) .nil)))) (.lst .nil))) (.cons (.app (.v 0) (.call 140 (.cons (.v 3) (.cons (.v 5) (.cons (.c (.int 11)) (.cons (.tup (.cons (.tup (.cons (.c (.int 2)) (.cons (.c .non) (.cons (.c (.int 23)) .nil)))) (.cons (.tup (.cons (.c (.int 1)) (.cons (.c (.int 1)) (.cons (.c (.int 11)) .nil)))) .nil))) .nil)))))) (.cons (.app (.v 0) (.cmp .eq (.call 165 (.cons (.v 1) (.cons (.v 4) .nil))) (.c (.str "rounds 1\nguest b2 r 5 2\nplate 0 b0 r\nplate 1 b0 r")))) (.cons (.rt (.bin .add (.v 0) (.lst (.cons (.cmp .eq (.call 166 (.cons (.call 165 (.cons (.v 3) (.cons (.v 5) .nil))) .nil)) (.tup (.cons (.v 3) (.cons (.v 5) .nil)))) .nil)))) .nil))))))))))))⟩
/-- law: slots script k source -/
def f230 : FD := ⟨1, 3, (.cons (.forr (.n 1) (.rng1 (.bin .add (.c (.int 1)) (.bi .min2 (.cons (.bi .len (.cons (.v 0) .nil)) (.cons (.c (.int 3)) .nil))))) (.cons (.set 0 (.n 2) (.call 16 (.cons (.v 0) (.cons (.v 1) .nil)))) (.cons (.iff (.and (.cmp .eq (.call 17 (.cons (.v 2) (.cons (.c (.int 2)) .nil))) (.c (.int 0))) (.cmp .inn (.c (.bl false)) (.call 229 .nil))) (.cons (.rt (.c (.bl false))) .nil) .nil) (.cons (.iff (.or (.cmp .inn (.c (.bl false)) (.call 226 .nil)) (.cmp .inn (.c (.bl false)) (.call 227 .nil))) (.cons (.rt (.c (.bl false))) .nil) .nil) (.cons (.iff (.and (.cmp .eq (.v 1) (.c (.int 0))) (.cmp .inn (.c (.bl false)) (.bin .add (.call 228 .nil) (.call 229 .nil)))) (.cons (.rt (.c (.bl false))) .nil) .nil) .nil))))) (.cons (.rt (.c (.bl true))) .nil))⟩
def FT (n : Nat) : Option FD := match n with
  | 0 => some f0
  | 1 => some f1
  | 2 => some f2
  | 3 => some f3
  | 4 => some f4
  | 5 => some f5
  | 6 => some f6
  | 7 => some f7
  | 8 => some f8
  | 9 => some f9
  | 10 => some f10
  | 11 => some f11
  | 12 => some f12
  | 13 => some f13
  | 14 => some f14
  | 15 => some f15
  | 16 => some f16
  | 17 => some f17
  | 18 => some f18
  | 19 => some f19
  | 20 => some f20
  | 21 => some f21
  | 22 => some f22
  | 23 => some f23
  | 24 => some f24
  | 25 => some f25
  | 26 => some f26
  | 27 => some f27
  | 29 => some f29
  | 30 => some f30
  | 31 => some f31
  | 32 => some f32
  | 33 => some f33
  | 34 => some f34
  | 35 => some f35
  | 36 => some f36
  | 37 => some f37
  | 38 => some f38
  | 39 => some f39
  | 40 => some f40
  | 41 => some f41
  | 42 => some f42
  | 43 => some f43
  | 44 => some f44
  | 45 => some f45
  | 46 => some f46
  | 47 => some f47
  | 48 => some f48
  | 49 => some f49
  | 50 => some f50
  | 51 => some f51
  | 52 => some f52
  | 53 => some f53
  | 54 => some f54
  | 55 => some f55
  | 56 => some f56
  | 57 => some f57
  | 58 => some f58
  | 59 => some f59
  | 60 => some f60
  | 61 => some f61
  | 62 => some f62
  | 63 => some f63
  | 64 => some f64
  | 65 => some f65
  | 66 => some f66
  | 67 => some f67
  | 68 => some f68
  | 69 => some f69
  | 70 => some f70
  | 71 => some f71
  | 72 => some f72
  | 73 => some f73
  | 74 => some f74
  | 75 => some f75
  | 76 => some f76
  | 77 => some f77
  | 78 => some f78
  | 79 => some f79
  | 80 => some f80
  | 81 => some f81
  | 82 => some f82
  | 83 => some f83
  | 84 => some f84
  | 85 => some f85
  | 88 => some f88
  | 89 => some f89
  | 90 => some f90
  | 91 => some f91
  | 92 => some f92
  | 93 => some f93
  | 94 => some f94
  | 95 => some f95
  | 96 => some f96
  | 97 => some f97
  | 98 => some f98
  | 99 => some f99
  | 100 => some f100
  | 101 => some f101
  | 102 => some f102
  | 103 => some f103
  | 104 => some f104
  | 105 => some f105
  | 106 => some f106
  | 107 => some f107
  | 108 => some f108
  | 109 => some f109
  | 110 => some f110
  | 111 => some f111
  | 112 => some f112
  | 113 => some f113
  | 114 => some f114
  | 115 => some f115
  | 116 => some f116
  | 117 => some f117
  | 118 => some f118
  | 119 => some f119
  | 120 => some f120
  | 121 => some f121
  | 122 => some f122
  | 123 => some f123
  | 125 => some f125
  | 126 => some f126
  | 127 => some f127
  | 129 => some f129
  | 130 => some f130
  | 131 => some f131
  | 132 => some f132
  | 133 => some f133
  | 134 => some f134
  | 135 => some f135
  | 136 => some f136
  | 137 => some f137
  | 138 => some f138
  | 139 => some f139
  | 140 => some f140
  | 142 => some f142
  | 143 => some f143
  | 145 => some f145
  | 147 => some f147
  | 148 => some f148
  | 149 => some f149
  | 150 => some f150
  | 151 => some f151
  | 154 => some f154
  | 155 => some f155
  | 157 => some f157
  | 158 => some f158
  | 159 => some f159
  | 160 => some f160
  | 161 => some f161
  | 162 => some f162
  | 163 => some f163
  | 165 => some f165
  | 166 => some f166
  | 167 => some f167
  | 168 => some f168
  | 171 => some f171
  | 172 => some f172
  | 173 => some f173
  | 174 => some f174
  | 175 => some f175
  | 176 => some f176
  | 181 => some f181
  | 187 => some f187
  | 188 => some f188
  | 193 => some f193
  | 200 => some f200
  | 215 => some f215
  | 216 => some f216
  | 217 => some f217
  | 219 => some f219
  | 220 => some f220
  | 221 => some f221
  | 222 => some f222
  | 223 => some f223
  | 224 => some f224
  | 225 => some f225
  | 226 => some f226
  | 227 => some f227
  | 228 => some f228
  | 230 => some f230
  | _ => none
/-- the classes of errors: 0 BeltError, above all the others -/
def subT (c d : Nat) : Bool := c == d || d == 0
abbrev RN (k : Nat) : Nat → List D → M D := run FT 100000 subT k
end AB

set_option Elab.async false
set_option linter.all false
set_option autoImplicit false
set_option maxRecDepth 100000
set_option maxHeartbeats 1000000
/-! MirC: what an expression or a body comes to, part by part (the store as it was). -/
namespace AB
open PySem
theorem cut_self (v : D) (st : Store) : cutS v st st = st := by
  unfold cutS
  split
  · exact List.take_length
  · rfl
theorem run_s {k f : Nat} {fd : FD} {xs : List D} {st : Store} (e : FT f = some fd) (hl : xs.length = fd.np) : RN (k + 1) f xs st = match evSs (RN k) subT 100000 fd.body (xs.map some ++ List.replicate (fd.ns - fd.np) none) st with
        | .ok (.rt v) st' => .ok v (cutS v st st')
        | .ok (.nx _) st' => .ok .non (cutS .non st st')
        | .ok _ _ => .no
        | .ex e _ st' => .ex e st'
        | .no => .no := by
  show (match FT f with
    | some fd => if xs.length = fd.np then _ else non
    | none => non) st = _
  rw [e]
  simp only [if_pos hl]
  try rfl
section
variable {C : Nat → List D → M D} {sub : Nat → Nat → Bool} {W : Nat} {env : Env} {st : Store}
theorem bnd_of {α β : Type} {m : M α} {f : α → M β} {st st1 : Store} {a : α} (h : m st = .ok a st1) : bnd m f st = f a st1 := by unfold bnd; rw [h]
theorem noex_of {α : Type} {m : M α} {st st1 : Store} {a : α} (h : m st = .ok a st1) : noex m st = .ok a st1 := by unfold noex; rw [h]
/-- an expression that leaves the store as it is -/
abbrev EvP (C : Nat → List D → M D) (sub : Nat → Nat → Bool) (e : E) (env : Env) (d : D) : Prop := ∀ st, ev C sub e env st = .ok d st
theorem pv {i : Nat} {d : D} (h : vget env[i]? = some d) : EvP C sub (.v i) env d := fun st => by
  show lft (vget env[i]?) st = _
  rw [h]; rfl
theorem pc {d : D} : EvP C sub (.c d) env d := fun _ => rfl
theorem pbin {o : Op} {a b : E} {x y z : D} (ha : EvP C sub a env x) (hb : EvP C sub b env y) (h : ∀ st, opM o x y st = .ok z st) : EvP C sub (.bin o a b) env z := fun st => by
  show bnd (ev C sub a env) (fun x => bnd (ev C sub b env) fun y => opM o x y) st = _
  unfold bnd; rw [ha st]; simp only []; rw [hb st]; exact h st
theorem pix {a i : E} {x z : D} {j : Int} (ha : EvP C sub a env x) (hi : EvP C sub i env (.int j)) (h : ∀ st, ixM x (.int j) st = .ok z st) : EvP C sub (.ix a i) env z := fun st => by
  show bnd (ev C sub a env) (fun x => bnd (ev C sub i env) fun y => ixM x y) st = _
  unfold bnd; rw [ha st]; simp only []; rw [hi st]; exact h st
theorem pcmp {o : Co} {a b : E} {x y : D} {t : Bool} (ha : EvP C sub a env x) (hb : EvP C sub b env y) (h : ∀ st, coM o x y st = .ok (.bl t) st) : EvP C sub (.cmp o a b) env (.bl t) := fun st => by
  show bnd (ev C sub a env) (fun x => bnd (ev C sub b env) fun y => coM o x y) st = _
  unfold bnd; rw [ha st]; simp only []; rw [hb st]; exact h st
theorem pite {t a b : E} {c : Bool} {x : D} (ht : EvP C sub t env (.bl c)) (ha : c = true → EvP C sub a env x) (hb : c = false → EvP C sub b env x) : EvP C sub (.ite t a b) env x := fun st => by
  show bnd (ev C sub t env) (fun x => bnd (lft (truth x)) fun c => if c then ev C sub a env else ev C sub b env) st = _
  unfold bnd; rw [ht st]; simp only [truth, lft, ret]
  cases c with
  | true => simp only [if_true]; exact ha rfl st
  | false => simp only [Bool.false_eq_true, if_false]; exact hb rfl st
/-- argument lists -/
abbrev EsP (C : Nat → List D → M D) (sub : Nat → Nat → Bool) (e : Es) (env : Env) (ds : List D) : Prop := ∀ st, evs C sub e env st = .ok ds st
theorem qnil : EsP C sub .nil env [] := fun _ => rfl
theorem qcons {e : E} {es : Es} {d : D} {ds : List D} (h : EvP C sub e env d) (t : EsP C sub es env ds) : EsP C sub (.cons e es) env (d :: ds) := fun st => by
  show bnd (ev C sub e env) (fun x => bnd (evs C sub es env) fun xs => ret (x :: xs)) st = _
  unfold bnd; rw [h st]; simp only []; rw [t st]; rfl
theorem ptup {es : Es} {ds : List D} (h : EsP C sub es env ds) : EvP C sub (.tup es) env (.tup ds) := fun st => by
  show bnd (evs C sub es env) (fun xs => ret (D.tup xs)) st = _
  unfold bnd; rw [h st]; rfl
theorem pcall {f : Nat} {es : Es} {ds : List D} {d : D} (h : EsP C sub es env ds) (k : ∀ st, C f ds st = .ok d st) : EvP C sub (.call f es) env d := fun st => by
  show bnd (evs C sub es env) (fun xs => C f xs) st = _
  unfold bnd; rw [h st]; exact k st
/-- a body that returns -/
abbrev SsR (C : Nat → List D → M D) (sub : Nat → Nat → Bool) (W : Nat) (ss : Ss) (env : Env) (d : D) : Prop := ∀ st, evSs C sub W ss env st = .ok (.rt d) st
theorem srt {e : E} {ss : Ss} {d : D} (h : EvP C sub e env d) : SsR C sub W (.cons (.rt e) ss) env d := fun st => by
  show thenS (onE (ev C sub e env) env fun d => retS (.rt d)) _ st = _
  unfold thenS onE; rw [h st]; rfl
theorem sset {m : Nat} {tg : T} {e : E} {ss : Ss} {d r : D} {env' : Env} (h : EvP C sub e env d) (ha : asg tg d env = some env') (t : SsR C sub W ss env' r) : SsR C sub W (.cons (.set m tg e) ss) env r := fun st => by
  show thenS (onE (ev C sub e env) env fun d => match asg tg d env with
    | some env' => retS (.nx env')
    | none => nonS) (fun env' => evSs C sub W ss env') st = _
  unfold thenS onE; rw [h st]; simp only [ha]; exact t st
theorem run_p {k f : Nat} {fd : FD} {xs : List D} {d : D} (e : FT f = some fd) (hl : xs.length = fd.np) (h : SsR (RN k) subT 100000 fd.body (xs.map some ++ List.replicate (fd.ns - fd.np) none) d) (st : Store) : RN (k + 1) f xs st = .ok d st := by
  rw [run_s e hl, h st]
  simp only [cut_self]
theorem pneg {a : E} {i : Int} (ha : EvP C sub a env (.int i)) : EvP C sub (.neg a) env (.int (-i)) := fun st => by
  show bnd (ev C sub a env) (fun x => match x with
      | .int i => ret (D.int (-i))
      | _ => non) st = _
  unfold bnd; rw [ha st]; rfl
theorem pnt {a : E} {b : Bool} (ha : EvP C sub a env (.bl b)) : EvP C sub (.nt a) env (.bl (!b)) := fun st => by
  show bnd (ev C sub a env) (fun x => bnd (lft (truth x)) fun b => ret (D.bl (!b))) st = _
  unfold bnd; rw [ha st]; rfl
/-- a and b: b only where a holds -/
theorem pand {a b : E} {s t : Bool} (ha : EvP C sub a env (.bl s)) (hb : s = true → EvP C sub b env (.bl t)) : EvP C sub (.and a b) env (.bl (s && t)) := fun st => by
  show bnd (ev C sub a env) (fun x => bnd (lft (truth x)) fun t => if t then ev C sub b env else ret (D.bl false)) st = _
  unfold bnd; rw [ha st]; simp only [truth, lft, ret]
  cases s with
  | true => simp only [if_true, Bool.true_and]; exact hb rfl st
  | false => rfl
theorem por {a b : E} {s t : Bool} (ha : EvP C sub a env (.bl s)) (hb : s = false → EvP C sub b env (.bl t)) : EvP C sub (.or a b) env (.bl (s || t)) := fun st => by
  show bnd (ev C sub a env) (fun x => bnd (lft (truth x)) fun t => if t then ret (D.bl true) else ev C sub b env) st = _
  unfold bnd; rw [ha st]; simp only [truth, lft, ret]
  cases s with
  | true => rfl
  | false => simp only [Bool.false_eq_true, if_false, Bool.false_or]; exact hb rfl st
/-- an if as a value, told by its test -/
theorem pif {t a b : E} {c : Bool} {x y : D} (ht : EvP C sub t env (.bl c)) (ha : c = true → EvP C sub a env x) (hb : c = false → EvP C sub b env y) : EvP C sub (.ite t a b) env (if c then x else y) := by
  refine pite ht (fun h => ?_) fun h => ?_
  · rw [h]; exact ha h
  · rw [h]; exact hb h
theorem pchn {o p : Co} {a b c : E} {x y z : D} {s t : Bool} (ha : EvP C sub a env x) (hb : EvP C sub b env y) (h1 : ∀ st, coM o x y st = .ok (.bl s) st) (hc : s = true → EvP C sub c env z) (h2 : s = true → ∀ st, coM p y z st = .ok (.bl t) st) : EvP C sub (.chn o p a b c) env (.bl (s && t)) := fun st => by
  show bnd (ev C sub a env) (fun x => bnd (ev C sub b env) fun y => bnd (coM o x y) fun r => bnd (lft (truth r)) fun t => if t then bnd (ev C sub c env) fun z => coM p y z else ret (D.bl false)) st = _
  unfold bnd; rw [ha st]; simp only []; rw [hb st]; simp only []; rw [h1 st]; simp only [truth, lft, ret]
  cases s with
  | true => simp only [if_true, Bool.true_and]; rw [hc rfl st]; exact h2 rfl st
  | false => rfl
theorem plst {es : Es} {ds : List D} (h : EsP C sub es env ds) : EvP C sub (.lst es) env (.lst ds) := fun st => by
  show bnd (evs C sub es env) (fun xs => ret (D.lst xs)) st = _
  unfold bnd; rw [h st]; rfl
theorem pbi {b : Bi} {es : Es} {ds : List D} {d : D} (h : EsP C sub es env ds) (k : ∀ st, biM b ds st = .ok d st) : EvP C sub (.bi b es) env d := fun st => by
  show bnd (evs C sub es env) (fun xs => biM b xs) st = _
  unfold bnd; rw [h st]; exact k st
theorem pisi {e : E} {t : Ty} {x : D} {b : Bool} (h : EvP C sub e env x) (k : ∀ st, isiM t x st = .ok (.bl b) st) : EvP C sub (.isi e t) env (.bl b) := fun st => by
  show bnd (ev C sub e env) (fun x => isiM t x) st = _
  unfold bnd; rw [h st]; exact k st
theorem psll {a l : E} {x z : D} {i : Int} (ha : EvP C sub a env x) (hl : EvP C sub l env (.int i)) (h : ∀ st, slM x (some i) none st = .ok z st) : EvP C sub (.sll a l) env z := fun st => by
  show bnd (ev C sub a env) (fun x => bnd (ev C sub l env) fun l => bnd (lft (toI l)) fun i => slM x (some i) none) st = _
  unfold bnd; rw [ha st]; simp only []; rw [hl st]; exact h st
theorem pslh {a l : E} {x z : D} {i : Int} (ha : EvP C sub a env x) (hl : EvP C sub l env (.int i)) (h : ∀ st, slM x none (some i) st = .ok z st) : EvP C sub (.slh a l) env z := fun st => by
  show bnd (ev C sub a env) (fun x => bnd (ev C sub l env) fun h => bnd (lft (toI h)) fun j => slM x none (some j)) st = _
  unfold bnd; rw [ha st]; simp only []; rw [hl st]; exact h st
/-- what is walked -/
abbrev ItP (C : Nat → List D → M D) (sub : Nat → Nat → Bool) (i : I) (env : Env) (ds : List D) : Prop := ∀ st, its C sub i env st = .ok ds st
theorem wov {e : E} {x : D} {ds : List D} (h : EvP C sub e env x) (k : items x = some ds) : ItP C sub (.ov e) env ds := fun st => by
  show bnd (ev C sub e env) (fun x => lft (items x)) st = _
  unfold bnd; rw [h st]; simp only [k]; rfl
theorem wrng1 {e : E} {x : D} {ds : List D} (h : EvP C sub e env x) (k : rngP (.int 0) x = some ds) : ItP C sub (.rng1 e) env ds := fun st => by
  show bnd (ev C sub e env) (fun x => lft (rngP (.int 0) x)) st = _
  unfold bnd; rw [h st]; simp only [k]; rfl
theorem wenm {e : E} {x : D} {ds : List D} (h : EvP C sub e env x) (k : items x = some ds) : ItP C sub (.enm e) env (enumD 0 ds) := fun st => by
  show bnd (ev C sub e env) (fun x => bnd (lft (items x)) fun xs => ret (enumD 0 xs)) st = _
  unfold bnd; rw [h st]; simp only [k]; rfl
theorem wzip {a b : E} {x y : D} {ds es : List D} (h : EvP C sub a env x) (h2 : EvP C sub b env y) (k : items x = some ds) (k2 : items y = some es) : ItP C sub (.zip a b) env (zipD ds es) := fun st => by
  show bnd (ev C sub a env) (fun x => bnd (ev C sub b env) fun y => bnd (lft (items x)) fun xs => bnd (lft (items y)) fun ys => ret (zipD xs ys)) st = _
  unfold bnd; rw [h st]; simp only []; rw [h2 st]; simp only [k]; show bnd (lft (items y)) _ st = _; rw [k2]; rfl
/-- a comprehension over typed items: enc tells them, g what is kept -/
theorem compL_enc {α : Type} {enc : α → D} {f : D → M (Option D)} {g : α → Option D} (h : ∀ (a : α) st, f (enc a) st = .ok (g a) st) : ∀ (xs : List α) st, compL f (xs.map enc) st = .ok (xs.filterMap g) st
  | [], st => rfl
  | x :: xs, st => by
    show bnd (f (enc x)) (fun o => bnd (compL f (xs.map enc)) fun ys => ret (match o with
      | some y => y :: ys
      | none => ys)) st = _
    unfold bnd
    rw [h x st]
    simp only []
    rw [compL_enc h xs st]
    cases q : g x <;> simp [List.filterMap_cons, q, ret]
theorem compL_mem {α : Type} {enc : α → D} {f : D → M (Option D)} {g : α → Option D} : ∀ (xs : List α) (_ : ∀ a ∈ xs, ∀ st, f (enc a) st = .ok (g a) st) (st : Store), compL f (xs.map enc) st = .ok (xs.filterMap g) st
  | [], _, st => rfl
  | x :: xs, h, st => by
    show bnd (f (enc x)) (fun o => bnd (compL f (xs.map enc)) fun ys => ret (match o with
      | some y => y :: ys
      | none => ys)) st = _
    unfold bnd
    rw [h x List.mem_cons_self st]
    simp only []
    rw [compL_mem xs (fun a ha => h a (List.mem_cons_of_mem _ ha)) st]
    cases q : g x <;> simp [List.filterMap_cons, q, ret]
theorem pcomp {α : Type} {enc : α → D} {elt cond : E} {tg : T} {it : I} {own : List Nat} {xs : List α} {ds : List D} (t : α → Bool) (v : α → D) (hi : ItP C sub it env ds) (hd : ds = xs.map enc)
    (h : ∀ a ∈ xs, ∃ env', asg tg (enc a) (wipeE env own) = some env' ∧ EvP C sub cond env' (.bl (t a)) ∧ (t a = true → EvP C sub elt env' (v a))) (hz : xs.length < szLine) : EvP C sub (.comp elt tg it cond own) env (.lst ((xs.filter t).map v)) := fun st => by
  have e : ∀ st, compL (fun x => match asg tg x (wipeE env own) with
      | some env' => bnd (ev C sub cond env') fun t => bnd (lft (truth t)) fun b => if b then bnd (ev C sub elt env') fun y => ret (some y) else ret none
      | none => non) (xs.map enc) st = .ok (xs.filterMap fun a => if t a then some (v a) else none) st := fun st => by
    refine compL_mem (g := fun a => if t a then some (v a) else none) xs (fun a ha st => ?_) st
    obtain ⟨env', h1, h2, h3⟩ := h a ha
    simp only [h1]
    unfold bnd
    rw [h2 st]
    simp only [truth, lft, ret]
    cases q : t a with
    | true => simp only [if_true]; rw [h3 q st]
    | false => simp only [Bool.false_eq_true, if_false]; rfl
  have e2 : (xs.filterMap fun a => if t a then some (v a) else none) = (xs.filter t).map v := by
    clear h hd e hz
    induction xs with
    | nil => rfl
    | cons x xs ih => cases q : t x <;> simp [List.filterMap_cons, List.filter_cons, q, ih]
  have e3 : ((xs.filter t).map v).length < szLine := by
    have := List.length_filter_le t xs
    rw [List.length_map]
    omega
  subst hd
  have e4 : bnd (its C sub it env) (fun xs => bnd (noex (compL (fun x => match asg tg x (wipeE env own) with
      | some env' => bnd (ev C sub cond env') fun t => bnd (lft (truth t)) fun b => if b then bnd (ev C sub elt env') fun y => ret (some y) else ret none
      | none => non) xs)) fun ys => bnd (sizeOk ys) fun ys => ret (D.lst ys)) st = .ok (D.lst ((xs.filter t).map v)) st := by
    rw [bnd_of (hi st), bnd_of (noex_of (e st)), e2]
    have : sizeOk ((xs.filter t).map v) st = .ok ((xs.filter t).map v) st := by unfold sizeOk; rw [if_pos e3]; rfl
    rw [bnd_of this]
    rfl
  exact e4
/-- a body that goes on, to env' -/
abbrev SsN (C : Nat → List D → M D) (sub : Nat → Nat → Bool) (W : Nat) (ss : Ss) (env env' : Env) : Prop := ∀ st, evSs C sub W ss env st = .ok (.nx env') st
theorem nnil : SsN C sub W .nil env env := fun _ => rfl
theorem nset {m : Nat} {tg : T} {e : E} {ss : Ss} {d : D} {env' env2 : Env} (h : EvP C sub e env d) (ha : asg tg d env = some env') (t : SsN C sub W ss env' env2) : SsN C sub W (.cons (.set m tg e) ss) env env2 := fun st => by
  show thenS (onE (ev C sub e env) env fun d => match asg tg d env with
    | some env' => retS (.nx env')
    | none => nonS) (fun env' => evSs C sub W ss env') st = _
  unfold thenS onE; rw [h st]; simp only [ha]; exact t st
theorem sif {t : E} {a b ss : Ss} {c : Bool} {d : D} (ht : EvP C sub t env (.bl c)) (ha : c = true → SsR C sub W a env d) (hb : c = false → SsN C sub W b env env) (hr : c = false → SsR C sub W ss env d) : SsR C sub W (.cons (.iff t a b) ss) env d := fun st => by
  show thenS (onE (bnd (ev C sub t env) fun x => lft (truth x)) env fun c => if c then evSs C sub W a env else evSs C sub W b env) (fun env' => evSs C sub W ss env') st = _
  unfold thenS onE bnd; rw [ht st]; simp only [truth, lft, ret]
  cases c with
  | true => simp only [if_true]; rw [ha rfl st]
  | false => simp only [Bool.false_eq_true, if_false]; rw [hb rfl st]; exact hr rfl st
end
end AB

set_option Elab.async false
set_option linter.all false
set_option autoImplicit false
set_option maxRecDepth 100000
set_option maxHeartbeats 1000000
/-! MirA: forms. -/
namespace AB
open PySem
abbrev Fo := Int × Int
def eF (f : Fo) : D := .tup [.int f.1, .int f.2]
theorem r_added (k : Nat) (a b : Fo) (st : Store) : RN (k + 1) 33 [eF a, eF b] st = .ok (eF (a.1 + b.1, a.2 + b.2)) st :=
  run_p (fd := f33) rfl rfl (fun _ => rfl) st
theorem r_less (k : Nat) (a b : Fo) (st : Store) : RN (k + 1) 34 [eF a, eF b] st = .ok (eF (a.1 - b.1, a.2 - b.2)) st :=
  run_p (fd := f34) rfl rfl (fun _ => rfl) st
def wo (f : Fo) (n : Int) : Int := f.1 * n + f.2
/-- the product of two small ones -/
theorem opM_mul {a b : Int} (h : a.natAbs < 2 ^ 64 ∨ b.natAbs < 2 ^ 64) (st : Store) : opM .mul (.int a) (.int b) st = .ok (.int (a * b)) st := by
  show lft (if a.natAbs < 2 ^ 64 ∨ b.natAbs < 2 ^ 64 then some (D.int (a * b)) else none) st = _
  rw [if_pos h]; rfl
theorem r_worth (k : Nat) (a : Fo) (n : Int) (h : a.1.natAbs < 2 ^ 64) (st : Store) : RN (k + 1) 10 [eF a, .int n] st = .ok (.int (wo a n)) st :=
  run_p (fd := f10) rfl rfl (srt (pbin (pbin (pix (pv rfl) pc fun _ => rfl) (pv rfl) (opM_mul (.inl h))) (pix (pv rfl) pc fun _ => rfl) fun _ => rfl)) st
def sg (f : Fo) (n : Int) : Int := if 0 < wo f n then 1 else if wo f n < 0 then -1 else 0
theorem r_sign (k : Nat) (a : Fo) (n : Int) (h : a.1.natAbs < 2 ^ 64) (st : Store) : RN (k + 2) 35 [eF a, .int n] st = .ok (.int (sg a n)) st := by
  refine run_p (fd := f35) rfl rfl (sset (pcall (qcons (pv rfl) (qcons (pv rfl) qnil)) (r_worth k a n h)) rfl (srt ?_)) st
  have e := pif (C := RN (k + 1)) (sub := subT) (env := [some (eF a), some (.int n), some (.int (wo a n))]) (t := .cmp .gt (.v 2) (.c (.int 0))) (a := .c (.int 1)) (b := .ite (.cmp .lt (.v 2) (.c (.int 0))) (.neg (.c (.int 1))) (.c (.int 0)))
    (pcmp (pv rfl) pc fun _ => rfl) (fun _ => pc) fun _ => pif (pcmp (pv rfl) pc fun _ => rfl) (fun _ => pneg pc) fun _ => pc
  have e2 : D.int (sg a n) = if decide (0 < wo a n) then D.int 1 else if decide (wo a n < 0) then D.int (-1) else D.int 0 := by
    unfold sg
    by_cases h1 : 0 < wo a n
    · simp [h1]
    · by_cases h2 : wo a n < 0 <;> simp [h1, h2]
  rw [e2]
  exact e
end AB

set_option Elab.async false
set_option linter.all false
set_option autoImplicit false
set_option maxRecDepth 100000
set_option maxHeartbeats 1000000
/-! MirB: places, plates, guests; how far; off. -/
namespace AB
open PySem
/-- a place: b tells 'b' -/
structure Pl where
  b : Bool
  i : Int
  deriving DecidableEq
def eP (p : Pl) : D := .tup [.str (if p.b then "b" else "t"), .int p.i]
structure Gu where
  seat : Pl
  wants : Str
  pause : Int
  most : Int
def eG (g : Gu) : D := .tup [eP g.seat, .str g.wants, .int g.pause, .int g.most]
structure Pt where
  min : Int
  pl : Pl
  kind : Str
def eT (p : Pt) : D := .tup [.int p.min, eP p.pl, .str p.kind]
structure Be where
  gs : List Gu
  ro : Int
def eB (b : Be) : D := .tup [.tup (b.gs.map eG), .int b.ro]
def pf (p : Pl) : Fo := if p.b then (0, p.i) else (1, -p.i)
theorem r_pf (k : Nat) (p : Pl) (st : Store) : RN (k + 1) 9 [eP p] st = .ok (eF (pf p)) st := by
  obtain ⟨b, i⟩ := p
  cases b <;> exact run_p (fd := f9) rfl rfl (fun _ => rfl) st
theorem pf_sm (p : Pl) : (pf p).1.natAbs ≤ 1 := by
  unfold pf; split <;> simp
def plus (a b : Fo) : Fo := (a.1 + b.1, a.2 + b.2)
def minus (a b : Fo) : Fo := (a.1 - b.1, a.2 - b.2)
def furth (p g : Pl) : Fo := if sg (minus (pf g) (pf p)) 10 < 0 then plus (minus (pf g) (pf p)) (1, 0) else minus (pf g) (pf p)
theorem minus_sm (p g : Pl) : (minus (pf g) (pf p)).1.natAbs ≤ 2 := by
  have h1 := pf_sm p
  have h2 := pf_sm g
  simp only [minus]
  omega
theorem r_furth (k : Nat) (p g : Pl) (st : Store) : RN (k + 3) 36 [eP p, eP g] st = .ok (eF (furth p g)) st := by
  have hs := minus_sm p g
  refine run_p (fd := f36) rfl rfl (sset (d := eF (minus (pf g) (pf p))) (pcall (qcons (pcall (qcons (pv rfl) qnil) (r_pf (k + 1) g)) (qcons (pcall (qcons (pv rfl) qnil) (r_pf (k + 1) p)) qnil)) (r_less (k + 1) (pf g) (pf p))) rfl (srt ?_)) st
  have e : eF (furth p g) = if decide (sg (minus (pf g) (pf p)) 10 < 0) then eF (plus (minus (pf g) (pf p)) (1, 0)) else eF (minus (pf g) (pf p)) := by
    unfold furth
    by_cases h : sg (minus (pf g) (pf p)) 10 < 0 <;> simp [h]
  rw [e]
  exact pif (pcmp (pcall (qcons (pv rfl) (qcons pc qnil)) (r_sign k (minus (pf g) (pf p)) 10 (by omega))) pc fun _ => rfl) (fun _ => pcall (qcons (pv rfl) (qcons (ptup (qcons pc (qcons pc qnil))) qnil)) (r_added (k + 1) _ (1, 0))) fun _ => pv rfl
def home (p : Pl) : Fo := if furth p ⟨true, 0⟩ = (0, 0) then (1, 0) else furth p ⟨true, 0⟩
def offF (t : Pt) (ro : Int) : Fo := plus (plus (0, t.min) (home t.pl)) (ro - 1, 0)
/-- two forms compared -/
theorem eqF (a b : Fo) (st : Store) : coM .eq (eF a) (eF b) st = .ok (.bl (decide (a = b))) st := by
  show lft ((eqP (eF a) (eF b)).map D.bl) st = _
  have e : eqP (eF a) (eF b) = some ((a.1 == b.1) && ((a.2 == b.2) && true)) := rfl
  rw [e]
  have e2 : ((a.1 == b.1) && ((a.2 == b.2) && true)) = decide (a = b) := by
    by_cases h1 : a.1 = b.1 <;> by_cases h2 : a.2 = b.2 <;> simp [h1, h2, Prod.ext_iff]
  rw [e2]; rfl
theorem r_off (k : Nat) (t : Pt) (ro : Int) (st : Store) : RN (k + 4) 40 [eT t, .int ro] st = .ok (eF (offF t ro)) st := by
  refine run_p (fd := f40) rfl rfl (sset (d := eF (furth t.pl ⟨true, 0⟩)) (pcall (qcons (pix (pv rfl) pc fun _ => rfl) (qcons (ptup (qcons pc (qcons pc qnil))) qnil)) (r_furth k t.pl ⟨true, 0⟩)) rfl
    (sset (d := eF (home t.pl)) ?_ rfl (srt (pcall (qcons (pcall (qcons (ptup (qcons pc (qcons (pix (pv rfl) pc fun _ => rfl) qnil))) (qcons (pv rfl) qnil)) (r_added (k + 2) (0, t.min) (home t.pl))) (qcons (ptup (qcons (pbin (pv rfl) pc fun _ => rfl) (qcons pc qnil))) qnil)) (r_added (k + 2) (plus (0, t.min) (home t.pl)) (ro - 1, 0)))))) st
  have e : eF (home t.pl) = if decide (furth t.pl ⟨true, 0⟩ = (0, 0)) then eF (1, 0) else eF (furth t.pl ⟨true, 0⟩) := by
    unfold home
    by_cases h : furth t.pl ⟨true, 0⟩ = (0, 0) <;> simp [h]
  rw [e]
  exact pif (pcmp (pv rfl) (ptup (qcons pc (qcons pc qnil))) (eqF _ (0, 0))) (fun _ => ptup (qcons pc (qcons pc qnil))) fun _ => pv rfl
/-- the turns of a for over typed items: R tells where it stands -/
theorem forN {α β : Type} {enc : α → D} {f : D → Env → MS} (R : β → Env → Prop) (step : β → α → β) : ∀ (xs : List α) (b : β) (env : Env), (∀ a ∈ xs, ∀ b env, R b env → ∃ env', (∀ st, f (enc a) env st = .ok (.nx env') st) ∧ R (step b a) env') → R b env →
    ∃ env', (∀ st, forS f (xs.map enc) env st = .ok (.nx env') st) ∧ R (xs.foldl step b) env'
  | [], b, env, _, h => ⟨env, fun _ => rfl, h⟩
  | x :: xs, b, env, hs, h => by
    obtain ⟨env1, h1, h2⟩ := hs x List.mem_cons_self b env h
    obtain ⟨env2, h3, h4⟩ := forN R step xs (step b x) env1 (fun a ha => hs a (List.mem_cons_of_mem _ ha)) h2
    refine ⟨env2, fun st => ?_, h4⟩
    show (match f (enc x) env st with
      | .ok (.nx env') st' => forS f (xs.map enc) env' st'
      | .ok (.ct env') st' => forS f (xs.map enc) env' st'
      | .ok (.bk env') st' => .ok (.nx env') st'
      | .ok (.rt d) st' => .ok (.rt d) st'
      | .ex e env' st' => .ex e env' st'
      | .no => .no) = _
    rw [h1 st]
    exact h3 st
end AB

set_option Elab.async false
set_option linter.all false
set_option autoImplicit false
set_option maxRecDepth 100000
set_option maxHeartbeats 2000000
/-! MirD: the comings. -/
namespace AB
open PySem
theorem forI {α β : Type} {enc : α → D} {f : D → Env → MS} (R : Nat → β → Env → Prop) (step : β → α → β) : ∀ (xs : List α) (i : Nat) (b : β) (env : Env),
    (∀ j a, xs[j]? = some a → ∀ b env, R (i + j) b env → ∃ env', (∀ st, f (enc a) env st = .ok (.nx env') st) ∧ R (i + j + 1) (step b a) env') → R i b env →
    ∃ env', (∀ st, forS f (xs.map enc) env st = .ok (.nx env') st) ∧ R (i + xs.length) (xs.foldl step b) env'
  | [], i, b, env, _, h => ⟨env, fun _ => rfl, h⟩
  | x :: xs, i, b, env, hs, h => by
    obtain ⟨env1, h1, h2⟩ := hs 0 x rfl b env h
    obtain ⟨env2, h3, h4⟩ := forI R step xs (i + 1) (step b x) env1 (fun j a ha b env hr => by
      have := hs (j + 1) a (by simpa using ha) b env (by rw [show i + (j + 1) = i + 1 + j by omega]; exact hr)
      rw [show i + (j + 1) + 1 = i + 1 + j + 1 by omega] at this
      exact this) h2
    refine ⟨env2, fun st => ?_, by rw [show i + (x :: xs).length = i + 1 + xs.length by simp; omega]; exact h4⟩
    show (match f (enc x) env st with
      | .ok (.nx env') st' => forS f (xs.map enc) env' st'
      | .ok (.ct env') st' => forS f (xs.map enc) env' st'
      | .ok (.bk env') st' => .ok (.nx env') st'
      | .ok (.rt d) st' => .ok (.rt d) st'
      | .ex e env' st' => .ex e env' st'
      | .no => .no) = _
    rw [h1 st]
    exact h3 st
theorem enumD_map {α : Type} (e : α → D) : ∀ (xs : List α) (n : Nat), enumD n (xs.map e) = (xs.zipIdx n).map fun p => .tup [.int (p.2 : Nat), e p.1]
  | [], _ => rfl
  | x :: xs, n => by
    simp only [List.map_cons, enumD, List.zipIdx_cons]
    rw [show ((n : Int) + 1) = ((n + 1 : Nat) : Int) by omega, enumD_map e xs (n + 1)]
theorem range_map : ∀ (n : Nat) (i : Nat), AB.range i n = (List.range' i n).map fun k => D.int (k : Nat)
  | 0, _ => rfl
  | n + 1, i => by
    simp only [AB.range, List.range'_succ, List.map_cons]
    rw [show ((i : Int) + 1) = ((i + 1 : Nat) : Int) by omega, range_map n (i + 1)]
section
variable {C : Nat → List D → M D} {sub : Nat → Nat → Bool} {W : Nat} {env : Env} {st : Store}
/-- a for in a body -/
theorem sfor {tg : T} {it : I} {b ss : Ss} {ds : List D} {env' : Env} {d : D} (hi : ItP C sub it env ds) (h : ∀ st, forS (fun x env1 => match asg tg x env1 with
    | some env2 => evSs C sub W b env2
    | none => nonS) ds env st = .ok (.nx env') st) (t : SsR C sub W ss env' d) : SsR C sub W (.cons (.forr tg it b) ss) env d := fun st => by
  show thenS (onE (its C sub it env) env fun xs => forS (fun x env1 => match asg tg x env1 with
    | some env2 => evSs C sub W b env2
    | none => nonS) xs env) (fun env' => evSs C sub W ss env') st = _
  unfold thenS onE; rw [hi st]; simp only []; rw [h st]; exact t st
theorem nfor {tg : T} {it : I} {b ss : Ss} {ds : List D} {env' env2 : Env} (hi : ItP C sub it env ds) (h : ∀ st, forS (fun x env1 => match asg tg x env1 with
    | some env2 => evSs C sub W b env2
    | none => nonS) ds env st = .ok (.nx env') st) (t : SsN C sub W ss env' env2) : SsN C sub W (.cons (.forr tg it b) ss) env env2 := fun st => by
  show thenS (onE (its C sub it env) env fun xs => forS (fun x env1 => match asg tg x env1 with
    | some env2 => evSs C sub W b env2
    | none => nonS) xs env) (fun env' => evSs C sub W ss env') st = _
  unfold thenS onE; rw [hi st]; simp only []; rw [h st]; exact t st
theorem nif {t : E} {a b ss : Ss} {c : Bool} {env1 env2 : Env} (ht : EvP C sub t env (.bl c)) (ha : c = true → SsN C sub W a env env1) (hb : c = false → SsN C sub W b env env1) (hr : SsN C sub W ss env1 env2) : SsN C sub W (.cons (.iff t a b) ss) env env2 := fun st => by
  show thenS (onE (bnd (ev C sub t env) fun x => lft (truth x)) env fun c => if c then evSs C sub W a env else evSs C sub W b env) (fun env' => evSs C sub W ss env') st = _
  unfold thenS onE bnd; rw [ht st]; simp only [truth, lft, ret]
  cases c with
  | true => simp only [if_true]; rw [ha rfl st]; exact hr st
  | false => simp only [Bool.false_eq_true, if_false]; rw [hb rfl st]; exact hr st
end
abbrev Cm := Fo × Nat × Nat
def eC (c : Cm) : D := .tup [eF c.1, .int (c.2.1 : Nat), .int (c.2.2 : Nat)]
def inW (t : Pt) (g : Gu) : Bool := decide (t.kind.cps.getD 0 0 ∈ g.wants.cps.toList)
def good (g : Gu) (t : Pt) (ro : Int) (f : Fo) : Bool := inW t g && decide (sg (minus f (offF t ro)) 10 < 0)
def coming1 (n i : Nat) (g : Gu) (t : Pt) (ro : Int) (acc : List Cm) (turn : Nat) : List Cm :=
  if good g t ro (plus (plus (0, t.min) (furth t.pl g.seat)) ((turn : Int), 0)) then acc ++ [(plus (plus (0, t.min) (furth t.pl g.seat)) ((turn : Int), 0), n, i)] else acc
def coming2 (n : Nat) (g : Gu) (ro : Int) (acc : List Cm) (t : Pt × Nat) : List Cm := (List.range' 0 (ro + 1).toNat).foldl (coming1 n t.2 g t.1 ro) acc
def coming3 (ps : List Pt) (ro : Int) (acc : List Cm) (g : Gu × Nat) : List Cm := (ps.zipIdx 0).foldl (coming2 g.2 g.1 ro) acc
def comings (b : Be) (ps : List Pt) : List Cm := (b.gs.zipIdx 0).foldl (coming3 ps b.ro) []
end AB

set_option Elab.async false
set_option linter.all false
set_option autoImplicit false
set_option maxRecDepth 100000
set_option maxHeartbeats 4000000
/-! MirE: comings_of. -/
namespace AB
open PySem
/-- a belt and plates as the laws have them -/
structure Fit (b : Be) (ps : List Pt) : Prop where
  ng : b.gs.length ≤ 2
  np : ps.length ≤ 4
  ro : 0 ≤ b.ro ∧ b.ro ≤ 3
  one : ∀ t ∈ ps, t.kind.cps.size = 1
theorem lst_add {xs ys : List D} (h : xs.length + ys.length ≤ szLine) (st : Store) : opM .add (.lst xs) (.lst ys) st = .ok (.lst (xs ++ ys)) st := by
  show lft (if xs.length + ys.length ≤ szLine then some (D.lst (xs ++ ys)) else none) st = _
  rw [if_pos h]; rfl
theorem in_str {x z : Str} (h : x.cps.size = 1) (st : Store) : coM .inn (.str x) (.str z) st = .ok (.bl (decide (x.cps.getD 0 0 ∈ z.cps.toList))) st := by
  show lft ((if x.cps.size = 1 then some (decide (x.cps.getD 0 0 ∈ z.cps.toList)) else none).map D.bl) st = _
  rw [if_pos h]; rfl
theorem rng0 {n : Int} (h0 : 0 ≤ n) (h : n < 2 ^ 24) : rngP (.int 0) (.int n) = some ((List.range' 0 n.toNat).map fun k => D.int (k : Nat)) := by
  show (if (0 : Int).natAbs < 2 ^ 24 ∧ n.natAbs < 2 ^ 24 then some (AB.range 0 (n - 0).toNat) else none) = _
  rw [if_pos ⟨by decide, by omega⟩, Int.sub_zero]
  exact congrArg some (range_map n.toNat 0)
theorem furth_sm (p g : Pl) : (furth p g).1.natAbs ≤ 3 := by
  have := minus_sm p g
  unfold furth
  split
  · simp only [plus]; omega
  · omega
theorem home_sm (p : Pl) : (home p).1.natAbs ≤ 3 := by
  unfold home
  split
  · decide
  · exact furth_sm _ _
theorem offF_sm (t : Pt) (ro : Int) (h : 0 ≤ ro ∧ ro ≤ 3) : (offF t ro).1.natAbs ≤ 6 := by
  have := home_sm t.pl
  simp only [offF, plus]
  omega
/-- a for's turn -/
abbrev FO (C : Nat → List D → M D) (tg : T) (body : Ss) : D → Env → MS := fun x env1 => match asg tg x env1 with
  | some env2 => evSs C subT 100000 body env2
  | none => nonS
abbrev b41c : Ss := (.cons (.set 0 (.n 10) (.call 33 (.cons (.v 7) (.cons (.tup (.cons (.v 9) (.cons (.c (.int 0)) .nil))) .nil)))) (.cons (.iff (.and (.cmp .inn (.ix (.v 6) (.c (.int 2))) (.ix (.v 4) (.c (.int 1)))) (.cmp .lt (.call 35 (.cons (.call 34 (.cons (.v 10) (.cons (.v 8) .nil))) (.cons (.c (.int 10)) .nil))) (.c (.int 0)))) (.cons (.set 0 (.n 2) (.bin .add (.v 2) (.lst (.cons (.tup (.cons (.v 10) (.cons (.v 3) (.cons (.v 5) .nil)))) .nil)))) .nil) .nil) .nil))
abbrev b41b : Ss := (.cons (.set 0 (.n 7) (.call 33 (.cons (.tup (.cons (.c (.int 0)) (.cons (.ix (.v 6) (.c (.int 0))) .nil))) (.cons (.call 36 (.cons (.ix (.v 6) (.c (.int 1))) (.cons (.ix (.v 4) (.c (.int 0))) .nil))) .nil)))) (.cons (.set 0 (.n 8) (.call 40 (.cons (.v 6) (.cons (.ix (.v 0) (.c (.int 1))) .nil)))) (.cons (.forr (.n 9) (.rng1 (.bin .add (.ix (.v 0) (.c (.int 1))) (.c (.int 1)))) b41c) .nil)))
abbrev b41a : Ss := (.cons (.forr (.t (.cons (.n 5) (.cons (.n 6) .nil))) (.enm (.v 1)) b41b) .nil)
section
variable (b : Be) (ps : List Pt)
def first (g : Gu) (t : Pt) : Fo := plus (plus (0, t.min) (furth t.pl g.seat)) (0, 0)
def e41 (acc : List Cm) (j : List (Option D)) : Env := some (eB b) :: some (.tup (ps.map eT)) :: some (.lst (acc.map eC)) :: j
def R41a (i : Nat) (acc : List Cm) (env : Env) : Prop := ∃ j3 j4 j5 j6 j7 j8 j9 j10, env = [some (eB b), some (.tup (ps.map eT)), some (.lst (acc.map eC)), j3, j4, j5, j6, j7, j8, j9, j10] ∧ acc.length ≤ 16 * i
def R41b (i n : Nat) (g : Gu) (j : Nat) (acc : List Cm) (env : Env) : Prop := ∃ j5 j6 j7 j8 j9 j10, env = [some (eB b), some (.tup (ps.map eT)), some (.lst (acc.map eC)), some (.int (n : Nat)), some (eG g), j5, j6, j7, j8, j9, j10] ∧ acc.length ≤ 16 * i + 4 * j
def R41c (z n m : Nat) (g : Gu) (t : Pt) (u : Nat) (acc : List Cm) (env : Env) : Prop := ∃ j9 j10, env = [some (eB b), some (.tup (ps.map eT)), some (.lst (acc.map eC)), some (.int (n : Nat)), some (eG g), some (.int (m : Nat)), some (eT t), some (eF (plus (0, t.min) (furth t.pl g.seat))), some (eF (offF t b.ro)), j9, j10] ∧ acc.length ≤ z + u
end
theorem t41c (k : Nat) (b : Be) (ps : List Pt) (F : Fit b ps) {z n m : Nat} {g : Gu} {t : Pt} (hz : z ≤ 1000) (hk1 : t.kind.cps.size = 1) {u turn : Nat} (hu : u ≤ 4) (h3 : turn ≤ 3) {acc : List Cm} {env : Env} (R : R41c b ps z n m g t u acc env) :
    ∃ env', (∀ st, FO (RN (k + 4)) (.n 9) b41c (.int (turn : Nat)) env st = .ok (.nx env') st) ∧ R41c b ps z n m g t (u + 1) (coming1 n m g t b.ro acc turn) env' := by
  have hro := F.ro
  obtain ⟨j9, j10, rfl, hl3⟩ := R
  have sm : (minus (plus (plus (0, t.min) (furth t.pl g.seat)) ((turn : Int), 0)) (offF t b.ro)).1.natAbs < 2 ^ 64 := by
    have h1 := furth_sm t.pl g.seat
    have h2 := offF_sm t b.ro hro
    simp only [minus, plus]
    omega
  refine ⟨[some (eB b), some (.tup (ps.map eT)), some (.lst ((coming1 n m g t b.ro acc turn).map eC)), some (.int (n : Nat)), some (eG g), some (.int (m : Nat)), some (eT t), some (eF (plus (0, t.min) (furth t.pl g.seat))), some (eF (offF t b.ro)), some (.int (turn : Nat)), some (eF (plus (plus (0, t.min) (furth t.pl g.seat)) ((turn : Int), 0)))], fun st => ?_, some (.int (turn : Nat)), some (eF (plus (plus (0, t.min) (furth t.pl g.seat)) ((turn : Int), 0))), rfl, ?_⟩
  · refine nset (d := eF (plus (plus (0, t.min) (furth t.pl g.seat)) ((turn : Int), 0))) (pcall (qcons (pv rfl) (qcons (ptup (qcons (pv rfl) (qcons pc qnil))) qnil)) (r_added (k + 3) _ ((turn : Int), 0))) rfl
      (nif (c := good g t b.ro (plus (plus (0, t.min) (furth t.pl g.seat)) ((turn : Int), 0))) (pand (pcmp (pix (pv rfl) pc fun _ => rfl) (pix (pv rfl) pc fun _ => rfl) (in_str hk1)) fun _ => pcmp (pcall (qcons (pcall (qcons (pv rfl) (qcons (pv rfl) qnil)) (r_less (k + 3) _ _)) (qcons pc qnil)) (r_sign (k + 2) _ 10 sm)) pc fun _ => rfl) (fun hg => ?_) (fun hg => ?_) nnil) st
    · refine nset (d := .lst ((acc ++ [(plus (plus (0, t.min) (furth t.pl g.seat)) ((turn : Int), 0), n, m)]).map eC)) (pbin (pv rfl) (plst (qcons (ptup (qcons (pv rfl) (qcons (pv rfl) (qcons (pv rfl) qnil)))) qnil)) fun st => ?_) ?_ nnil
      · rw [List.map_append]
        exact lst_add (by simp only [List.length_map, List.length_singleton]; unfold szLine; omega) st
      · unfold coming1
        rw [if_pos hg]
        rfl
    · intro st
      have : coming1 n m g t b.ro acc turn = acc := by unfold coming1; rw [if_neg (by rw [hg]; decide)]
      rw [this]
      rfl
  · unfold coming1
    split
    · simp only [List.length_append, List.length_singleton]; omega
    · omega
theorem t41b (k : Nat) (b : Be) (ps : List Pt) (F : Fit b ps) {i n m j : Nat} {g : Gu} {t : Pt} (hi : i ≤ 2) (hj : j ≤ 4) (hk1 : t.kind.cps.size = 1) {acc : List Cm} {env : Env} (R : R41b b ps i n g j acc env) :
    ∃ env', (∀ st, FO (RN (k + 4)) (.t (.cons (.n 5) (.cons (.n 6) .nil))) b41b (.tup [.int (m : Nat), eT t]) env st = .ok (.nx env') st) ∧ R41b b ps i n g (j + 1) (coming2 n g b.ro acc (t, m)) env' := by
  have hro := F.ro
  obtain ⟨j5, j6, j7, j8, j9, j10, rfl, hl2⟩ := R
  have L := forI (enc := fun n : Nat => D.int (n : Nat)) (f := FO (RN (k + 4)) (.n 9) b41c) (R41c b ps (16 * i + 4 * j) n m g t) (coming1 n m g t b.ro) (List.range' 0 (b.ro + 1).toNat) 0 acc
    [some (eB b), some (.tup (ps.map eT)), some (.lst (acc.map eC)), some (.int (n : Nat)), some (eG g), some (.int (m : Nat)), some (eT t), some (eF (plus (0, t.min) (furth t.pl g.seat))), some (eF (offF t b.ro)), j9, j10]
    (fun u turn hu acc env R => t41c k b ps F (by omega) hk1 (by have h := (List.getElem?_eq_some_iff.mp hu).1; simp only [List.length_range'] at h; omega) (by
      have := List.mem_of_getElem? hu
      simp only [List.mem_range'_1] at this
      omega) R) ⟨j9, j10, rfl, by omega⟩
  obtain ⟨env3, p1, i9, i10, p2, p3⟩ := L
  refine ⟨env3, fun st => ?_, some (.int (m : Nat)), some (eT t), some (eF (plus (0, t.min) (furth t.pl g.seat))), some (eF (offF t b.ro)), i9, i10, p2, ?_⟩
  · refine nset (d := eF (plus (0, t.min) (furth t.pl g.seat))) (pcall (qcons (ptup (qcons pc (qcons (pix (pv rfl) pc fun _ => rfl) qnil))) (qcons (pcall (qcons (pix (pv rfl) pc fun _ => rfl) (qcons (pix (pv rfl) pc fun _ => rfl) qnil)) (r_furth (k + 1) t.pl g.seat)) qnil)) (r_added (k + 3) (0, t.min) _)) rfl
      (nset (d := eF (offF t b.ro)) (pcall (qcons (pv rfl) (qcons (pix (pv rfl) pc fun _ => rfl) qnil)) (r_off k t b.ro)) rfl (nfor (wrng1 (pbin (pix (pv rfl) pc fun _ => rfl) pc fun _ => rfl) (rng0 (by omega) (by omega))) p1 nnil)) st
  · simp only [List.length_range'] at p3
    show (coming2 n g b.ro acc (t, m)).length ≤ _
    have e : coming2 n g b.ro acc (t, m) = (List.range' 0 (b.ro + 1).toNat).foldl (coming1 n m g t b.ro) acc := rfl
    rw [e]
    omega
theorem t41a (k : Nat) (b : Be) (ps : List Pt) (F : Fit b ps) {i n : Nat} {g : Gu} (hi : i < 2) {acc : List Cm} {env : Env} (R : R41a b ps i acc env) :
    ∃ env', (∀ st, FO (RN (k + 4)) (.t (.cons (.n 3) (.cons (.n 4) .nil))) b41a (.tup [.int (n : Nat), eG g]) env st = .ok (.nx env') st) ∧ R41a b ps (i + 1) (coming3 ps b.ro acc (g, n)) env' := by
  have hps := F.np
  obtain ⟨j3, j4, j5, j6, j7, j8, j9, j10, rfl, hl⟩ := R
  have L := forI (enc := fun p : Pt × Nat => D.tup [.int (p.2 : Nat), eT p.1]) (f := FO (RN (k + 4)) (.t (.cons (.n 5) (.cons (.n 6) .nil))) b41b) (R41b b ps i n g) (coming2 n g b.ro) (ps.zipIdx 0) 0 acc
    [some (eB b), some (.tup (ps.map eT)), some (.lst (acc.map eC)), some (.int (n : Nat)), some (eG g), j5, j6, j7, j8, j9, j10]
    (fun j t ht acc env R => by
      have h := (List.getElem?_eq_some_iff.mp ht).1
      simp only [List.length_zipIdx] at h
      exact t41b (t := t.1) (m := t.2) k b ps F (by omega) (by omega) (F.one t.1 (List.fst_mem_of_mem_zipIdx (List.mem_of_getElem? ht))) R) ⟨j5, j6, j7, j8, j9, j10, rfl, by omega⟩
  obtain ⟨env2, q1, i5, i6, i7, i8, i9, i10, q2, q3⟩ := L
  refine ⟨env2, fun st => ?_, some (.int (n : Nat)), some (eG g), i5, i6, i7, i8, i9, i10, q2, ?_⟩
  · refine nfor (wenm (pv rfl) rfl) ?_ nnil st
    intro st
    rw [show (0 : Int) = ((0 : Nat) : Int) from rfl, enumD_map eT ps 0]
    exact q1 st
  · simp only [List.length_zipIdx] at q3
    show (coming3 ps b.ro acc (g, n)).length ≤ _
    have e : coming3 ps b.ro acc (g, n) = (ps.zipIdx 0).foldl (coming2 n g b.ro) acc := rfl
    rw [e]
    omega
theorem r_comings (k : Nat) (b : Be) (ps : List Pt) (F : Fit b ps) (st : Store) : RN (k + 5) 41 [eB b, .tup (ps.map eT)] st = .ok (.lst ((comings b ps).map eC)) st := by
  have hgs := F.ng
  have L := forI (enc := fun p : Gu × Nat => D.tup [.int (p.2 : Nat), eG p.1]) (f := FO (RN (k + 4)) (.t (.cons (.n 3) (.cons (.n 4) .nil))) b41a) (R41a b ps) (coming3 ps b.ro) (b.gs.zipIdx 0) 0 []
    [some (eB b), some (.tup (ps.map eT)), some (.lst []), none, none, none, none, none, none, none, none]
    (fun i g hg acc env R => by
      have h := (List.getElem?_eq_some_iff.mp hg).1
      simp only [List.length_zipIdx] at h
      exact t41a (g := g.1) (n := g.2) k b ps F (by omega) R) ⟨none, none, none, none, none, none, none, none, rfl, by simp⟩
  obtain ⟨env', h1, j3, j4, j5, j6, j7, j8, j9, j10, h2, h3⟩ := L
  subst h2
  refine run_p (fd := f41) rfl rfl (sset (plst qnil) rfl (sfor (env' := [some (eB b), some (.tup (ps.map eT)), some (.lst ((comings b ps).map eC)), j3, j4, j5, j6, j7, j8, j9, j10]) (wenm (pix (pv rfl) pc fun _ => rfl) rfl) (fun st => ?_) (srt (pv rfl)))) st
  rw [show (0 : Int) = ((0 : Nat) : Int) from rfl, enumD_map eG b.gs 0]
  exact h1 st
end AB

set_option Elab.async false
set_option linter.all false
set_option autoImplicit false
set_option maxRecDepth 100000
set_option maxHeartbeats 2000000
/-! MirF: the comings as one list; no two alike at any length. -/
namespace AB
open PySem
theorem fold_if {α β : Type} (p : α → Bool) (f : α → β) : ∀ (xs : List α) (acc : List β), xs.foldl (fun acc x => if p x then acc ++ [f x] else acc) acc = acc ++ (xs.filter p).map f
  | [], acc => by simp
  | x :: xs, acc => by
    simp only [List.foldl_cons]
    cases h : p x with
    | true => simp [fold_if p f xs, List.filter_cons, h]
    | false => simp [fold_if p f xs, List.filter_cons, h]
theorem fold_app {α β : Type} (f : α → List β) : ∀ (xs : List α) (acc : List β), xs.foldl (fun acc x => acc ++ f x) acc = acc ++ xs.flatMap f
  | [], acc => by simp
  | x :: xs, acc => by simp [fold_app f xs]
/-- the form of a turn -/
def fm (t : Pt) (g : Gu) (u : Nat) : Fo := plus (plus (0, t.min) (furth t.pl g.seat)) ((u : Int), 0)
def cms1 (ro : Int) (g : Gu × Nat) (t : Pt × Nat) : List Cm := ((List.range' 0 (ro + 1).toNat).filter fun u => good g.1 t.1 ro (fm t.1 g.1 u)).map fun u => (fm t.1 g.1 u, g.2, t.2)
def cms (b : Be) (ps : List Pt) : List Cm := (b.gs.zipIdx 0).flatMap fun g => (ps.zipIdx 0).flatMap fun t => cms1 b.ro g t
theorem comings_eq (b : Be) (ps : List Pt) : comings b ps = cms b ps := by
  have e1 : ∀ (g : Gu × Nat) (t : Pt × Nat) acc, coming2 g.2 g.1 b.ro acc t = acc ++ cms1 b.ro g t := fun g t acc => by
    have := fold_if (fun u => good g.1 t.1 b.ro (fm t.1 g.1 u)) (fun u => ((fm t.1 g.1 u, g.2, t.2) : Cm)) (List.range' 0 (b.ro + 1).toNat) acc
    exact this
  have e2 : ∀ (g : Gu × Nat) acc, coming3 ps b.ro acc g = acc ++ (ps.zipIdx 0).flatMap fun t => cms1 b.ro g t := fun g acc => by
    unfold coming3
    rw [show coming2 g.2 g.1 b.ro = fun acc t => acc ++ cms1 b.ro g t from funext fun acc => funext fun t => e1 g t acc]
    exact fold_app _ _ _
  unfold comings
  rw [show coming3 ps b.ro = fun acc g => acc ++ (ps.zipIdx 0).flatMap fun t => cms1 b.ro g t from funext fun acc => funext fun g => e2 g acc]
  rw [fold_app]
  rfl
/-- the key of a coming at a length -/
def keyC (n : Int) (c : Cm) : Int × Int × Int := (wo c.1 n, (c.2.1 : Int), (c.2.2 : Int))
theorem wo_fm (t : Pt) (g : Gu) (u : Nat) (n : Int) : wo (fm t g u) n = t.min + wo (furth t.pl g.seat) n + u * n := by
  simp only [wo, fm, plus]
  rw [Int.add_mul, Int.add_mul]
  omega
theorem zipIdx_pw {α : Type} (xs : List α) : (xs.zipIdx 0).Pairwise fun a b => a.2 ≠ b.2 := by
  rw [List.pairwise_iff_getElem]
  intro i j hi hj hij
  simp only [List.getElem_zipIdx]
  omega
theorem cms_pw (b : Be) (ps : List Pt) (n : Int) (hn : 0 < n) : (cms b ps).Pairwise fun a c => keyC n a ≠ keyC n c := by
  unfold cms
  rw [List.pairwise_flatMap]
  refine ⟨fun g _ => ?_, (zipIdx_pw b.gs).imp fun {g h} ne x hx y hy e => ?_⟩
  · rw [List.pairwise_flatMap]
    refine ⟨fun t _ => ?_, (zipIdx_pw ps).imp fun {t s} ne x hx y hy e => ?_⟩
    · unfold cms1
      rw [List.pairwise_map]
      refine List.Pairwise.filter _ ((List.pairwise_lt_range' (s := 0) (n := (b.ro + 1).toNat) (step := 1)).imp fun {u v} h e => ?_)
      simp only [keyC, wo_fm, Prod.mk.injEq] at e
      have e1 := e.1
      have e2 : (u : Int) * n = (v : Int) * n := by omega
      have e3 := Int.eq_of_mul_eq_mul_right (by omega) e2
      omega
    · unfold cms1 at hx hy
      obtain ⟨u, _, rfl⟩ := List.mem_map.mp hx
      obtain ⟨v, _, rfl⟩ := List.mem_map.mp hy
      simp only [keyC, Prod.mk.injEq] at e
      omega
  · obtain ⟨t, _, hx⟩ := List.mem_flatMap.mp hx
    obtain ⟨s, _, hy⟩ := List.mem_flatMap.mp hy
    unfold cms1 at hx hy
    obtain ⟨u, _, rfl⟩ := List.mem_map.mp hx
    obtain ⟨v, _, rfl⟩ := List.mem_map.mp hy
    simp only [keyC, Prod.mk.injEq] at e
    omega
end AB

set_option Elab.async false
set_option linter.all false
set_option autoImplicit false
set_option maxRecDepth 100000
set_option maxHeartbeats 2000000
/-! MirG: in_order. -/
namespace AB
open PySem
/-- a comprehension that keeps all -/
theorem pcompA {C : Nat → List D → M D} {sub : Nat → Nat → Bool} {env : Env} {α : Type} {enc : α → D} {elt : E} {tg : T} {it : I} {own : List Nat} {xs : List α} {ds : List D} (v : α → D) (hi : ItP C sub it env ds) (hd : ds = xs.map enc)
    (h : ∀ a ∈ xs, ∃ env', asg tg (enc a) (wipeE env own) = some env' ∧ EvP C sub elt env' (v a)) (hz : xs.length < szLine) : EvP C sub (.comp elt tg it (.c (.bl true)) own) env (.lst (xs.map v)) := by
  have P := pcomp (cond := .c (.bl true)) (fun _ => true) v hi hd (fun a ha => let ⟨e, h1, h2⟩ := h a ha; ⟨e, h1, pc, fun _ => h2⟩) hz
  rw [List.filter_eq_self.mpr (fun _ _ => rfl)] at P
  exact P
section
variable {α : Type} (key : α → Int × Int × Int)
def insC (x : α) : List α → List α
  | [] => [x]
  | y :: ys => if le3 (key x) (key y) then x :: y :: ys else y :: insC x ys
def srtC : List α → List α
  | [] => []
  | x :: xs => insC key x (srtC xs)
theorem insC_perm (x : α) : ∀ l, (insC key x l).Perm (x :: l)
  | [] => List.Perm.refl _
  | y :: ys => by
    simp only [insC]
    split
    · exact List.Perm.refl _
    · exact ((insC_perm x ys).cons y).trans (List.Perm.swap x y ys)
theorem srtC_perm : ∀ l, (srtC key l).Perm l
  | [] => List.Perm.refl _
  | x :: xs => (insC_perm key x _).trans ((srtC_perm xs).cons x)
theorem insK_map (enc : α → D) (x : α) : ∀ l : List α, insK (key x, enc x) (l.map fun c => (key c, enc c)) = (insC key x l).map fun c => (key c, enc c)
  | [] => rfl
  | y :: ys => by
    simp only [List.map_cons, insK, insC]
    split
    · rfl
    · rw [insK_map enc x ys]; rfl
theorem srtK_map (enc : α → D) : ∀ l : List α, srtK (l.map fun c => (key c, enc c)) = (srtC key l).map fun c => (key c, enc c)
  | [] => rfl
  | x :: xs => by
    simp only [List.map_cons, srtK, srtC]
    rw [srtK_map enc xs, insK_map]
theorem keys3_map (enc : α → D) (h : ∀ a, key3 (enc a) = some (key a)) : ∀ l : List α, keys3 (l.map enc) = some (l.map fun c => (key c, enc c))
  | [] => rfl
  | x :: xs => by
    simp only [List.map_cons, keys3, h x, keys3_map enc h xs]
theorem difK_map (enc : α → D) : ∀ l : List α, l.Pairwise (fun a b => key a ≠ key b) → difK (l.map fun c => (key c, enc c)) = true
  | [], _ => rfl
  | x :: xs, h => by
    obtain ⟨h1, h2⟩ := List.pairwise_cons.mp h
    simp only [List.map_cons, difK, Bool.and_eq_true, List.all_eq_true, decide_eq_true_eq]
    refine ⟨fun y hy => ?_, difK_map enc xs h2⟩
    obtain ⟨a, ha, rfl⟩ := List.mem_map.mp hy
    exact h1 a ha
theorem srtP_map (enc : α → D) (h : ∀ a, key3 (enc a) = some (key a)) (l : List α) (hp : l.Pairwise fun a b => key a ≠ key b) (hl : l.length < 64) : srtP (l.map enc) = some ((srtC key l).map enc) := by
  unfold srtP
  rw [keys3_map key enc h l]
  simp only []
  rw [if_pos (by rw [difK_map key enc l hp, List.length_map]; simpa using hl), srtK_map, List.map_map]
  rfl
end
def eR (n : Int) (c : Cm) : D := .tup [.int (wo c.1 n), .int (c.2.1 : Nat), .int (c.2.2 : Nat), eF c.1]
def order (n : Int) (l : List Cm) : List Cm := srtC (keyC n) l
theorem r_order (k : Nat) (l : List Cm) (n : Int) (hp : l.Pairwise fun a b => keyC n a ≠ keyC n b) (hl : l.length < 64) (hs : ∀ c ∈ l, c.1.1.natAbs < 2 ^ 64) (st : Store) : RN (k + 2) 42 [.lst (l.map eC), .int n] st = .ok (.lst ((order n l).map eC)) st := by
  have hperm := srtC_perm (keyC n) l
  refine run_p (fd := f42) rfl rfl (sset (d := .lst ((order n l).map (eR n))) (pbi (ds := [.lst (l.map (eR n))]) (qcons ?_ qnil) fun st => ?_) rfl (srt ?_)) st
  · have P := pcompA (C := RN (k + 1)) (sub := subT) (env := [some (.lst (l.map eC)), some (.int n), none, none, none, none, none]) (enc := eC) (own := [6, 4, 5]) (it := .ov (.v 0)) (tg := .t (.cons (.n 6) (.cons (.n 4) (.cons (.n 5) .nil)))) (elt := .tup (.cons (.call 10 (.cons (.v 6) (.cons (.v 1) .nil))) (.cons (.v 4) (.cons (.v 5) (.cons (.v 6) .nil))))) (xs := l) (eR n) (wov (pv rfl) rfl) rfl
      (fun c hc => ⟨_, rfl, ptup (qcons (pcall (qcons (pv rfl) (qcons (pv rfl) qnil)) (r_worth k c.1 n (hs c hc))) (qcons (pv rfl) (qcons (pv rfl) (qcons (pv rfl) qnil))))⟩) (by unfold szLine; omega)
    exact P
  · show lft ((srtP (l.map (eR n))).map D.lst) st = _
    rw [srtP_map (keyC n) (eR n) (fun a => rfl) l hp hl]
    rfl
  · have P := pcompA (C := RN (k + 1)) (sub := subT) (env := [some (.lst (l.map eC)), some (.int n), some (.lst ((order n l).map (eR n))), none, none, none, none]) (enc := eR n) (own := [3, 4, 5, 6]) (it := .ov (.v 2)) (tg := .t (.cons (.n 3) (.cons (.n 4) (.cons (.n 5) (.cons (.n 6) .nil))))) (elt := .tup (.cons (.v 6) (.cons (.v 4) (.cons (.v 5) .nil)))) (xs := order n l) eC (wov (pv rfl) rfl) rfl
      (fun c hc => ⟨_, rfl, ptup (qcons (pv rfl) (qcons (pv rfl) (qcons (pv rfl) qnil)))⟩) (by unfold order; rw [hperm.length_eq]; unfold szLine; omega)
    exact P
end AB

set_option Elab.async false
set_option linter.all false
set_option autoImplicit false
set_option maxRecDepth 100000
set_option maxHeartbeats 2000000
/-! MirH: can_take, meals_of. -/
namespace AB
open PySem
abbrev Me := Nat × Fo
def eM (m : Me) : D := .tup [.int (m.1 : Nat), eF m.2]
def eMs (l : List Me) : D := .tup (l.map eM)
def take (g : Gu) (l : List Me) (f : Fo) (n : Int) : Bool := if g.most ≤ l.length then false else match l.getLast? with
  | none => true
  | some m => decide (0 ≤ sg (minus f (plus m.2 (0, g.pause))) n)
theorem pl_eM : ∀ l : List Me, D.pls (l.map eM) = true
  | [] => rfl
  | m :: l => by
    simp only [List.map_cons, D.pls, Bool.and_eq_true]
    exact ⟨rfl, pl_eM l⟩
theorem eq_nil (l : List Me) (st : Store) : coM .eq (eMs l) (.tup []) st = .ok (.bl l.isEmpty) st := by
  show lft ((eqP (eMs l) (.tup [])).map D.bl) st = _
  have e : eqP (eMs l) (.tup []) = some l.isEmpty := by
    unfold eqP
    rw [if_pos]
    · cases l <;> rfl
    · show (D.pls (l.map eM) && true && decide (1 ≤ 60)) = true
      rw [pl_eM]; rfl
  rw [e]; rfl
theorem atI_last {α : Type} (xs : List α) (h : xs ≠ []) : L2.atI xs (-1) = xs.getLast? := by
  have hl : 0 < xs.length := List.length_pos_iff.mpr h
  unfold L2.atI L2.ixN
  rw [if_neg (by decide), if_pos (by omega)]
  rw [List.getLast?_eq_getElem?]
  show xs[(-1 + (xs.length : Int)).toNat]? = _
  congr 1
  omega
theorem r_take (k : Nat) (g : Gu) (l : List Me) (f : Fo) (n : Int) (hf : f.1.natAbs ≤ 1000) (hl : ∀ m ∈ l, m.2.1.natAbs ≤ 1000) (st : Store) : RN (k + 3) 43 [eG g, eMs l, eF f, .int n] st = .ok (.bl (take g l f n)) st := by
  by_cases hm : g.most ≤ l.length
  · have e : take g l f n = false := by unfold take; rw [if_pos hm]
    rw [e]
    refine run_p (fd := f43) rfl rfl (sif (c := true) (pcmp (x := .int l.length) (pbi (qcons (pv rfl) qnil) fun _ => ?_) (pix (pv rfl) pc fun _ => rfl) fun _ => ?_) (fun _ => srt pc) (fun h => by cases h) fun h => by cases h) st
    · show lft (some (D.int ((l.map eM).length : Nat))) _ = _
      rw [List.length_map]; rfl
    · show lft ((some (decide (g.most ≤ (l.length : Int)))).map D.bl) _ = _
      rw [decide_eq_true hm]; rfl
  · have e : take g l f n = (l.isEmpty || (match l.getLast? with
        | none => true
        | some m => decide (0 ≤ sg (minus f (plus m.2 (0, g.pause))) n))) := by
      unfold take
      rw [if_neg hm]
      cases l <;> rfl
    rw [e]
    refine run_p (fd := f43) rfl rfl (sif (c := false) (pcmp (x := .int l.length) (pbi (qcons (pv rfl) qnil) fun _ => ?_) (pix (pv rfl) pc fun _ => rfl) fun _ => ?_) (fun h => by cases h) (fun _ => nnil) fun _ => srt (por (pcmp (pv rfl) (ptup qnil) (eq_nil l)) fun hne => ?_)) st
    · show lft (some (D.int ((l.map eM).length : Nat))) _ = _
      rw [List.length_map]; rfl
    · show lft ((some (decide (g.most ≤ (l.length : Int)))).map D.bl) _ = _
      rw [decide_eq_false hm]; rfl
    · have hne : l ≠ [] := by intro z; subst z; cases hne
      have hg := List.getLast?_eq_some_getLast hne
      have hmem := List.getLast_mem hne
      generalize l.getLast hne = m at hg hmem
      have hm2 := hl m hmem
      rw [hg]
      refine pcmp (pcall (qcons (pcall (qcons (pv rfl) (qcons (pcall (qcons (pix (x := eM m) (pix (pv rfl) (pneg pc) fun _ => ?_) pc fun _ => rfl) (qcons (ptup (qcons pc (qcons (pix (pv rfl) pc fun _ => rfl) qnil))) qnil)) (r_added (k + 1) m.2 (0, g.pause))) qnil)) (r_less (k + 1) f _)) (qcons (pv rfl) qnil)) (r_sign k _ n ?_)) pc fun _ => rfl
      · show lft (L2.atI (l.map eM) (-1)) _ = _
        rw [atI_last _ (by simpa using hne), List.getLast?_map, hg]
        rfl
      · simp only [minus, plus]
        omega
end AB

set_option Elab.async false
set_option linter.all false
set_option autoImplicit false
set_option maxRecDepth 100000
set_option maxHeartbeats 4000000
/-! MirI: meals_of. -/
namespace AB
open PySem
theorem pls_nat : ∀ l : List Nat, D.pls (l.map fun i => D.int (i : Nat)) = true
  | [] => rfl
  | m :: l => by
    simp only [List.map_cons, D.pls, Bool.and_eq_true]
    exact ⟨rfl, pls_nat l⟩
theorem any_nat (p : Nat) : ∀ l : List Nat, (l.map fun i => D.int (i : Nat)).any (fun y => y.eqb (.int (p : Nat))) = decide (p ∈ l)
  | [] => rfl
  | m :: l => by
    simp only [List.map_cons, List.any_cons, any_nat p l, D.eqb]
    by_cases h : m = p
    · subst h; simp
    · have h2 : ¬ p = m := fun z => h z.symm
      have h3 : ((m : Int) == (p : Int)) = false := beq_eq_false_iff_ne.mpr (by omega)
      simp [h3, h2]
theorem nin_nat (p : Nat) (l : List Nat) (st : Store) : coM .nin (.int (p : Nat)) (.tup (l.map fun i => D.int (i : Nat))) st = .ok (.bl (!decide (p ∈ l))) st := by
  show lft (((inP (.int (p : Nat)) (l.map fun i => D.int (i : Nat))).map (!·)).map D.bl) st = _
  have e : inP (.int (p : Nat)) (l.map fun i => D.int (i : Nat)) = some (decide (p ∈ l)) := by
    unfold inP
    rw [if_pos (by rw [pls_nat]; rfl), any_nat]
  rw [e]; rfl
theorem inn_nat (p : Nat) (l : List Nat) (st : Store) : coM .inn (.int (p : Nat)) (.tup (l.map fun i => D.int (i : Nat))) st = .ok (.bl (decide (p ∈ l))) st := by
  show lft ((inP (.int (p : Nat)) (l.map fun i => D.int (i : Nat))).map D.bl) st = _
  have e : inP (.int (p : Nat)) (l.map fun i => D.int (i : Nat)) = some (decide (p ∈ l)) := by
    unfold inP
    rw [if_pos (by rw [pls_nat]; rfl), any_nat]
  rw [e]; rfl
theorem atI_nat {α : Type} (xs : List α) (i : Nat) : L2.atI xs (i : Int) = xs[i]? := by
  unfold L2.atI L2.ixN
  rw [if_pos (by omega)]
  by_cases h : (i : Int) < xs.length
  · rw [if_pos h]; simp
  · rw [if_neg h]
    rw [List.getElem?_eq_none (by omega)]
    rfl
theorem ix_tup {xs : List D} {i : Nat} {d : D} (h : xs[i]? = some d) (st : Store) : ixM (.tup xs) (.int (i : Nat)) st = .ok d st := by
  show lft (L2.atI xs (i : Int)) st = _
  rw [atI_nat, h]; rfl
theorem ix_lst {xs : List D} {i : Nat} {d : D} (h : xs[i]? = some d) (st : Store) : ixM (.lst xs) (.int (i : Nat)) st = .ok d st := by
  show lft (L2.atI xs (i : Int)) st = _
  rw [atI_nat, h]; rfl
theorem tup_add {xs ys : List D} (h : xs.length + ys.length ≤ szLine) (st : Store) : opM .add (.tup xs) (.tup ys) st = .ok (.tup (xs ++ ys)) st := by
  show lft (if xs.length + ys.length ≤ szLine then some (D.tup (xs ++ ys)) else none) st = _
  rw [if_pos h]; rfl
theorem sl_hi {xs : List D} {i : Nat} (h : i ≤ xs.length) (st : Store) : slM (.tup xs) none (some (i : Int)) st = .ok (.tup (xs.take i)) st := by
  show lft (some (D.tup (cutD xs none (some (i : Int))))) st = _
  have e : cutD xs none (some (i : Int)) = xs.take i := by
    unfold cutD
    rw [HT.sIx_none, HT.sIx_nat, Nat.min_eq_left h]
    simp
  rw [e]; rfl
theorem sl_lo {xs : List D} {i : Nat} (h : i ≤ xs.length) (st : Store) : slM (.tup xs) (some (i : Int)) none st = .ok (.tup (xs.drop i)) st := by
  show lft (some (D.tup (cutD xs (some (i : Int)) none))) st = _
  have e : cutD xs (some (i : Int)) none = xs.drop i := by
    unfold cutD
    rw [HT.sIx_none, HT.sIx_nat, Nat.min_eq_left h]
    rw [List.take_of_length_le (by simp)]
  rw [e]; rfl
abbrev Sto := List (List Me) × List Nat
def stepM (b : Be) (n : Int) (s : Sto) (c : Cm) : Sto := match b.gs[c.2.1]?, s.1[c.2.1]? with
  | some g, some l => if !decide (c.2.2 ∈ s.2) && take g l c.1 n then (s.1.set c.2.1 (l ++ [(c.2.2, c.1)]), s.2 ++ [c.2.2]) else s
  | _, _ => s
def mealsS (b : Be) (ps : List Pt) (n : Int) : Sto := (order n (cms b ps)).foldl (stepM b n) (List.replicate b.gs.length [], [])
/-- what stays true along the meals -/
structure MOk (b : Be) (i : Nat) (s : Sto) : Prop where
  len : s.1.length = b.gs.length
  sm : ∀ l ∈ s.1, l.length ≤ i ∧ ∀ m ∈ l, m.2.1.natAbs ≤ 1000
  gone : s.2.length ≤ i
theorem MOk.step {b : Be} {i : Nat} {s : Sto} {n : Int} {c : Cm} (h : MOk b i s) (hc : c.1.1.natAbs ≤ 1000) : MOk b (i + 1) (stepM b n s c) := by
  have w : MOk b (i + 1) s := ⟨h.len, fun l hl => ⟨Nat.le_succ_of_le (h.sm l hl).1, (h.sm l hl).2⟩, Nat.le_succ_of_le h.gone⟩
  unfold stepM
  split
  · rename_i g l e1 e2
    split
    · refine ⟨by simp [h.len], fun l' hl' => ?_, by simp [h.gone]⟩
      rcases List.mem_or_eq_of_mem_set hl' with q | q
      · exact w.sm l' q
      · subst q
        have hl := h.sm l (List.mem_of_getElem? e2)
        refine ⟨by simp; exact hl.1, fun m hm => ?_⟩
        rcases List.mem_append.mp hm with q | q
        · exact hl.2 m q
        · simp only [List.mem_singleton] at q
          subst q
          exact hc
    · exact w
  · exact w
theorem set_split {α : Type} (xs : List α) (i : Nat) (x : α) (h : i < xs.length) : xs.take i ++ [x] ++ xs.drop (i + 1) = xs.set i x := by
  rw [List.set_eq_take_append_cons_drop, if_pos h, List.append_assoc]
  rfl
theorem t44 (k : Nat) (b : Be) (P : D) (n : Int) {i : Nat} {s : Sto} {c : Cm} (hi : i ≤ 1000) (hg : b.gs.length ≤ 2) (hc : c.1.1.natAbs ≤ 1000) (hb : c.2.1 < b.gs.length) (h : MOk b i s) (j5 j6 j7 : Option D) :
    ∀ st, FO (RN (k + 5)) (.t (.cons (.n 5) (.cons (.n 6) (.cons (.n 7) .nil)))) (.cons (.iff (.and (.cmp .nin (.v 7) (.v 4)) (.call 43 (.cons (.ix (.ix (.v 0) (.c (.int 0))) (.v 6)) (.cons (.ix (.v 3) (.v 6)) (.cons (.v 5) (.cons (.v 2) .nil)))))) (.cons (.set 0 (.n 3) (.bin .add (.bin .add (.slh (.v 3) (.v 6)) (.tup (.cons (.bin .add (.ix (.v 3) (.v 6)) (.tup (.cons (.tup (.cons (.v 7) (.cons (.v 5) .nil))) .nil))) .nil))) (.sll (.v 3) (.bin .add (.v 6) (.c (.int 1)))))) (.cons (.set 0 (.n 4) (.bin .add (.v 4) (.tup (.cons (.v 7) .nil)))) .nil)) .nil) .nil) (eC c)
      [some (eB b), some P, some (.int n), some (.tup (s.1.map eMs)), some (.tup (s.2.map fun i => D.int (i : Nat))), j5, j6, j7] st =
      .ok (.nx [some (eB b), some P, some (.int n), some (.tup ((stepM b n s c).1.map eMs)), some (.tup ((stepM b n s c).2.map fun i => D.int (i : Nat))), some (eF c.1), some (.int (c.2.1 : Nat)), some (.int (c.2.2 : Nat))]) st := by
  have hs := h.len
  obtain ⟨g, eg⟩ : ∃ g, b.gs[c.2.1]? = some g := ⟨_, List.getElem?_eq_getElem hb⟩
  obtain ⟨l, el⟩ : ∃ l, s.1[c.2.1]? = some l := ⟨_, List.getElem?_eq_getElem (by omega)⟩
  have hl := h.sm l (List.mem_of_getElem? el)
  have lt1 : c.2.1 < s.1.length := by omega
  have e1 : (b.gs.map eG)[c.2.1]? = some (eG g) := by rw [List.getElem?_map, eg]; rfl
  have e2 : (s.1.map eMs)[c.2.1]? = some (eMs l) := by rw [List.getElem?_map, el]; rfl
  have es : stepM b n s c = if (!decide (c.2.2 ∈ s.2) && take g l c.1 n) = true then (s.1.set c.2.1 (l ++ [(c.2.2, c.1)]), s.2 ++ [c.2.2]) else s := by
    unfold stepM; rw [eg, el]
  intro st
  refine nif (c := !decide (c.2.2 ∈ s.2) && take g l c.1 n) (pand (pcmp (pv rfl) (pv rfl) (nin_nat c.2.2 s.2)) fun _ => pcall (qcons (pix (pix (pv rfl) pc fun _ => rfl) (pv rfl) (ix_tup e1)) (qcons (pix (pv rfl) (pv rfl) (ix_tup e2)) (qcons (pv rfl) (qcons (pv rfl) qnil)))) (r_take (k + 2) g l c.1 n hc hl.2)) (fun ht => ?_) (fun hf => ?_) nnil st
  · rw [es, if_pos ht]
    refine nset (d := .tup ((s.1.set c.2.1 (l ++ [(c.2.2, c.1)])).map eMs)) ?_ rfl (nset (d := .tup ((s.2 ++ [c.2.2]).map fun i => D.int (i : Nat))) (pbin (pv rfl) (ptup (qcons (pv rfl) qnil)) fun st => ?_) rfl nnil)
    · refine pbin (x := .tup (s.1.map eMs |>.take c.2.1 |> (· ++ [eMs (l ++ [(c.2.2, c.1)])]))) (y := .tup ((s.1.map eMs).drop (c.2.1 + 1))) (pbin (pslh (pv rfl) (pv rfl) (sl_hi (by simp; omega))) (ptup (ds := [eMs (l ++ [(c.2.2, c.1)])]) (qcons (pbin (x := eMs l) (y := .tup [eM (c.2.2, c.1)]) (pix (pv rfl) (pv rfl) (ix_tup e2)) (ptup (qcons (ptup (qcons (pv rfl) (qcons (pv rfl) qnil))) qnil)) fun st => ?_) qnil)) fun st => ?_) (psll (i := (c.2.1 + 1 : Nat)) (pv rfl) (pbin (pv rfl) pc fun _ => rfl) (sl_lo (by simp; omega))) fun st => ?_
      · show opM .add (.tup (l.map eM)) (.tup [eM (c.2.2, c.1)]) st = .ok (.tup ((l ++ [(c.2.2, c.1)]).map eM)) st
        rw [List.map_append]
        exact tup_add (by simp only [List.length_map, List.length_singleton]; unfold szLine; omega) st
      · exact tup_add (by simp only [List.length_take, List.length_map, List.length_singleton]; unfold szLine; omega) st
      · rw [← set_split s.1 c.2.1 (l ++ [(c.2.2, c.1)]) lt1, List.map_append, List.map_append, List.map_take, List.map_drop]
        exact tup_add (by simp only [List.length_append, List.length_take, List.length_map, List.length_singleton, List.length_drop]; unfold szLine; omega) st
    · rw [List.map_append]
      exact tup_add (by have := h.gone; simp only [List.length_map, List.length_singleton]; unfold szLine; omega) st
  · rw [es, if_neg (by rw [hf]; decide)]
    exact nnil
end AB

set_option Elab.async false
set_option linter.all false
set_option autoImplicit false
set_option maxRecDepth 100000
set_option maxHeartbeats 4000000
/-! MirJ: meals_of, whole. -/
namespace AB
open PySem
theorem flat_len {α β : Type} (f : α → List β) (m : Nat) : ∀ xs : List α, (∀ x ∈ xs, (f x).length ≤ m) → (xs.flatMap f).length ≤ xs.length * m
  | [], _ => by simp
  | x :: xs, h => by
    have h1 := h x List.mem_cons_self
    have h2 := flat_len f m xs fun y hy => h y (List.mem_cons_of_mem _ hy)
    simp only [List.flatMap_cons, List.length_append, List.length_cons]
    rw [Nat.add_mul]
    omega
theorem cms_len (b : Be) (ps : List Pt) (F : Fit b ps) : (cms b ps).length ≤ 32 := by
  have h1 : ∀ g ∈ b.gs.zipIdx 0, ((ps.zipIdx 0).flatMap fun t => cms1 b.ro g t).length ≤ 16 := fun g _ => by
    have := flat_len (fun t => cms1 b.ro g t) 4 (ps.zipIdx 0) fun t _ => by
      unfold cms1
      rw [List.length_map]
      refine Nat.le_trans (List.length_filter_le _ _) ?_
      rw [List.length_range']
      have := F.ro
      omega
    rw [List.length_zipIdx] at this
    have := F.np
    omega
  have h2 := flat_len (fun g => (ps.zipIdx 0).flatMap fun t => cms1 b.ro g t) 16 (b.gs.zipIdx 0) h1
  rw [List.length_zipIdx] at h2
  have := F.ng
  unfold cms
  omega
theorem cms_mem (b : Be) (ps : List Pt) (F : Fit b ps) {c : Cm} (h : c ∈ cms b ps) : ∃ g t, b.gs[c.2.1]? = some g ∧ ps[c.2.2]? = some t ∧ ∃ u : Nat, u ≤ 3 ∧ c.1 = fm t g u ∧ good g t b.ro c.1 = true := by
  unfold cms at h
  obtain ⟨g, hg, h⟩ := List.mem_flatMap.mp h
  obtain ⟨t, ht, h⟩ := List.mem_flatMap.mp h
  unfold cms1 at h
  obtain ⟨u, hu, rfl⟩ := List.mem_map.mp h
  obtain ⟨hu1, hu2⟩ := List.mem_filter.mp hu
  refine ⟨g.1, t.1, ?_, ?_, u, ?_, rfl, hu2⟩
  · exact List.mem_zipIdx_iff_getElem?.mp hg
  · exact List.mem_zipIdx_iff_getElem?.mp ht
  · have := F.ro
    simp only [List.mem_range'_1] at hu1
    omega
theorem fm_sm (t : Pt) (g : Gu) (u : Nat) (h : u ≤ 3) : (fm t g u).1.natAbs ≤ 6 := by
  have := furth_sm t.pl g.seat
  simp only [fm, plus]
  omega
theorem cms_sm (b : Be) (ps : List Pt) (F : Fit b ps) {c : Cm} (h : c ∈ cms b ps) : c.1.1.natAbs ≤ 6 ∧ c.2.1 < b.gs.length ∧ c.2.2 < ps.length := by
  obtain ⟨g, t, h1, h2, u, h3, h4, _⟩ := cms_mem b ps F h
  refine ⟨?_, (List.getElem?_eq_some_iff.mp h1).1, (List.getElem?_eq_some_iff.mp h2).1⟩
  rw [h4]
  exact fm_sm t g u h3
theorem rep_one {α : Type} (x : α) : ∀ k : Nat, (List.replicate k [x]).flatten = List.replicate k x
  | 0 => rfl
  | k + 1 => by simp [List.replicate_succ, rep_one x k]
theorem order_mem {n : Int} {l : List Cm} {c : Cm} : c ∈ order n l ↔ c ∈ l := (srtC_perm (keyC n) l).mem_iff
theorem order_len {n : Int} {l : List Cm} : (order n l).length = l.length := (srtC_perm (keyC n) l).length_eq
theorem r_meals (k : Nat) (b : Be) (ps : List Pt) (F : Fit b ps) (h1 : 1 ≤ b.gs.length) (n : Int) (hn : 0 < n) (st : Store) : RN (k + 6) 44 [eB b, .tup (ps.map eT), .int n] st = .ok (.tup ((mealsS b ps n).1.map eMs)) st := by
  have hlen := cms_len b ps F
  have L := forI (enc := eC) (f := FO (RN (k + 5)) (.t (.cons (.n 5) (.cons (.n 6) (.cons (.n 7) .nil)))) (.cons (.iff (.and (.cmp .nin (.v 7) (.v 4)) (.call 43 (.cons (.ix (.ix (.v 0) (.c (.int 0))) (.v 6)) (.cons (.ix (.v 3) (.v 6)) (.cons (.v 5) (.cons (.v 2) .nil)))))) (.cons (.set 0 (.n 3) (.bin .add (.bin .add (.slh (.v 3) (.v 6)) (.tup (.cons (.bin .add (.ix (.v 3) (.v 6)) (.tup (.cons (.tup (.cons (.v 7) (.cons (.v 5) .nil))) .nil))) .nil))) (.sll (.v 3) (.bin .add (.v 6) (.c (.int 1)))))) (.cons (.set 0 (.n 4) (.bin .add (.v 4) (.tup (.cons (.v 7) .nil)))) .nil)) .nil) .nil))
    (fun i (s : Sto) env => ∃ j5 j6 j7, env = [some (eB b), some (.tup (ps.map eT)), some (.int n), some (.tup (s.1.map eMs)), some (.tup (s.2.map fun i => D.int (i : Nat))), j5, j6, j7] ∧ MOk b i s)
    (stepM b n) (order n (cms b ps)) 0 (List.replicate b.gs.length [], []) [some (eB b), some (.tup (ps.map eT)), some (.int n), some (.tup ((List.replicate b.gs.length []).map eMs)), some (.tup []), none, none, none]
    (fun i c hc s env R => by
      obtain ⟨j5, j6, j7, rfl, ok⟩ := R
      have hi := (List.getElem?_eq_some_iff.mp hc).1
      rw [order_len] at hi
      obtain ⟨q1, q2, _⟩ := cms_sm b ps F (order_mem.mp (List.mem_of_getElem? hc))
      exact ⟨_, t44 k b (.tup (ps.map eT)) n (by omega) F.ng (by omega) q2 ok j5 j6 j7, _, _, _, rfl, ok.step (by omega)⟩)
    ⟨none, none, none, rfl, ⟨by simp, fun l hl => by have := List.eq_of_mem_replicate hl; subst this; exact ⟨Nat.le_refl _, fun m hm => by simp at hm⟩, Nat.le_refl _⟩⟩
  obtain ⟨env', p1, j5, j6, j7, rfl, _⟩ := L
  refine run_p (fd := f44) rfl rfl (sset (d := .tup [.tup ((List.replicate b.gs.length []).map eMs), .tup []]) (ptup (qcons (pbin (x := .tup [.tup []]) (y := .int b.gs.length) (ptup (qcons (ptup qnil) qnil)) (pbi (qcons (pix (pv rfl) pc fun _ => rfl) qnil) fun _ => ?_) fun _ => ?_) (qcons (ptup qnil) qnil))) rfl
    (sfor (env' := [some (eB b), some (.tup (ps.map eT)), some (.int n), some (.tup ((mealsS b ps n).1.map eMs)), some (.tup ((mealsS b ps n).2.map fun i => D.int (i : Nat))), j5, j6, j7]) (wov (x := .lst ((order n (cms b ps)).map eC)) (pcall (qcons (pcall (qcons (pv rfl) (qcons (pv rfl) qnil)) fun st => ?_) (qcons (pv rfl) qnil)) (r_order (k + 3) (cms b ps) n (cms_pw b ps n hn) (by omega) fun c hc => by have := (cms_sm b ps F hc).1; omega)) rfl) (fun st => ?_) (srt (pv rfl)))) st
  · show lft (some (D.int ((b.gs.map eG).length : Nat))) _ = _
    rw [List.length_map]; rfl
  · show lft (if [D.tup []] ≠ [] ∧ 1 ≤ (b.gs.length : Int) ∧ (b.gs.length : Int) ≤ 1000 ∧ [D.tup []].length ≤ 1000 then some (D.tup (List.replicate (b.gs.length : Int).toNat [D.tup []]).flatten) else none) _ = _
    have := F.ng
    rw [if_pos ⟨by simp, by omega, by omega, by simp⟩, Int.toNat_natCast, rep_one, List.map_replicate]
    rfl
  · rw [r_comings k b ps F st, comings_eq]
  · exact p1 st
end AB

set_option Elab.async false
set_option linter.all false
set_option autoImplicit false
set_option maxRecDepth 100000
set_option maxHeartbeats 4000000
/-! MirK: story_of, minutes_of. -/
namespace AB
open PySem
section
variable {C : Nat → List D → M D} {sub : Nat → Nat → Bool} {env : Env}
theorem catL_mem {α : Type} {enc : α → D} {f : D → M (List D)} {g : α → List D} : ∀ (xs : List α) (_ : ∀ a ∈ xs, ∀ st, f (enc a) st = .ok (g a) st) (st : Store), catL f (xs.map enc) st = .ok (xs.flatMap g) st
  | [], _, st => rfl
  | x :: xs, h, st => by
    show bnd (f (enc x)) (fun ys => bnd (catL f (xs.map enc)) fun zs => ret (ys ++ zs)) st = _
    rw [bnd_of (h x List.mem_cons_self st), bnd_of (catL_mem xs (fun a ha => h a (List.mem_cons_of_mem _ ha)) st)]
    rfl
/-- two clauses, all kept -/
theorem pcomp2A {α β : Type} {enc : α → D} {enc1 : β → D} {elt : E} {tg tg1 : T} {it it1 : I} {own own1 : List Nat} {xs : List α} {ds : List D} (ys : α → List β) (v : β → D) (hi : ItP C sub it env ds) (hd : ds = xs.map enc)
    (h : ∀ a ∈ xs, ∃ env', asg tg (enc a) (wipeE env own) = some env' ∧ ItP C sub it1 env' ((ys a).map enc1) ∧ ∀ c ∈ ys a, ∃ env2, asg tg1 (enc1 c) (wipeE env' own1) = some env2 ∧ EvP C sub elt env2 (v c)) (hz : ((xs.flatMap ys).map v).length < szLine) :
    EvP C sub (.comp2 elt tg it (.c (.bl true)) tg1 it1 (.c (.bl true)) own own1) env (.lst ((xs.flatMap ys).map v)) := fun st => by
  subst hd
  have e1 : ∀ a ∈ xs, ∀ st, (match asg tg (enc a) (wipeE env own) with
      | some env' => bnd (ev C sub (.c (.bl true)) env') fun t => bnd (lft (truth t)) fun b => if b then bnd (its C sub it1 env') fun xs1 => compL (fun x1 => match asg tg1 x1 (wipeE env' own1) with
          | some env2 => bnd (ev C sub (.c (.bl true)) env2) fun t1 => bnd (lft (truth t1)) fun b1 => if b1 then bnd (ev C sub elt env2) fun y => ret (some y) else ret none
          | none => non) xs1 else ret []
      | none => non) st = .ok ((ys a).map v) st := fun a ha st => by
    obtain ⟨env', h1, h2, h3⟩ := h a ha
    rw [h1]
    have e2 : compL (fun x1 => match asg tg1 x1 (wipeE env' own1) with
          | some env2 => bnd (ev C sub (.c (.bl true)) env2) fun t1 => bnd (lft (truth t1)) fun b1 => if b1 then bnd (ev C sub elt env2) fun y => ret (some y) else ret none
          | none => non) ((ys a).map enc1) st = .ok ((ys a).map v) st := by
      rw [compL_mem (g := fun c => some (v c)) (ys a) (fun c hc st => ?_) st]
      · congr 1
        induction ys a with
        | nil => rfl
        | cons y l ih => simp [List.filterMap_cons, ih]
      · obtain ⟨env2, q1, q2⟩ := h3 c hc
        simp only [q1]
        show bnd (ev C sub elt env2) (fun y => ret (some y)) st = _
        rw [bnd_of (q2 st)]
        rfl
    show bnd (its C sub it1 env') _ st = _
    rw [bnd_of (h2 st)]
    exact e2
  have e3 : bnd (its C sub it env) (fun xs => bnd (noex (catL (fun x => match asg tg x (wipeE env own) with
      | some env' => bnd (ev C sub (.c (.bl true)) env') fun t => bnd (lft (truth t)) fun b => if b then bnd (its C sub it1 env') fun xs1 => compL (fun x1 => match asg tg1 x1 (wipeE env' own1) with
          | some env2 => bnd (ev C sub (.c (.bl true)) env2) fun t1 => bnd (lft (truth t1)) fun b1 => if b1 then bnd (ev C sub elt env2) fun y => ret (some y) else ret none
          | none => non) xs1 else ret []
      | none => non) xs)) fun ys => bnd (sizeOk ys) fun ys => ret (D.lst ys)) st = .ok (D.lst ((xs.flatMap ys).map v)) st := by
    rw [bnd_of (hi st), bnd_of (noex_of (catL_mem (g := fun a => (ys a).map v) xs e1 st))]
    have e4 : xs.flatMap (fun a => (ys a).map v) = (xs.flatMap ys).map v := by rw [List.map_flatMap]
    rw [e4]
    have : sizeOk ((xs.flatMap ys).map v) st = .ok ((xs.flatMap ys).map v) st := by unfold sizeOk; rw [if_pos hz]; rfl
    rw [bnd_of this]
    rfl
  exact e3
end
/-- in a list of numbers, or not -/
theorem ninl_nat (p : Nat) (l : List Nat) (st : Store) : coM .nin (.int (p : Nat)) (.lst (l.map fun i => D.int (i : Nat))) st = .ok (.bl (!decide (p ∈ l))) st := by
  show lft (((inP (.int (p : Nat)) (l.map fun i => D.int (i : Nat))).map (!·)).map D.bl) st = _
  have e : inP (.int (p : Nat)) (l.map fun i => D.int (i : Nat)) = some (decide (p ∈ l)) := by
    unfold inP
    rw [if_pos (by rw [pls_nat]; rfl), any_nat]
  rw [e]; rfl
def goneL (found : List (List Me)) : List Nat := (found.flatMap id).map (·.1)
def restL (found : List (List Me)) (n : Nat) : List Nat := (List.range' 0 n).filter fun i => !decide (i ∈ goneL found)
def thrown (b : Be) (ps : List Pt) (found : List (List Me)) : List Me := (restL found ps.length).map fun i => (i, offF (ps.getD i ⟨0, ⟨true, 0⟩, ""⟩) b.ro)
def meals (b : Be) (ps : List Pt) (n : Int) : List (List Me) := (mealsS b ps n).1
abbrev Story := List (List Me) × List Me
def story (b : Be) (ps : List Pt) (n : Int) : Story := (meals b ps n, thrown b ps (meals b ps n))
def eS (s : Story) : D := .tup [.tup (s.1.map eMs), .tup (s.2.map eM)]
theorem mok (b : Be) (n : Int) : ∀ (l : List Cm) (i : Nat) (s : Sto), (∀ c ∈ l, c.1.1.natAbs ≤ 1000) → MOk b i s → MOk b (i + l.length) (l.foldl (stepM b n) s)
  | [], i, s, _, h => h
  | c :: l, i, s, hc, h => by
    have := mok b n l (i + 1) (stepM b n s c) (fun d hd => hc d (List.mem_cons_of_mem _ hd)) (h.step (hc c List.mem_cons_self))
    rw [show i + (c :: l).length = i + 1 + l.length by simp; omega]
    exact this
theorem meals_ok (b : Be) (ps : List Pt) (F : Fit b ps) (n : Int) : MOk b 32 (mealsS b ps n) := by
  have h := mok b n (order n (cms b ps)) 0 (List.replicate b.gs.length [], []) (fun c hc => by have := (cms_sm b ps F (order_mem.mp hc)).1; omega)
    ⟨by simp, fun l hl => by have := List.eq_of_mem_replicate hl; subst this; exact ⟨Nat.le_refl _, fun m hm => by simp at hm⟩, Nat.le_refl _⟩
  have hl := cms_len b ps F
  rw [order_len] at h
  exact ⟨h.len, fun l hl' => ⟨by have := (h.sm l hl').1; omega, (h.sm l hl').2⟩, by have g2 : (mealsS b ps n).2.length ≤ 0 + (cms b ps).length := h.gone; omega⟩
theorem r_story (k : Nat) (b : Be) (ps : List Pt) (F : Fit b ps) (h1 : 1 ≤ b.gs.length) (n : Int) (hn : 0 < n) (st : Store) : RN (k + 7) 45 [eB b, .tup (ps.map eT), .int n] st = .ok (eS (story b ps n)) st := by
  have ok := meals_ok b ps F n
  have hnp := F.np
  have hng := F.ng
  have fl : ((meals b ps n).flatMap id).length ≤ 64 := by
    have := flat_len (id : List Me → List Me) 32 (meals b ps n) fun l hl => (ok.sm l hl).1
    have h2 : (meals b ps n).length = b.gs.length := ok.len
    omega
  refine run_p (fd := f45) rfl rfl (sset (d := .tup ((meals b ps n).map eMs)) (pcall (qcons (pv rfl) (qcons (pv rfl) (qcons (pv rfl) qnil))) (r_meals k b ps F h1 n hn)) rfl
    (sset (d := .lst ((goneL (meals b ps n)).map fun i => D.int (i : Nat))) ?_ rfl (sset (d := .lst ((restL (meals b ps n) ps.length).map fun i => D.int (i : Nat))) ?_ rfl (srt (ptup (qcons (pv rfl) (qcons (d := .tup ((thrown b ps (meals b ps n)).map eM)) (pbi (ds := [.lst ((thrown b ps (meals b ps n)).map eM)]) (qcons ?_ qnil) fun _ => rfl) qnil))))))) st
  · have P := pcomp2A (C := RN (k + 6)) (sub := subT) (env := [some (eB b), some (.tup (ps.map eT)), some (.int n), some (.tup ((meals b ps n).map eMs)), none, none, none, none, none, none]) (enc := eMs) (enc1 := eM) (elt := .v 8) (tg := .n 6) (it := .ov (.v 3)) (tg1 := .t (.cons (.n 8) (.cons (.n 9) .nil))) (it1 := .ov (.v 6)) (own := [6, 8, 9]) (own1 := [8, 9]) (xs := meals b ps n) id (fun m => D.int (m.1 : Nat)) (wov (pv rfl) rfl) rfl
      (fun l hl => ⟨_, rfl, wov (pv rfl) rfl, fun m hm => ⟨_, rfl, pv rfl⟩⟩) (by rw [List.length_map]; unfold szLine; omega)
    have e : ((goneL (meals b ps n)).map fun i => D.int (i : Nat)) = ((meals b ps n).flatMap id).map fun m => D.int (m.1 : Nat) := by
      unfold goneL; rw [List.map_map]; rfl
    rw [e]
    exact P
  · have P := pcomp (C := RN (k + 6)) (sub := subT) (env := [some (eB b), some (.tup (ps.map eT)), some (.int n), some (.tup ((meals b ps n).map eMs)), some (.lst ((goneL (meals b ps n)).map fun i => D.int (i : Nat))), none, none, none, none, none]) (enc := fun i : Nat => D.int (i : Nat)) (elt := .v 7) (tg := .n 7) (it := .rng1 (.bi .len (.cons (.v 1) .nil))) (cond := .cmp .nin (.v 7) (.v 4)) (own := [7]) (xs := List.range' 0 ps.length) (fun i => !decide (i ∈ goneL (meals b ps n))) (fun i => D.int (i : Nat))
      (wrng1 (x := .int ps.length) (pbi (qcons (pv rfl) qnil) fun _ => by show lft (some (D.int ((ps.map eT).length : Nat))) _ = _; rw [List.length_map]; rfl) (by rw [rng0 (by omega) (by omega), Int.toNat_natCast])) rfl
      (fun i _ => ⟨_, rfl, pcmp (pv rfl) (pv rfl) (ninl_nat i _), fun _ => pv rfl⟩) (by rw [List.length_range']; unfold szLine; omega)
    exact P
  · have P := pcompA (C := RN (k + 6)) (sub := subT) (env := [some (eB b), some (.tup (ps.map eT)), some (.int n), some (.tup ((meals b ps n).map eMs)), some (.lst ((goneL (meals b ps n)).map fun i => D.int (i : Nat))), some (.lst ((restL (meals b ps n) ps.length).map fun i => D.int (i : Nat))), none, none, none, none]) (enc := fun i : Nat => D.int (i : Nat)) (elt := .tup (.cons (.v 7) (.cons (.call 40 (.cons (.ix (.v 1) (.v 7)) (.cons (.ix (.v 0) (.c (.int 1))) .nil))) .nil))) (tg := .n 7) (it := .ov (.v 5)) (own := [7]) (xs := restL (meals b ps n) ps.length) (fun i => eM (i, offF (ps.getD i ⟨0, ⟨true, 0⟩, ""⟩) b.ro))
      (wov (pv rfl) rfl) rfl (fun i hi => ⟨_, rfl, ptup (qcons (pv rfl) (qcons (pcall (qcons (pix (x := .tup (ps.map eT)) (z := eT (ps.getD i ⟨0, ⟨true, 0⟩, ""⟩)) (pv rfl) (pv rfl) (ix_tup (by
        unfold restL at hi
        have h3 := (List.mem_filter.mp hi).1
        simp only [List.mem_range'_1] at h3
        have h4 : i < ps.length := by omega
        rw [List.getElem?_map, List.getElem?_eq_getElem h4, List.getD_eq_getElem?_getD, List.getElem?_eq_getElem h4]
        rfl))) (qcons (pix (pv rfl) pc fun _ => rfl) qnil)) (r_off (k + 2) _ b.ro)) qnil))⟩) (by
        have : (restL (meals b ps n) ps.length).length ≤ ps.length := by
          unfold restL
          refine Nat.le_trans (List.length_filter_le _ _) ?_
          rw [List.length_range']
          omega
        unfold szLine; omega)
    have e : (thrown b ps (meals b ps n)).map eM = (restL (meals b ps n) ps.length).map fun i => eM (i, offF (ps.getD i ⟨0, ⟨true, 0⟩, ""⟩) b.ro) := by
      unfold thrown; rw [List.map_map]; rfl
    rw [e]
    exact P
end AB

set_option Elab.async false
set_option linter.all false
set_option autoImplicit false
set_option maxRecDepth 100000
set_option maxHeartbeats 4000000
/-! MirL: a second calculus: what an expression or a body comes to at one store. -/
namespace AB
open PySem
/-- an expression at a store: it comes to d, the store is t then -/
structure Ea (C : Nat → List D → M D) (sub : Nat → Nat → Bool) (e : E) (env : Env) (s : Store) (d : D) (t : Store) : Prop where
  go : ev C sub e env s = .ok d t
structure Eas (C : Nat → List D → M D) (sub : Nat → Nat → Bool) (e : Es) (env : Env) (s : Store) (d : List D) (t : Store) : Prop where
  go : evs C sub e env s = .ok d t
structure Ia (C : Nat → List D → M D) (sub : Nat → Nat → Bool) (i : I) (env : Env) (s : Store) (d : List D) (t : Store) : Prop where
  go : its C sub i env s = .ok d t
/-- a body at a store: it ends as r -/
structure Sa (C : Nat → List D → M D) (sub : Nat → Nat → Bool) (W : Nat) (ss : Ss) (env : Env) (s : Store) (r : RS) : Prop where
  go : evSs C sub W ss env s = r
/-- a call, at each store -/
structure Cl (k f : Nat) (ds : List D) (d : D) : Prop where
  go : ∀ st, RN k f ds st = .ok d st
section
variable {C : Nat → List D → M D} {sub : Nat → Nat → Bool} {W : Nat} {env : Env} {s s1 s2 s3 : Store}
theorem ac {d : D} : Ea C sub (.c d) env s d s := ⟨rfl⟩
theorem av {i : Nat} {d : D} (h : vget env[i]? = some d) : Ea C sub (.v i) env s d s := ⟨by
  show lft (vget env[i]?) s = _
  rw [h]; rfl⟩
theorem abin {o : Op} {a b : E} {x y z : D} (ha : Ea C sub a env s x s1) (hb : Ea C sub b env s1 y s2) (h : opM o x y s2 = .ok z s2) : Ea C sub (.bin o a b) env s z s2 := ⟨by
  show bnd (ev C sub a env) (fun x => bnd (ev C sub b env) fun y => opM o x y) s = _
  rw [bnd_of ha.go, bnd_of hb.go]; exact h⟩
theorem acmp {o : Co} {a b : E} {x y : D} {t : Bool} (ha : Ea C sub a env s x s1) (hb : Ea C sub b env s1 y s2) (h : coM o x y s2 = .ok (.bl t) s2) : Ea C sub (.cmp o a b) env s (.bl t) s2 := ⟨by
  show bnd (ev C sub a env) (fun x => bnd (ev C sub b env) fun y => coM o x y) s = _
  rw [bnd_of ha.go, bnd_of hb.go]; exact h⟩
theorem aneg {a : E} {i : Int} (ha : Ea C sub a env s (.int i) s1) : Ea C sub (.neg a) env s (.int (-i)) s1 := ⟨by
  show bnd (ev C sub a env) (fun x => match x with
      | .int i => ret (D.int (-i))
      | _ => non) s = _
  rw [bnd_of ha.go]; rfl⟩
theorem ant {a : E} {b : Bool} (ha : Ea C sub a env s (.bl b) s1) : Ea C sub (.nt a) env s (.bl (!b)) s1 := ⟨by
  show bnd (ev C sub a env) (fun x => bnd (lft (truth x)) fun b => ret (D.bl (!b))) s = _
  rw [bnd_of ha.go]; rfl⟩
theorem aand {a b : E} {p q : Bool} (ha : Ea C sub a env s (.bl p) s1) (hb : p = true → Ea C sub b env s1 (.bl q) s1) : Ea C sub (.and a b) env s (.bl (p && q)) s1 := ⟨by
  show bnd (ev C sub a env) (fun x => bnd (lft (truth x)) fun t => if t then ev C sub b env else ret (D.bl false)) s = _
  rw [bnd_of ha.go]
  cases p with
  | true => exact (hb rfl).go
  | false => rfl⟩
theorem aor {a b : E} {p q : Bool} (ha : Ea C sub a env s (.bl p) s1) (hb : p = false → Ea C sub b env s1 (.bl q) s1) : Ea C sub (.or a b) env s (.bl (p || q)) s1 := ⟨by
  show bnd (ev C sub a env) (fun x => bnd (lft (truth x)) fun t => if t then ret (D.bl true) else ev C sub b env) s = _
  rw [bnd_of ha.go]
  cases p with
  | true => rfl
  | false => exact (hb rfl).go⟩
/-- an if, both ways to one value -/
theorem aite {t a b : E} {c : Bool} {x : D} (ht : Ea C sub t env s (.bl c) s1) (ha : c = true → Ea C sub a env s1 x s2) (hb : c = false → Ea C sub b env s1 x s2) : Ea C sub (.ite t a b) env s x s2 := ⟨by
  show bnd (ev C sub t env) (fun x => bnd (lft (truth x)) fun c => if c then ev C sub a env else ev C sub b env) s = _
  rw [bnd_of ht.go]
  cases c with
  | true => exact (ha rfl).go
  | false => exact (hb rfl).go⟩
theorem aif {t a b : E} {c : Bool} {x y : D} (ht : Ea C sub t env s (.bl c) s1) (ha : c = true → Ea C sub a env s1 x s1) (hb : c = false → Ea C sub b env s1 y s1) : Ea C sub (.ite t a b) env s (if c then x else y) s1 := by
  refine aite ht (fun h => ?_) fun h => ?_
  · rw [h]; exact ha h
  · rw [h]; exact hb h
theorem achn {o p : Co} {a b c : E} {x y z : D} {u v : Bool} (ha : Ea C sub a env s x s1) (hb : Ea C sub b env s1 y s2) (h1 : coM o x y s2 = .ok (.bl u) s2) (hc : u = true → Ea C sub c env s2 z s2) (h2 : u = true → coM p y z s2 = .ok (.bl v) s2) : Ea C sub (.chn o p a b c) env s (.bl (u && v)) s2 := ⟨by
  show bnd (ev C sub a env) (fun x => bnd (ev C sub b env) fun y => bnd (coM o x y) fun r => bnd (lft (truth r)) fun t => if t then bnd (ev C sub c env) fun z => coM p y z else ret (D.bl false)) s = _
  rw [bnd_of ha.go, bnd_of hb.go, bnd_of h1]
  cases u with
  | true =>
    show bnd (ev C sub c env) (fun z => coM p y z) s2 = _
    rw [bnd_of (hc rfl).go]; exact h2 rfl
  | false => rfl⟩
theorem aix {a i : E} {x z : D} {j : Int} (ha : Ea C sub a env s x s1) (hi : Ea C sub i env s1 (.int j) s2) (h : ixM x (.int j) s2 = .ok z s2) : Ea C sub (.ix a i) env s z s2 := ⟨by
  show bnd (ev C sub a env) (fun x => bnd (ev C sub i env) fun y => ixM x y) s = _
  rw [bnd_of ha.go, bnd_of hi.go]; exact h⟩
theorem asll {a l : E} {x z : D} {i : Int} (ha : Ea C sub a env s x s1) (hl : Ea C sub l env s1 (.int i) s2) (h : slM x (some i) none s2 = .ok z s2) : Ea C sub (.sll a l) env s z s2 := ⟨by
  show bnd (ev C sub a env) (fun x => bnd (ev C sub l env) fun l => bnd (lft (toI l)) fun i => slM x (some i) none) s = _
  rw [bnd_of ha.go, bnd_of hl.go]; exact h⟩
theorem aslh {a l : E} {x z : D} {i : Int} (ha : Ea C sub a env s x s1) (hl : Ea C sub l env s1 (.int i) s2) (h : slM x none (some i) s2 = .ok z s2) : Ea C sub (.slh a l) env s z s2 := ⟨by
  show bnd (ev C sub a env) (fun x => bnd (ev C sub l env) fun h => bnd (lft (toI h)) fun j => slM x none (some j)) s = _
  rw [bnd_of ha.go, bnd_of hl.go]; exact h⟩
theorem aslb {a l u : E} {x z : D} {i j : Int} (ha : Ea C sub a env s x s1) (hl : Ea C sub l env s1 (.int i) s2) (hu : Ea C sub u env s2 (.int j) s3) (h : slM x (some i) (some j) s3 = .ok z s3) : Ea C sub (.slb a l u) env s z s3 := ⟨by
  show bnd (ev C sub a env) (fun x => bnd (ev C sub l env) fun l => bnd (lft (toI l)) fun i => bnd (ev C sub u env) fun h => bnd (lft (toI h)) fun j => slM x (some i) (some j)) s = _
  rw [bnd_of ha.go, bnd_of hl.go]
  show bnd (ev C sub u env) (fun h => bnd (lft (toI h)) fun j => slM x (some i) (some j)) s2 = _
  rw [bnd_of hu.go]; exact h⟩
theorem bnil : Eas C sub .nil env s [] s := ⟨rfl⟩
theorem bcons {e : E} {es : Es} {d : D} {ds : List D} (h : Ea C sub e env s d s1) (t : Eas C sub es env s1 ds s2) : Eas C sub (.cons e es) env s (d :: ds) s2 := ⟨by
  show bnd (ev C sub e env) (fun x => bnd (evs C sub es env) fun xs => ret (x :: xs)) s = _
  rw [bnd_of h.go, bnd_of t.go]; rfl⟩
theorem atup {es : Es} {ds : List D} (h : Eas C sub es env s ds s1) : Ea C sub (.tup es) env s (.tup ds) s1 := ⟨by
  show bnd (evs C sub es env) (fun xs => ret (D.tup xs)) s = _
  rw [bnd_of h.go]; rfl⟩
theorem alst {es : Es} {ds : List D} (h : Eas C sub es env s ds s1) : Ea C sub (.lst es) env s (.lst ds) s1 := ⟨by
  show bnd (evs C sub es env) (fun xs => ret (D.lst xs)) s = _
  rw [bnd_of h.go]; rfl⟩
theorem anew {e : E} {xs : List D} (h : Ea C sub e env s (.lst xs) s1) (hp : D.pls xs = true) : Ea C sub (.new e) env s (.ref s1.length) (s1 ++ [.lst xs]) := ⟨by
  show bnd (ev C sub e env) (fun x => match x with
    | .lst xs => if D.pls xs then (fun st => R.ok (D.ref st.length) (st ++ [Cell.lst xs]) : M D) else non
    | _ => non) s = _
  rw [bnd_of h.go]
  show (if D.pls xs then (fun st => R.ok (D.ref st.length) (st ++ [Cell.lst xs]) : M D) else non) s1 = _
  rw [if_pos hp]⟩
theorem acallC {f : Nat} {es : Es} {ds : List D} {d : D} (h : Eas C sub es env s ds s1) (k : C f ds s1 = .ok d s2) : Ea C sub (.call f es) env s d s2 := ⟨by
  show bnd (evs C sub es env) (fun xs => C f xs) s = _
  rw [bnd_of h.go]; exact k⟩
theorem acall {k f : Nat} {es : Es} {ds : List D} {d : D} (h : Eas (RN k) subT es env s ds s1) (c : Cl k f ds d) : Ea (RN k) subT (.call f es) env s d s1 := acallC h (c.go s1)
theorem abi {b : Bi} {es : Es} {ds : List D} {d : D} (h : Eas C sub es env s ds s1) (k : biM b ds s1 = .ok d s1) : Ea C sub (.bi b es) env s d s1 := ⟨by
  show bnd (evs C sub es env) (fun xs => biM b xs) s = _
  rw [bnd_of h.go]; exact k⟩
theorem aisi {e : E} {t : Ty} {x : D} {b : Bool} (h : Ea C sub e env s x s1) (k : isiM t x s1 = .ok (.bl b) s1) : Ea C sub (.isi e t) env s (.bl b) s1 := ⟨by
  show bnd (ev C sub e env) (fun x => isiM t x) s = _
  rw [bnd_of h.go]; exact k⟩
theorem amt {m : Mt} {o : E} {es : Es} {x d : D} {ds : List D} (h : Ea C sub o env s x s1) (l : lsM x s1 = .ok () s1) (t : Eas C sub es env s1 ds s2) (k : mtM m x ds s2 = .ok d s2) : Ea C sub (.mt m o es) env s d s2 := ⟨by
  show bnd (ev C sub o env) (fun x => bnd (lsM x) fun _ => bnd (evs C sub es env) fun xs => mtM m x xs) s = _
  rw [bnd_of h.go, bnd_of l, bnd_of t.go]; exact k⟩
theorem alrng {a b : E} {x y : D} {ds : List D} (ha : Ea C sub a env s x s1) (hb : Ea C sub b env s1 y s2) (k : rngP x y = some ds) (hz : ds.length < szLine) : Ea C sub (.lrng a b) env s (.lst ds) s2 := ⟨by
  show bnd (ev C sub a env) (fun x => bnd (ev C sub b env) fun y => bnd (lft (rngP x y)) fun xs => bnd (sizeOk xs) fun xs => ret (D.lst xs)) s = _
  rw [bnd_of ha.go, bnd_of hb.go, k]
  show bnd (sizeOk ds) (fun xs => ret (D.lst xs)) s2 = _
  unfold sizeOk; rw [if_pos hz]; rfl⟩
theorem arev {a : E} {x z : D} (ha : Ea C sub a env s x s1) (k : revP x = some z) : Ea C sub (.rev a) env s z s1 := ⟨by
  show bnd (ev C sub a env) (fun x => lft (revP x)) s = _
  rw [bnd_of ha.go, k]; rfl⟩
theorem iov {e : E} {x : D} {ds : List D} (h : Ea C sub e env s x s1) (k : items x = some ds) : Ia C sub (.ov e) env s ds s1 := ⟨by
  show bnd (ev C sub e env) (fun x => lft (items x)) s = _
  rw [bnd_of h.go, k]; rfl⟩
theorem irng1 {e : E} {x : D} {ds : List D} (h : Ea C sub e env s x s1) (k : rngP (.int 0) x = some ds) : Ia C sub (.rng1 e) env s ds s1 := ⟨by
  show bnd (ev C sub e env) (fun x => lft (rngP (.int 0) x)) s = _
  rw [bnd_of h.go, k]; rfl⟩
theorem irng2 {a b : E} {x y : D} {ds : List D} (ha : Ea C sub a env s x s1) (hb : Ea C sub b env s1 y s2) (k : rngP x y = some ds) : Ia C sub (.rng2 a b) env s ds s2 := ⟨by
  show bnd (ev C sub a env) (fun x => bnd (ev C sub b env) fun y => lft (rngP x y)) s = _
  rw [bnd_of ha.go, bnd_of hb.go, k]; rfl⟩
theorem ienm {e : E} {x : D} {ds : List D} (h : Ea C sub e env s x s1) (k : items x = some ds) : Ia C sub (.enm e) env s (enumD 0 ds) s1 := ⟨by
  show bnd (ev C sub e env) (fun x => bnd (lft (items x)) fun xs => ret (enumD 0 xs)) s = _
  rw [bnd_of h.go, k]; rfl⟩
theorem izip {a b : E} {x y : D} {ds es : List D} (ha : Ea C sub a env s x s1) (hb : Ea C sub b env s1 y s2) (k : items x = some ds) (k2 : items y = some es) : Ia C sub (.zip a b) env s (zipD ds es) s2 := ⟨by
  show bnd (ev C sub a env) (fun x => bnd (ev C sub b env) fun y => bnd (lft (items x)) fun xs => bnd (lft (items y)) fun ys => ret (zipD xs ys)) s = _
  rw [bnd_of ha.go, bnd_of hb.go, k]
  show bnd (lft (items y)) _ s2 = _
  rw [k2]; rfl⟩
/-- a comprehension over typed items (the store as it was) -/
theorem acomp {α : Type} {enc : α → D} {elt cond : E} {tg : T} {it : I} {own : List Nat} {ds : List D} (xs : List α) (t : α → Bool) (v : α → D) (hi : Ia C sub it env s ds s1) (hd : ds = xs.map enc)
    (h : ∀ a ∈ xs, ∃ env', asg tg (enc a) (wipeE env own) = some env' ∧ Ea C sub cond env' s1 (.bl (t a)) s1 ∧ (t a = true → Ea C sub elt env' s1 (v a) s1)) (hz : xs.length < szLine) : Ea C sub (.comp elt tg it cond own) env s (.lst ((xs.filter t).map v)) s1 := ⟨by
  have e : ∀ l : List α, (∀ a ∈ l, a ∈ xs) → compL (fun x => match asg tg x (wipeE env own) with
      | some env' => bnd (ev C sub cond env') fun t => bnd (lft (truth t)) fun b => if b then bnd (ev C sub elt env') fun y => ret (some y) else ret none
      | none => non) (l.map enc) s1 = .ok ((l.filter t).map v) s1 := by
    intro l
    induction l with
    | nil => intro _; rfl
    | cons a l ih =>
      intro hl
      obtain ⟨env', h1, h2, h3⟩ := h a (hl a List.mem_cons_self)
      have ih2 := ih fun b hb => hl b (List.mem_cons_of_mem _ hb)
      simp only [List.map_cons, compL]
      cases q : t a with
      | true =>
        have e1 : (match asg tg (enc a) (wipeE env own) with
          | some env' => bnd (ev C sub cond env') fun t => bnd (lft (truth t)) fun b => if b then bnd (ev C sub elt env') fun y => ret (some y) else ret none
          | none => non) s1 = .ok (some (v a)) s1 := by
          rw [h1]
          show bnd (ev C sub cond env') _ s1 = _
          rw [bnd_of h2.go, q]
          show bnd (ev C sub elt env') (fun y => ret (some y)) s1 = _
          rw [bnd_of (h3 q).go]; rfl
        rw [bnd_of e1, bnd_of ih2]
        simp [List.filter_cons, q, ret]
      | false =>
        have e1 : (match asg tg (enc a) (wipeE env own) with
          | some env' => bnd (ev C sub cond env') fun t => bnd (lft (truth t)) fun b => if b then bnd (ev C sub elt env') fun y => ret (some y) else ret none
          | none => non) s1 = .ok none s1 := by
          rw [h1]
          show bnd (ev C sub cond env') _ s1 = _
          rw [bnd_of h2.go, q]; rfl
        rw [bnd_of e1, bnd_of ih2]
        simp [List.filter_cons, q, ret]
  have e3 : ((xs.filter t).map v).length < szLine := by
    have := List.length_filter_le t xs
    rw [List.length_map]
    omega
  subst hd
  show bnd (its C sub it env) (fun xs => bnd (noex (compL (fun x => match asg tg x (wipeE env own) with
      | some env' => bnd (ev C sub cond env') fun t => bnd (lft (truth t)) fun b => if b then bnd (ev C sub elt env') fun y => ret (some y) else ret none
      | none => non) xs)) fun ys => bnd (sizeOk ys) fun ys => ret (D.lst ys)) s = _
  rw [bnd_of hi.go, bnd_of (noex_of (e xs fun _ h => h))]
  have : sizeOk ((xs.filter t).map v) s1 = .ok ((xs.filter t).map v) s1 := by unfold sizeOk; rw [if_pos e3]; rfl
  rw [bnd_of this]; rfl⟩
theorem acompA {α : Type} {enc : α → D} {elt : E} {tg : T} {it : I} {own : List Nat} {ds : List D} (xs : List α) (v : α → D) (hi : Ia C sub it env s ds s1) (hd : ds = xs.map enc)
    (h : ∀ a ∈ xs, ∃ env', asg tg (enc a) (wipeE env own) = some env' ∧ Ea C sub elt env' s1 (v a) s1) (hz : xs.length < szLine) : Ea C sub (.comp elt tg it (.c (.bl true)) own) env s (.lst (xs.map v)) s1 := by
  have P := acomp (cond := .c (.bl true)) xs (fun _ => true) v hi hd (fun a ha => let ⟨e, h1, h2⟩ := h a ha; ⟨e, h1, ac, fun _ => h2⟩) hz
  rw [List.filter_eq_self.mpr (fun _ _ => rfl)] at P
  exact P
/-- two clauses, all kept -/
theorem acomp2A {α β : Type} {enc : α → D} {enc1 : β → D} {elt : E} {tg tg1 : T} {it it1 : I} {own own1 : List Nat} {ds : List D} (xs : List α) (ys : α → List β) (v : α → β → D) (hi : Ia C sub it env s ds s1) (hd : ds = xs.map enc)
    (h : ∀ a ∈ xs, ∃ env', asg tg (enc a) (wipeE env own) = some env' ∧ Ia C sub it1 env' s1 ((ys a).map enc1) s1 ∧ ∀ c ∈ ys a, ∃ env2, asg tg1 (enc1 c) (wipeE env' own1) = some env2 ∧ Ea C sub elt env2 s1 (v a c) s1) (hz : (xs.flatMap fun a => (ys a).map (v a)).length < szLine) :
    Ea C sub (.comp2 elt tg it (.c (.bl true)) tg1 it1 (.c (.bl true)) own own1) env s (.lst (xs.flatMap fun a => (ys a).map (v a))) s1 := ⟨by
  subst hd
  have e0 : ∀ (env' : Env) (w : β → D) (l : List β), (∀ c ∈ l, ∃ env2, asg tg1 (enc1 c) (wipeE env' own1) = some env2 ∧ Ea C sub elt env2 s1 (w c) s1) → compL (fun x1 => match asg tg1 x1 (wipeE env' own1) with
          | some env2 => bnd (ev C sub (.c (.bl true)) env2) fun t1 => bnd (lft (truth t1)) fun b1 => if b1 then bnd (ev C sub elt env2) fun y => ret (some y) else ret none
          | none => non) (l.map enc1) s1 = .ok (l.map w) s1 := by
    intro env' w l
    induction l with
    | nil => intro _; rfl
    | cons c l ih =>
      intro hl
      obtain ⟨env2, h1, h2⟩ := hl c List.mem_cons_self
      have ih2 := ih fun b hb => hl b (List.mem_cons_of_mem _ hb)
      simp only [List.map_cons, compL]
      have e1 : (match asg tg1 (enc1 c) (wipeE env' own1) with
          | some env2 => bnd (ev C sub (.c (.bl true)) env2) fun t1 => bnd (lft (truth t1)) fun b1 => if b1 then bnd (ev C sub elt env2) fun y => ret (some y) else ret none
          | none => non) s1 = .ok (some (w c)) s1 := by
        rw [h1]
        show bnd (ev C sub elt env2) (fun y => ret (some y)) s1 = _
        rw [bnd_of h2.go]; rfl
      rw [bnd_of e1, bnd_of ih2]; rfl
  have e1 : ∀ l : List α, (∀ a ∈ l, a ∈ xs) → catL (fun x => match asg tg x (wipeE env own) with
      | some env' => bnd (ev C sub (.c (.bl true)) env') fun t => bnd (lft (truth t)) fun b => if b then bnd (its C sub it1 env') fun xs1 => compL (fun x1 => match asg tg1 x1 (wipeE env' own1) with
          | some env2 => bnd (ev C sub (.c (.bl true)) env2) fun t1 => bnd (lft (truth t1)) fun b1 => if b1 then bnd (ev C sub elt env2) fun y => ret (some y) else ret none
          | none => non) xs1 else ret []
      | none => non) (l.map enc) s1 = .ok (l.flatMap fun a => (ys a).map (v a)) s1 := by
    intro l
    induction l with
    | nil => intro _; rfl
    | cons a l ih =>
      intro hl
      obtain ⟨env', h1, h2, h3⟩ := h a (hl a List.mem_cons_self)
      have ih2 := ih fun b hb => hl b (List.mem_cons_of_mem _ hb)
      simp only [List.map_cons, catL]
      have e1 : (match asg tg (enc a) (wipeE env own) with
        | some env' => bnd (ev C sub (.c (.bl true)) env') fun t => bnd (lft (truth t)) fun b => if b then bnd (its C sub it1 env') fun xs1 => compL (fun x1 => match asg tg1 x1 (wipeE env' own1) with
          | some env2 => bnd (ev C sub (.c (.bl true)) env2) fun t1 => bnd (lft (truth t1)) fun b1 => if b1 then bnd (ev C sub elt env2) fun y => ret (some y) else ret none
          | none => non) xs1 else ret []
        | none => non) s1 = .ok ((ys a).map (v a)) s1 := by
        rw [h1]
        show bnd (its C sub it1 env') _ s1 = _
        rw [bnd_of h2.go]
        exact e0 env' (v a) (ys a) h3
      rw [bnd_of e1, bnd_of ih2]; rfl
  show bnd (its C sub it env) (fun xs => bnd (noex (catL (fun x => match asg tg x (wipeE env own) with
      | some env' => bnd (ev C sub (.c (.bl true)) env') fun t => bnd (lft (truth t)) fun b => if b then bnd (its C sub it1 env') fun xs1 => compL (fun x1 => match asg tg1 x1 (wipeE env' own1) with
          | some env2 => bnd (ev C sub (.c (.bl true)) env2) fun t1 => bnd (lft (truth t1)) fun b1 => if b1 then bnd (ev C sub elt env2) fun y => ret (some y) else ret none
          | none => non) xs1 else ret []
      | none => non) xs)) fun ys => bnd (sizeOk ys) fun ys => ret (D.lst ys)) s = _
  rw [bnd_of hi.go, bnd_of (noex_of (e1 xs fun _ h => h))]
  have : sizeOk (xs.flatMap fun a => (ys a).map (v a)) s1 = .ok (xs.flatMap fun a => (ys a).map (v a)) s1 := by unfold sizeOk; rw [if_pos hz]; rfl
  rw [bnd_of this]; rfl⟩
/-! ### bodies: each rule puts one statement ahead of a body -/
theorem tnil : Sa C sub W .nil env s (.ok (.nx env) s) := ⟨rfl⟩
theorem tset {m : Nat} {tg : T} {e : E} {ss : Ss} {d : D} {env' : Env} {r : RS} (h : Ea C sub e env s d s1) (ha : asg tg d env = some env') (t : Sa C sub W ss env' s1 r) : Sa C sub W (.cons (.set m tg e) ss) env s r := ⟨by
  show thenS (onE (ev C sub e env) env fun d => match asg tg d env with
    | some env' => retS (.nx env')
    | none => nonS) (fun env' => evSs C sub W ss env') s = _
  unfold thenS onE; rw [h.go]; simp only [ha]; exact t.go⟩
theorem tex {e : E} {ss : Ss} {d : D} {r : RS} (h : Ea C sub e env s d s1) (t : Sa C sub W ss env s1 r) : Sa C sub W (.cons (.ex e) ss) env s r := ⟨by
  show thenS (onE (ev C sub e env) env fun _ => retS (.nx env)) (fun env' => evSs C sub W ss env') s = _
  unfold thenS onE; rw [h.go]; exact t.go⟩
theorem trt {e : E} {ss : Ss} {d : D} (h : Ea C sub e env s d s1) : Sa C sub W (.cons (.rt e) ss) env s (.ok (.rt d) s1) := ⟨by
  show thenS (onE (ev C sub e env) env fun d => retS (.rt d)) (fun env' => evSs C sub W ss env') s = _
  unfold thenS onE; rw [h.go]; rfl⟩
theorem tseti {o i e : E} {ss : Ss} {d : D} {n j : Nat} {k : Int} {xs : List D} {r : RS} (he : Ea C sub e env s d s1) (ho : Ea C sub o env s1 (.ref n) s2) (hi : Ea C sub i env s2 (.int k) s3) (hc : s3[n]? = some (.lst xs)) (hj : L2.ixN xs.length k = some j) (hp : d.pl = true) (t : Sa C sub W ss env (s3.set n (.lst (xs.set j d))) r) : Sa C sub W (.cons (.seti o i e) ss) env s r := ⟨by
  show thenS (onE (bnd (ev C sub e env) fun d => bnd (ev C sub o env) fun x => bnd (ev C sub i env) fun y => setiM x y d) env fun _ => retS (.nx env)) (fun env' => evSs C sub W ss env') s = _
  have e1 : (bnd (ev C sub e env) fun d => bnd (ev C sub o env) fun x => bnd (ev C sub i env) fun y => setiM x y d) s = .ok () (s3.set n (.lst (xs.set j d))) := by
    rw [bnd_of he.go, bnd_of ho.go, bnd_of hi.go]
    unfold setiM
    simp only [hc, hj, hp, if_true]
  unfold thenS onE; rw [e1]; exact t.go⟩
theorem tapp {o e : E} {ss : Ss} {d : D} {n : Nat} {xs : List D} {r : RS} (ho : Ea C sub o env s (.ref n) s1) (hl : ∃ ys, s1[n]? = some (.lst ys)) (he : Ea C sub e env s1 d s2) (hc : s2[n]? = some (.lst xs)) (hz : xs.length < szLine) (hp : d.pl = true) (t : Sa C sub W ss env (s2.set n (.lst (xs ++ [d]))) r) : Sa C sub W (.cons (.app o e) ss) env s r := ⟨by
  show thenS (onE (bnd (ev C sub o env) fun x => bnd (isLM x) fun _ => bnd (ev C sub e env) fun d => appM x d) env fun _ => retS (.nx env)) (fun env' => evSs C sub W ss env') s = _
  have e1 : (bnd (ev C sub o env) fun x => bnd (isLM x) fun _ => bnd (ev C sub e env) fun d => appM x d) s = .ok () (s2.set n (.lst (xs ++ [d]))) := by
    obtain ⟨ys, hl⟩ := hl
    have e2 : isLM (.ref n) s1 = .ok () s1 := by unfold isLM; simp only [hl]
    rw [bnd_of ho.go, bnd_of e2, bnd_of he.go]
    unfold appM
    simp only [hc]
    rw [if_pos ⟨hz, hp⟩]
  unfold thenS onE; rw [e1]; exact t.go⟩
/-- what stands behind a statement that ended as q -/
def aftL (C : Nat → List D → M D) (sub : Nat → Nat → Bool) (W : Nat) (ss : Ss) (q : RS) : RS := match q with
  | .ok (.nx env') st' => evSs C sub W ss env' st'
  | .ok fl st' => .ok fl st'
  | .ex e env' st' => .ex e env' st'
  | .no => .no
theorem tif {t : E} {a b ss : Ss} {c : Bool} {r q : RS} (ht : Ea C sub t env s (.bl c) s1) (ha : c = true → Sa C sub W a env s1 q) (hb : c = false → Sa C sub W b env s1 q) (hr : aftL C sub W ss q = r) : Sa C sub W (.cons (.iff t a b) ss) env s r := ⟨by
  show thenS (onE (bnd (ev C sub t env) fun x => lft (truth x)) env fun c => if c then evSs C sub W a env else evSs C sub W b env) (fun env' => evSs C sub W ss env') s = _
  have e1 : (bnd (ev C sub t env) fun x => lft (truth x)) s = .ok c s1 := by rw [bnd_of ht.go]; rfl
  unfold thenS onE; rw [e1]
  cases c with
  | true => simp only [if_true]; rw [(ha rfl).go]; exact hr
  | false => simp only [Bool.false_eq_true, if_false]; rw [(hb rfl).go]; exact hr⟩
/-- an if whose ways go on behind it -/
theorem tifn {t : E} {a b ss : Ss} {c : Bool} {env1 : Env} {r : RS} (ht : Ea C sub t env s (.bl c) s1) (ha : c = true → Sa C sub W a env s1 (.ok (.nx env1) s2)) (hb : c = false → Sa C sub W b env s1 (.ok (.nx env1) s2)) (hr : Sa C sub W ss env1 s2 r) : Sa C sub W (.cons (.iff t a b) ss) env s r := tif ht ha hb hr.go
/-- an if whose first way hands back -/
theorem tifr {t : E} {a ss : Ss} {c : Bool} {f : Fl} {r : RS} (ht : Ea C sub t env s (.bl c) s1) (ha : c = true → Sa C sub W a env s1 r) (hf : c = true → ∃ d st, r = .ok (.rt d) st) (hb : c = false → Sa C sub W ss env s1 r) : Sa C sub W (.cons (.iff t a .nil) ss) env s r := by
  cases c with
  | true =>
    obtain ⟨d, st, e⟩ := hf rfl
    subst e
    exact tif (q := .ok (.rt d) st) ht ha (fun h => by cases h) rfl
  | false => exact tif (q := .ok (.nx env) s1) ht (fun h => by cases h) (fun _ => tnil) (hb rfl).go
theorem tfor {tg : T} {it : I} {b ss : Ss} {ds : List D} {env' : Env} {r : RS} (hi : Ia C sub it env s ds s1) (h : forS (fun x env1 => match asg tg x env1 with
    | some env2 => evSs C sub W b env2
    | none => nonS) ds env s1 = .ok (.nx env') s2) (t : Sa C sub W ss env' s2 r) : Sa C sub W (.cons (.forr tg it b) ss) env s r := ⟨by
  show thenS (onE (its C sub it env) env fun xs => forS (fun x env1 => match asg tg x env1 with
    | some env2 => evSs C sub W b env2
    | none => nonS) xs env) (fun env' => evSs C sub W ss env') s = _
  unfold thenS onE; rw [hi.go]; simp only []; rw [h]; exact t.go⟩
theorem tfrz {i n : Nat} {st : S} {ss : Ss} {xs : List D} {r : RS} (hv : env[i]? = some (some (.ref n))) (hc : s[n]? = some (.lst xs)) (t : Sa C sub W (.cons st ss) (env.set i (some (.lst xs))) (s.set n .dead) r) : Sa C sub W (.cons (.frz i st) ss) env s r := ⟨by
  show thenS (frzE i env fun env' => evS C sub W st env') (fun env' => evSs C sub W ss env') s = _
  have e1 : frzE i env (fun env' => evS C sub W st env') s = evS C sub W st (env.set i (some (.lst xs))) (s.set n .dead) := by
    unfold frzE; simp only [hv, hc]
  have e2 := t.go
  have e3 : thenS (evS C sub W st (env.set i (some (.lst xs)))) (fun env' => evSs C sub W ss env') (s.set n .dead) = r := e2
  rw [← e3]
  unfold thenS
  rw [e1]⟩
end
/-- a for over typed items, counted: R tells where it stands (index, typed state, env, store) -/
theorem forA {α β : Type} {enc : α → D} {f : D → Env → MS} (R : Nat → β → Env → Store → Prop) (step : β → α → β) : ∀ (xs : List α) (i : Nat) (b : β) (env : Env) (st : Store),
    (∀ j a, xs[j]? = some a → ∀ b env st, R (i + j) b env st → ∃ env' st', f (enc a) env st = .ok (.nx env') st' ∧ R (i + j + 1) (step b a) env' st') → R i b env st →
    ∃ env' st', forS f (xs.map enc) env st = .ok (.nx env') st' ∧ R (i + xs.length) (xs.foldl step b) env' st'
  | [], i, b, env, st, _, h => ⟨env, st, rfl, h⟩
  | x :: xs, i, b, env, st, hs, h => by
    obtain ⟨env1, st1, h1, h2⟩ := hs 0 x rfl b env st h
    obtain ⟨env2, st2, h3, h4⟩ := forA R step xs (i + 1) (step b x) env1 st1 (fun j a ha b env st hr => by
      have := hs (j + 1) a (by simpa using ha) b env st (by rw [show i + (j + 1) = i + 1 + j by omega]; exact hr)
      rw [show i + (j + 1) + 1 = i + 1 + j + 1 by omega] at this
      exact this) h2
    refine ⟨env2, st2, ?_, by rw [show i + (x :: xs).length = i + 1 + xs.length by simp; omega]; exact h4⟩
    show (match f (enc x) env st with
      | .ok (.nx env') st' => forS f (xs.map enc) env' st'
      | .ok (.ct env') st' => forS f (xs.map enc) env' st'
      | .ok (.bk env') st' => .ok (.nx env') st'
      | .ok (.rt d) st' => .ok (.rt d) st'
      | .ex e env' st' => .ex e env' st'
      | .no => .no) = _
    rw [h1]
    exact h3
theorem cl_of {k f : Nat} {fd : FD} {xs : List D} {d : D} (e : FT f = some fd) (hl : xs.length = fd.np) (h : ∀ s, Sa (RN k) subT 100000 fd.body (xs.map some ++ List.replicate (fd.ns - fd.np) none) s (.ok (.rt d) s)) : Cl (k + 1) f xs d := ⟨fun st => by
  rw [run_s e hl, (h st).go]
  simp only [cut_self]⟩
/-- a def with lists of its own: they are gone behind it -/
theorem cl_own {k f : Nat} {fd : FD} {xs : List D} {d : D} (e : FT f = some fd) (hl : xs.length = fd.np) (hp : d.pl = true) (h : ∀ s, ∃ t, Sa (RN k) subT 100000 fd.body (xs.map some ++ List.replicate (fd.ns - fd.np) none) s (.ok (.rt d) t) ∧ t.take s.length = s) : Cl (k + 1) f xs d := ⟨fun st => by
  obtain ⟨t, h1, h2⟩ := h st
  rw [run_s e hl, h1.go]
  show R.ok d (cutS d st t) = _
  unfold cutS
  rw [if_pos hp, h2]⟩
/-- a def that hands back nothing -/
theorem cl_non {k f : Nat} {fd : FD} {xs : List D} {env : Env} (e : FT f = some fd) (hl : xs.length = fd.np) (h : ∀ s, Sa (RN k) subT 100000 fd.body (xs.map some ++ List.replicate (fd.ns - fd.np) none) s (.ok (.nx env) s)) : Cl (k + 1) f xs .non := ⟨fun st => by
  rw [run_s e hl, (h st).go]
  simp only [cut_self]⟩
end AB

set_option Elab.async false
set_option linter.all false
set_option autoImplicit false
set_option maxRecDepth 100000
set_option maxHeartbeats 4000000
/-! MirM: how far the signs stay; forms that tell. -/
namespace AB
open PySem
local macro_rules | `(tactic| trivial) => `(tactic| (intro _; trivial))
local macro_rules | `(tactic| trivial) => `(tactic| (apply aisi; trivial; exact rfl))
local macro_rules | `(tactic| trivial) => `(tactic| (apply abi; trivial; first | exact rfl | assumption))
local macro_rules | `(tactic| trivial) => `(tactic| (apply asll; trivial; trivial; first | exact rfl | assumption))
local macro_rules | `(tactic| trivial) => `(tactic| (apply aslh; trivial; trivial; first | exact rfl | assumption))
local macro_rules | `(tactic| trivial) => `(tactic| (apply achn; trivial; trivial; exact rfl; trivial; (intro _; exact rfl)))
local macro_rules | `(tactic| trivial) => `(tactic| (apply aif; trivial; trivial; trivial))
local macro_rules | `(tactic| trivial) => `(tactic| (apply aor; trivial; trivial))
local macro_rules | `(tactic| trivial) => `(tactic| (apply aand; trivial; trivial))
local macro_rules | `(tactic| trivial) => `(tactic| (apply ant; trivial))
local macro_rules | `(tactic| trivial) => `(tactic| (apply aneg; trivial))
local macro_rules | `(tactic| trivial) => `(tactic| (apply acmp; trivial; trivial; first | exact rfl | assumption))
local macro_rules | `(tactic| trivial) => `(tactic| (apply aix; trivial; trivial; first | exact rfl | assumption))
local macro_rules | `(tactic| trivial) => `(tactic| (apply abin; trivial; trivial; first | exact rfl | assumption))
local macro_rules | `(tactic| trivial) => `(tactic| (apply atup; trivial))
local macro_rules | `(tactic| trivial) => `(tactic| (apply alst; trivial))
local macro_rules | `(tactic| trivial) => `(tactic| (apply acall; trivial; trivial))
local macro_rules | `(tactic| trivial) => `(tactic| (apply bcons; trivial; trivial))
local macro_rules | `(tactic| trivial) => `(tactic| exact bnil)
local macro_rules | `(tactic| trivial) => `(tactic| exact av rfl)
local macro_rules | `(tactic| trivial) => `(tactic| exact ac)
local macro_rules | `(tactic| trivial) => `(tactic| assumption)
theorem c_added (k : Nat) (a b c d : Int) : Cl (k + 1) 33 [.tup [.int a, .int b], .tup [.int c, .int d]] (.tup [.int (a + c), .int (b + d)]) := cl_of (fd := f33) rfl rfl fun s => by
  apply trt; trivial
theorem c_less (k : Nat) (a b c d : Int) : Cl (k + 1) 34 [.tup [.int a, .int b], .tup [.int c, .int d]] (.tup [.int (a - c), .int (b - d)]) := cl_of (fd := f34) rfl rfl fun s => by
  apply trt; trivial
theorem c_worth (k : Nat) (f : Fo) (n : Int) (h : f.1.natAbs < 2 ^ 64) : Cl (k + 1) 10 [eF f, .int n] (.int (wo f n)) := ⟨r_worth k f n h⟩
theorem c_sign (k : Nat) (f : Fo) (n : Int) (h : f.1.natAbs < 2 ^ 64) : Cl (k + 2) 35 [eF f, .int n] (.int (sg f n)) := ⟨r_sign k f n h⟩
/-- a number or none -/
def eO : Option Int → D
  | none => .non
  | some i => .int i
def sameTo (f : Fo) (n : Int) : Option Int := if f.1 = 0 ∨ 0 < wo f n * f.1 then none else if wo f n ≠ 0 then some (n + ((wo f n).natAbs - 1 : Int) / f.1.natAbs) else some n
theorem absI (i : Int) : (if i < 0 then -i else i) = (i.natAbs : Int) := by split <;> omega
theorem c_same (k : Nat) (f : Fo) (n : Int) (h : f.1.natAbs < 2 ^ 60) : Cl (k + 2) 59 [eF f, .int n] (eO (sameTo f n)) := cl_of (fd := f59) rfl rfl fun s => by
  have c1 := c_worth k f n (by omega)
  refine tset (d := .int (wo f n)) (by trivial) rfl ?_
  have m1 : opM .mul (.int (wo f n)) (.int f.1) s = .ok (.int (wo f n * f.1)) s := opM_mul (.inr (by omega)) s
  have ht : ∀ env, vget env[0]? = some (eF f) → vget env[2]? = some (.int (wo f n)) → Ea (RN (k + 1)) subT (.or (.cmp .eq (.ix (.v 0) (.c (.int 0))) (.c (.int 0))) (.cmp .gt (.bin .mul (.v 2) (.ix (.v 0) (.c (.int 0)))) (.c (.int 0)))) env s (.bl (f.1 == 0 || decide (0 < wo f n * f.1))) s := fun env h0 h2 =>
    aor (acmp (aix (av h0) ac rfl) ac rfl) fun _ => acmp (abin (av h2) (aix (av h0) ac rfl) m1) ac rfl
  by_cases hq : f.1 = 0 ∨ 0 < wo f n * f.1
  · have e : sameTo f n = none := by unfold sameTo; rw [if_pos hq]
    rw [e]
    refine tif (c := f.1 == 0 || decide (0 < wo f n * f.1)) (q := .ok (.rt .non) s) (ht _ rfl rfl) (fun _ => trt ac) (fun hh => ?_) rfl
    exfalso; simp at hh; rcases hq with h1 | h1 <;> omega
  · have e : sameTo f n = some (if wo f n ≠ 0 then n + ((wo f n).natAbs - 1 : Int) / f.1.natAbs else n) := by unfold sameTo; rw [if_neg hq]; split <;> rfl
    rw [e]
    refine tif (c := f.1 == 0 || decide (0 < wo f n * f.1)) (q := .ok (.nx _) s) (ht _ rfl rfl) (fun hh => ?_) (fun hh => tnil) ?_
    · exfalso; simp at hh; exact hq hh
    · refine (trt ?_ : Sa _ _ _ _ _ _ _).go
      have e3 : eO (some (if wo f n ≠ 0 then n + ((wo f n).natAbs - 1 : Int) / f.1.natAbs else n)) = if (!(wo f n == 0)) = true then .int (n + ((wo f n).natAbs - 1 : Int) / f.1.natAbs) else .int n := by
        show D.int _ = _
        by_cases h1 : wo f n = 0 <;> simp [h1]
      rw [e3]
      refine aif (acmp (av rfl) ac rfl) (fun h0 => ?_) fun _ => av rfl
      have hne : f.1 ≠ 0 := fun h => hq (.inl h)
      refine abin (z := .int (n + ((wo f n).natAbs - 1 : Int) / f.1.natAbs)) (av rfl) (abin (x := .int ((wo f n).natAbs - 1 : Int)) (y := .int (f.1.natAbs : Nat)) (z := .int (((wo f n).natAbs - 1 : Int) / f.1.natAbs)) (abin (x := .int (wo f n).natAbs) (abi (bcons (av rfl) bnil) ?_) ac rfl) (abi (bcons (aix (av rfl) ac rfl) bnil) ?_) ?_) rfl
      · show lft (some (D.int (if wo f n < 0 then -wo f n else wo f n))) _ = _
        rw [absI]; rfl
      · show lft (some (D.int (if f.1 < 0 then -f.1 else f.1))) _ = _
        rw [absI]; rfl
      · show lft (if 0 < (f.1.natAbs : Int) ∧ (f.1.natAbs : Int).natAbs < 2 ^ 200 then some (D.int (((wo f n).natAbs - 1 : Int) / f.1.natAbs)) else none) s = _
        rw [if_pos ⟨by omega, by omega⟩]; rfl
end AB

set_option Elab.async false
set_option linter.all false
set_option autoImplicit false
set_option maxRecDepth 100000
set_option maxHeartbeats 4000000
/-! MirN: until, joined; equality of encoded data; while. -/
namespace AB
open PySem
local macro_rules | `(tactic| trivial) => `(tactic| (intro _; trivial))
local macro_rules | `(tactic| trivial) => `(tactic| (apply aisi; trivial; exact rfl))
local macro_rules | `(tactic| trivial) => `(tactic| (apply abi; trivial; first | exact rfl | assumption))
local macro_rules | `(tactic| trivial) => `(tactic| (apply asll; trivial; trivial; first | exact rfl | assumption))
local macro_rules | `(tactic| trivial) => `(tactic| (apply aslh; trivial; trivial; first | exact rfl | assumption))
local macro_rules | `(tactic| trivial) => `(tactic| (apply achn; trivial; trivial; exact rfl; trivial; (intro _; exact rfl)))
local macro_rules | `(tactic| trivial) => `(tactic| (apply aif; trivial; trivial; trivial))
local macro_rules | `(tactic| trivial) => `(tactic| (apply aor; trivial; trivial))
local macro_rules | `(tactic| trivial) => `(tactic| (apply aand; trivial; trivial))
local macro_rules | `(tactic| trivial) => `(tactic| (apply ant; trivial))
local macro_rules | `(tactic| trivial) => `(tactic| (apply aneg; trivial))
local macro_rules | `(tactic| trivial) => `(tactic| (apply acmp; trivial; trivial; first | exact rfl | assumption))
local macro_rules | `(tactic| trivial) => `(tactic| (apply aix; trivial; trivial; first | exact rfl | assumption))
local macro_rules | `(tactic| trivial) => `(tactic| (apply abin; trivial; trivial; first | exact rfl | assumption))
local macro_rules | `(tactic| trivial) => `(tactic| (apply atup; trivial))
local macro_rules | `(tactic| trivial) => `(tactic| (apply alst; trivial))
local macro_rules | `(tactic| trivial) => `(tactic| (apply acall; trivial; trivial))
local macro_rules | `(tactic| trivial) => `(tactic| (apply bcons; trivial; trivial))
local macro_rules | `(tactic| trivial) => `(tactic| exact bnil)
local macro_rules | `(tactic| trivial) => `(tactic| exact av rfl)
local macro_rules | `(tactic| trivial) => `(tactic| exact ac)
local macro_rules | `(tactic| trivial) => `(tactic| assumption)
local macro_rules | `(tactic| trivial) => `(tactic| exact c_less _ _ _ _ _)
local macro_rules | `(tactic| trivial) => `(tactic| exact c_added _ _ _ _ _)
/-- data whose equality is that of what they tell -/
structure EqE {α : Type} [DecidableEq α] (e : α → D) (n : Nat) : Prop where
  pl : ∀ a, (e a).pl = true
  dep : ∀ a, (e a).dep ≤ n
  eqb : ∀ a b, (e a).eqb (e b) = decide (a = b)
theorem drf_pl {d : D} (h : d.pl = true) (st : Store) : drf st d = d := by
  cases d <;> first | rfl | cases h
theorem drl_pl {d : D} (h : d.pl = true) (st : Store) : drl st d = d := by
  cases d <;> first | rfl | cases h
theorem pls_map {α : Type} {e : α → D} (h : ∀ a, (e a).pl = true) : ∀ l : List α, D.pls (l.map e) = true
  | [] => rfl
  | a :: l => by simp only [List.map_cons, D.pls, h a, pls_map h l, Bool.and_self]
section
variable {α β : Type} [DecidableEq α] [DecidableEq β] {e : α → D} {e2 : β → D} {n m : Nat}
theorem EqE.eqP (h : EqE e n) (hn : n ≤ 60) (a b : α) : AB.eqP (e a) (e b) = some (decide (a = b)) := by
  unfold AB.eqP
  rw [h.pl, h.pl, h.eqb, decide_eq_true (Nat.le_trans (h.dep b) hn)]
  rfl
theorem EqE.co_eq (h : EqE e n) (hn : n ≤ 60) (a b : α) (st : Store) : coM .eq (e a) (e b) st = .ok (.bl (decide (a = b))) st := by
  show lft ((AB.eqP (drf st (e a)) (drf st (e b))).map D.bl) st = _
  rw [drf_pl (h.pl a), drf_pl (h.pl b), h.eqP hn]; rfl
theorem EqE.co_ne (h : EqE e n) (hn : n ≤ 60) (a b : α) (st : Store) : coM .ne (e a) (e b) st = .ok (.bl (!decide (a = b))) st := by
  show lft (((AB.eqP (drf st (e a)) (drf st (e b))).map (!·)).map D.bl) st = _
  rw [drf_pl (h.pl a), drf_pl (h.pl b), h.eqP hn]; rfl
theorem EqE.mono (h : EqE e n) (hm : n ≤ m) : EqE e m := ⟨h.pl, fun a => Nat.le_trans (h.dep a) hm, h.eqb⟩
theorem deps_map (h : ∀ a, (e a).dep ≤ n) : ∀ l : List α, D.deps (l.map e) ≤ n
  | [] => Nat.zero_le _
  | a :: l => by
    simp only [List.map_cons, D.deps]
    have := h a
    have := deps_map h l
    omega
theorem eqbs_map (h : ∀ a b, (e a).eqb (e b) = decide (a = b)) : ∀ l k : List α, D.eqbs (l.map e) (k.map e) = decide (l = k)
  | [], [] => rfl
  | [], b :: k => by simp [D.eqbs]
  | a :: l, [] => by simp [D.eqbs]
  | a :: l, b :: k => by
    simp only [List.map_cons, D.eqbs, h a b, eqbs_map h l k]
    by_cases h1 : a = b <;> by_cases h2 : l = k <;> simp [h1, h2]
theorem EqE.tupL (h : EqE e n) : EqE (fun l : List α => D.tup (l.map e)) (n + 1) := ⟨fun l => pls_map h.pl l, fun l => by have := deps_map h.dep l; simp only [D.dep]; omega, fun a b => eqbs_map h.eqb a b⟩
theorem EqE.lstL (h : EqE e n) : EqE (fun l : List α => D.lst (l.map e)) (n + 1) := ⟨fun l => pls_map h.pl l, fun l => by have := deps_map h.dep l; simp only [D.dep]; omega, fun a b => eqbs_map h.eqb a b⟩
theorem EqE.pair (h : EqE e n) (h2 : EqE e2 n) : EqE (fun p : α × β => D.tup [e p.1, e2 p.2]) (n + 1) := ⟨fun p => by simp only [D.pl, D.pls, h.pl, h2.pl]; rfl, fun p => by have := h.dep p.1; have := h2.dep p.2; simp only [D.dep, D.deps]; omega, fun a b => by
  obtain ⟨a1, a2⟩ := a
  obtain ⟨b1, b2⟩ := b
  simp only [D.eqb, D.eqbs, h.eqb, h2.eqb, Prod.mk.injEq]
  by_cases q1 : a1 = b1 <;> by_cases q2 : a2 = b2 <;> simp [q1, q2]⟩
end
theorem eq_int : EqE D.int 0 := ⟨fun _ => rfl, fun _ => Nat.le_refl _, fun a b => by simp only [D.eqb]; by_cases h : a = b <;> simp [h]⟩
theorem eq_nat : EqE (fun i : Nat => D.int (i : Nat)) 0 := ⟨fun _ => rfl, fun _ => Nat.le_refl _, fun a b => by
  simp only [D.eqb]
  by_cases h : a = b
  · subst h; simp
  · have h3 : ((a : Int) == (b : Int)) = false := beq_eq_false_iff_ne.mpr (by omega)
    simp [h, h3]⟩
theorem eq_bool : EqE D.bl 0 := ⟨fun _ => rfl, fun _ => Nat.le_refl _, fun a b => by cases a <;> cases b <;> rfl⟩
theorem eq_fo : EqE eF 1 := by
  have := eq_int.pair eq_int
  exact this
theorem eq_me : EqE eM 2 := by
  have := (eq_nat.mono (Nat.zero_le 1)).pair eq_fo
  exact this
theorem eq_mes : EqE eMs 3 := eq_me.tupL
theorem eq_story : EqE eS 5 := by
  have := eq_mes.tupL.pair (eq_mes.mono (Nat.le_succ 3))
  exact this
theorem eq_optI : EqE eO 0 := ⟨fun a => by cases a <;> rfl, fun a => by cases a <;> exact Nat.le_refl _, fun a b => by
  cases a <;> cases b <;> simp only [eO, D.eqb] <;> first | rfl | skip
  rename_i x y
  by_cases h : x = y <;> simp [h]⟩
theorem vg {d : D} (h : d.pl = true) : vget (some (some d)) = some d := by
  cases d <;> first | rfl | cases h
theorem pl_eO (a : Option Int) : (eO a).pl = true := by cases a <;> rfl
/-- a list is empty, or not -/
theorem ne_nil {xs : List D} (h : D.pls xs = true) (st : Store) : coM .ne (.lst xs) (.lst []) st = .ok (.bl (!xs.isEmpty)) st := by
  show lft (((AB.eqP (.lst xs) (.lst [])).map (!·)).map D.bl) st = _
  have e : AB.eqP (.lst xs) (.lst []) = some xs.isEmpty := by
    unfold AB.eqP
    rw [if_pos]
    · cases xs <;> rfl
    · show (D.pls xs && true && decide (1 ≤ 60)) = true
      rw [h]; rfl
  rw [e]; rfl
/-! ### until -/
def untl (fs : List Fo) (n : Int) : Option Int := minI (fs.filterMap fun f => sameTo f n)
theorem intL_map : ∀ l : List Int, intL (l.map D.int) = some l
  | [] => rfl
  | a :: l => by simp [intL, intL_map l]
theorem pls_int (l : List Int) : D.pls (l.map D.int) = true := pls_map (e := D.int) (fun _ => rfl) l
theorem opt_filter {α : Type} (g : α → Option Int) : ∀ l : List α, ((l.map g).filter Option.isSome).map eO = (l.filterMap g).map D.int
  | [] => rfl
  | a :: l => by
    have ih := opt_filter g l
    cases h : g a <;> simp [List.filterMap_cons, List.filter_cons, h, ih, eO]
theorem c_until (k : Nat) (fs : List Fo) (n : Int) (hs : ∀ f ∈ fs, f.1.natAbs < 2 ^ 60) (hl : fs.length < szLine) : Cl (k + 3) 61 [.lst (fs.map eF), .int n] (eO (untl fs n)) := cl_of (fd := f61) rfl rfl fun s => by
  refine tset (d := .lst (fs.map fun f => eO (sameTo f n))) (acompA (enc := eF) fs (fun f => eO (sameTo f n)) (iov (av rfl) rfl) rfl (fun f hf => ⟨_, rfl, by have c := c_same k f n (hs f hf); trivial⟩) hl) rfl ?_
  refine tset (s1 := s) (d := .lst ((fs.filterMap fun f => sameTo f n).map D.int)) ?_ rfl ?_
  · rw [← opt_filter]
    refine acomp (enc := eO) (fs.map fun f => sameTo f n) Option.isSome eO (iov (av rfl) rfl) (by rw [List.map_map]; rfl) (fun a _ => ⟨_, rfl, ?_, fun h => ?_⟩) (by rw [List.length_map]; exact hl)
    · refine acmp (av (vg (pl_eO a))) ac ?_
      cases a <;> rfl
    · refine abi (bcons (av (vg (pl_eO a))) bnil) ?_
      cases a with
      | none => cases h
      | some i => rfl
  · refine trt ?_
    have e : eO (untl fs n) = if (!((fs.filterMap fun f => sameTo f n).map D.int).isEmpty) = true then eO (untl fs n) else .non := by
      unfold untl
      cases fs.filterMap fun f => sameTo f n <;> rfl
    rw [e]
    refine aif (acmp (av rfl) (alst bnil) (ne_nil (pls_int _) s)) (fun h => abi (bcons (av rfl) bnil) ?_) fun _ => ac
    show lft ((intL ((fs.filterMap fun f => sameTo f n).map D.int)).bind fun ns => (minI ns).map D.int) s = _
    rw [intL_map]
    show lft ((minI (fs.filterMap fun f => sameTo f n)).map D.int) s = _
    unfold untl
    cases q : fs.filterMap fun f => sameTo f n with
    | nil => rw [q] at h; cases h
    | cons a l =>
      cases q2 : minI (a :: l) with
      | none =>
        exfalso
        revert q2
        clear q h e
        induction l generalizing a with
        | nil => intro h; cases h
        | cons b l ih =>
          intro h
          simp only [minI] at h
          cases q3 : minI (b :: l) with
          | none => exact ih b q3
          | some m => rw [q3] at h; cases h
      | some m => rfl
/-! ### joined -/
abbrev Rw (τ : Type) := Int × Option Int × τ
def eRw {τ : Type} (e : τ → D) (r : Rw τ) : D := .tup [.int r.1, eO r.2.1, e r.2.2]
def joinS {τ : Type} [DecidableEq τ] (acc : List (Rw τ)) (r : Rw τ) : List (Rw τ) := match acc.getLast? with
  | some q => if q.2.2 = r.2.2 then acc.dropLast ++ [(q.1, r.2.1, r.2.2)] else acc ++ [r]
  | none => acc ++ [r]
def joinR {τ : Type} [DecidableEq τ] (rows : List (Rw τ)) : List (Rw τ) := rows.foldl joinS []
theorem joinS_len {τ : Type} [DecidableEq τ] (acc : List (Rw τ)) (r : Rw τ) : (joinS acc r).length ≤ acc.length + 1 := by
  unfold joinS
  split
  · split
    · simp
    · simp
  · simp
theorem pl_eRw {τ : Type} {e : τ → D} (h : ∀ a, (e a).pl = true) (r : Rw τ) : (eRw e r).pl = true := by
  simp only [eRw, D.pl, D.pls, pl_eO, h]; rfl
theorem sl_but {xs : List D} (h : xs ≠ []) (st : Store) : slM (.lst xs) none (some (-1)) st = .ok (.lst xs.dropLast) st := by
  have hl : 0 < xs.length := List.length_pos_iff.mpr h
  show lft (some (D.lst (cutD xs none (some (-1))))) st = _
  have e : cutD xs none (some (-1)) = xs.dropLast := by
    unfold cutD
    rw [HT.sIx_none, List.dropLast_eq_take]
    have : HT.sIx xs.length xs.length (some (-1)) = xs.length - 1 := by
      show (if (-1 : Int) < 0 then ((-1 : Int) + (xs.length : Int)).toNat else min (-1 : Int).toNat xs.length) = _
      rw [if_pos (by decide)]; omega
    rw [this]; simp
  rw [e]; rfl
theorem c_joined {τ : Type} [DecidableEq τ] {e : τ → D} {m : Nat} (he : EqE e m) (hm : m ≤ 60) (k : Nat) (rows : List (Rw τ)) (hl : rows.length < 1000000) : Cl (k + 1) 62 [.lst (rows.map (eRw e))] (.lst ((joinR rows).map (eRw e))) := cl_of (fd := f62) rfl rfl fun s => by
  obtain ⟨env', st', h1, j2, j3, j4, rfl, h3, h4⟩ := forA (enc := eRw e) (f := fun x env1 => match asg (.t (.cons (.n 2) (.cons (.n 3) (.cons (.n 4) .nil)))) x env1 with
    | some env2 => evSs (RN k) subT 100000 (.cons (.iff (.and (.cmp .ne (.v 1) (.lst .nil)) (.cmp .eq (.ix (.ix (.v 1) (.neg (.c (.int 1)))) (.c (.int 2))) (.v 4))) (.cons (.set 0 (.n 1) (.bin .add (.slh (.v 1) (.neg (.c (.int 1)))) (.lst (.cons (.tup (.cons (.ix (.ix (.v 1) (.neg (.c (.int 1)))) (.c (.int 0))) (.cons (.v 3) (.cons (.v 4) .nil)))) .nil)))) .nil) (.cons (.set 0 (.n 1) (.bin .add (.v 1) (.lst (.cons (.tup (.cons (.v 2) (.cons (.v 3) (.cons (.v 4) .nil)))) .nil)))) .nil)) .nil) env2
    | none => nonS) (fun i (acc : List (Rw τ)) env st => ∃ j2 j3 j4, env = [some (.lst (rows.map (eRw e))), some (.lst (acc.map (eRw e))), j2, j3, j4] ∧ acc.length ≤ i ∧ st = s)
    joinS rows 0 [] [some (.lst (rows.map (eRw e))), some (.lst []), none, none, none] s (fun i r hr acc env st R => by
      obtain ⟨j2, j3, j4, rfl, hacc, rfl⟩ := R
      have hi := (List.getElem?_eq_some_iff.mp hr).1
      refine ⟨[some (.lst (rows.map (eRw e))), some (.lst ((joinS acc r).map (eRw e))), some (.int r.1), some (eO r.2.1), some (e r.2.2)], st, ?_, _, _, _, rfl, by have := joinS_len acc r; omega, rfl⟩
      refine (Sa.go (r := .ok (.nx _) st) ?_)
      by_cases hne : acc = []
      · subst hne
        refine tifn (c := false) (aand (p := false) (q := false) (acmp (av rfl) (alst bnil) rfl) (fun h => by cases h)) (fun h => by cases h) (fun _ => tset (d := .lst [eRw e r]) (abin (x := .lst []) (y := .lst [eRw e r]) (av rfl) (alst (bcons (atup (bcons (av rfl) (bcons (av (vg (pl_eO r.2.1))) (bcons (av (vg (he.pl r.2.2))) bnil)))) bnil)) rfl) rfl tnil) tnil
      · obtain ⟨q, hq⟩ : ∃ q, acc.getLast? = some q := ⟨_, List.getLast?_eq_some_getLast hne⟩
        have hx : ixM (.lst (acc.map (eRw e))) (.int (-1)) st = .ok (eRw e q) st := by
          show lft (L2.atI (acc.map (eRw e)) (-1)) st = _
          rw [atI_last _ (by simpa using hne), List.getLast?_map, hq]; rfl
        have hn := ne_nil (pls_map (e := eRw e) (pl_eRw he.pl) acc) st
        have hE : (acc.map (eRw e)).isEmpty = false := by cases acc with
          | nil => exact absurd rfl hne
          | cons a l => rfl
        rw [hE] at hn
        refine tifn (c := decide (q.2.2 = r.2.2)) (aand (p := true) (q := decide (q.2.2 = r.2.2)) (acmp (av rfl) (alst bnil) hn) (fun _ => acmp (aix (aix (av rfl) (aneg ac) hx) ac rfl) (av (vg (he.pl r.2.2))) (he.co_eq hm _ _ st))) (fun h => ?_) (fun h => ?_) tnil
        · have h := of_decide_eq_true h
          have ej : joinS acc r = acc.dropLast ++ [(q.1, r.2.1, r.2.2)] := by
            unfold joinS; rw [hq]; simp only []; rw [if_pos h]
          rw [ej]
          refine tset (d := .lst ((acc.dropLast ++ [(q.1, r.2.1, r.2.2)]).map (eRw e))) (abin (x := .lst ((acc.map (eRw e)).dropLast)) (y := .lst [eRw e (q.1, r.2.1, r.2.2)]) (aslh (av rfl) (aneg ac) (sl_but (by simpa using hne) st)) (alst (bcons (atup (bcons (aix (aix (av rfl) (aneg ac) hx) ac rfl) (bcons (av (vg (pl_eO r.2.1))) (bcons (av (vg (he.pl r.2.2))) bnil)))) bnil)) ?_) rfl tnil
          rw [List.map_append, List.map_dropLast]
          refine lst_add ?_ st
          simp only [List.length_dropLast, List.length_map, List.length_singleton]; unfold szLine; omega
        · have h := of_decide_eq_false h
          have ej : joinS acc r = acc ++ [r] := by
            unfold joinS; rw [hq]; simp only []; rw [if_neg h]
          rw [ej]
          refine tset (d := .lst ((acc ++ [r]).map (eRw e))) (abin (x := .lst (acc.map (eRw e))) (y := .lst [eRw e r]) (av rfl) (alst (bcons (atup (bcons (av rfl) (bcons (av (vg (pl_eO r.2.1))) (bcons (av (vg (he.pl r.2.2))) bnil)))) bnil)) ?_) rfl tnil
          rw [List.map_append]
          refine lst_add ?_ st
          simp only [List.length_map, List.length_singleton]; unfold szLine; omega) ⟨none, none, none, rfl, by simp, rfl⟩
  subst h4
  exact tset (alst bnil) rfl (tfor (iov (av rfl) rfl) h1 (trt (av rfl)))
/-! ### while -/
theorem whlA {α : Type} {c : Env → M D} {f : Env → MS} (N : Nat) (R : Nat → α → Env → Store → Prop) (stop : α → Bool) (step : α → α)
    (hc : ∀ i a env st, R i a env st → c env st = .ok (.bl (!stop a)) st) (hs : ∀ i a env st, i < N → R i a env st → stop a = false → ∃ env' st', f env st = .ok (.nx env') st' ∧ R (i + 1) (step a) env' st') :
    ∀ (m W i : Nat) (a : α) (env : Env) (st : Store), m < W → i + m ≤ N → stop (Nat.repeat step m a) = true → (∀ j, j < m → stop (Nat.repeat step j a) = false) → R i a env st → ∃ env' st', whlS c f W env st = .ok (.nx env') st' ∧ R (i + m) (Nat.repeat step m a) env' st'
  | m, 0, i, a, env, st, h, _, _, _, _ => by omega
  | 0, W + 1, i, a, env, st, _, _, h1, _, r => by
    refine ⟨env, st, ?_, r⟩
    have e : (bnd (c env) fun x => lft (truth x)) st = .ok false st := by
      rw [bnd_of (hc i a env st r), show stop a = true from h1]; rfl
    unfold whlS onE
    rw [e]; rfl
  | m + 1, W + 1, i, a, env, st, hm, hN, h1, h2, r => by
    have h0 : stop a = false := h2 0 (by omega)
    obtain ⟨env1, st1, e1, r1⟩ := hs i a env st (by omega) r h0
    have rep : ∀ j, Nat.repeat step (j + 1) a = Nat.repeat step j (step a) := fun j => by
      induction j with
      | zero => rfl
      | succ j ih => exact congrArg step ih
    obtain ⟨env2, st2, e2, r2⟩ := whlA N R stop step hc hs m W (i + 1) (step a) env1 st1 (by omega) (by omega) (by rw [← rep]; exact h1) (fun j hj => by rw [← rep]; exact h2 (j + 1) (by omega)) r1
    refine ⟨env2, st2, ?_, by rw [rep, show i + (m + 1) = i + 1 + m by omega]; exact r2⟩
    have e : (bnd (c env) fun x => lft (truth x)) st = .ok true st := by
      rw [bnd_of (hc i a env st r), h0]; rfl
    unfold whlS onE
    rw [e]
    simp only [if_true]
    rw [e1]
    exact e2
theorem twhl {C : Nat → List D → M D} {sub : Nat → Nat → Bool} {W : Nat} {env env' : Env} {s s2 : Store} {t : E} {b ss : Ss} {r : RS} (h : whlS (ev C sub t) (evSs C sub W b) W env s = .ok (.nx env') s2) (k : Sa C sub W ss env' s2 r) : Sa C sub W (.cons (.whl t b) ss) env s r := ⟨by
  show thenS (whlS (ev C sub t) (evSs C sub W b) W env) (fun env' => evSs C sub W ss env') s = _
  unfold thenS; rw [h]; exact k.go⟩
end AB

set_option Elab.async false
set_option linter.all false
set_option autoImplicit false
set_option maxRecDepth 100000
set_option maxHeartbeats 4000000
/-! MirO: all_tests, all_stories. -/
namespace AB
open PySem
local macro_rules | `(tactic| trivial) => `(tactic| (intro _; trivial))
local macro_rules | `(tactic| trivial) => `(tactic| (apply aisi; trivial; exact rfl))
local macro_rules | `(tactic| trivial) => `(tactic| (apply abi; trivial; first | exact rfl | assumption))
local macro_rules | `(tactic| trivial) => `(tactic| (apply asll; trivial; trivial; first | exact rfl | assumption))
local macro_rules | `(tactic| trivial) => `(tactic| (apply aslh; trivial; trivial; first | exact rfl | assumption))
local macro_rules | `(tactic| trivial) => `(tactic| (apply achn; trivial; trivial; exact rfl; trivial; (intro _; exact rfl)))
local macro_rules | `(tactic| trivial) => `(tactic| (apply aif; trivial; trivial; trivial))
local macro_rules | `(tactic| trivial) => `(tactic| (apply aor; trivial; trivial))
local macro_rules | `(tactic| trivial) => `(tactic| (apply aand; trivial; trivial))
local macro_rules | `(tactic| trivial) => `(tactic| (apply ant; trivial))
local macro_rules | `(tactic| trivial) => `(tactic| (apply aneg; trivial))
local macro_rules | `(tactic| trivial) => `(tactic| (apply acmp; trivial; trivial; first | exact rfl | assumption))
local macro_rules | `(tactic| trivial) => `(tactic| (apply aix; trivial; trivial; first | exact rfl | assumption))
local macro_rules | `(tactic| trivial) => `(tactic| (apply abin; trivial; trivial; first | exact rfl | assumption))
local macro_rules | `(tactic| trivial) => `(tactic| (apply atup; trivial))
local macro_rules | `(tactic| trivial) => `(tactic| (apply alst; trivial))
local macro_rules | `(tactic| trivial) => `(tactic| (apply acall; trivial; trivial))
local macro_rules | `(tactic| trivial) => `(tactic| (apply bcons; trivial; trivial))
local macro_rules | `(tactic| trivial) => `(tactic| exact bnil)
local macro_rules | `(tactic| trivial) => `(tactic| exact av rfl)
local macro_rules | `(tactic| trivial) => `(tactic| exact ac)
local macro_rules | `(tactic| trivial) => `(tactic| assumption)
local macro_rules | `(tactic| trivial) => `(tactic| exact c_less _ _ _ _ _)
local macro_rules | `(tactic| trivial) => `(tactic| exact c_added _ _ _ _ _)
theorem c_comings (k : Nat) (b : Be) (ps : List Pt) (F : Fit b ps) : Cl (k + 5) 41 [eB b, .tup (ps.map eT)] (.lst ((cms b ps).map eC)) := ⟨fun st => by rw [r_comings k b ps F st, comings_eq]⟩
theorem c_story (k : Nat) (b : Be) (ps : List Pt) (F : Fit b ps) (h1 : 1 ≤ b.gs.length) (n : Int) (hn : 0 < n) : Cl (k + 7) 45 [eB b, .tup (ps.map eT), .int n] (eS (story b ps n)) := ⟨r_story k b ps F h1 n hn⟩
def pairF (l : List Fo) : List Fo := l.flatMap fun x => l.map fun y => minus x y
def ownF (b : Be) (ps : List Pt) (i : Nat) : List Fo := ((cms b ps).filter fun c => (c.2.1 : Int) == (i : Int)).map (·.1)
def ownT (b : Be) (ps : List Pt) (g : Gu × Nat) : List Fo := (ownF b ps g.2).flatMap fun x => (ownF b ps g.2).map fun y => minus (minus x y) (0, g.1.pause)
def tests0 (b : Be) (ps : List Pt) : List Fo := (pairF ((cms b ps).map (·.1))) ++ (b.gs.zipIdx 0).flatMap (ownT b ps)
def addF (ks : List Fo) (f : Fo) : List Fo := if f ∈ ks then ks else ks ++ [f]
def tests (b : Be) (ps : List Pt) : List Fo := ((tests0 b ps).filter fun f => !(f.1 == 0)).foldl addF []
theorem mem_fold_addF : ∀ (l ks : List Fo) (f : Fo), f ∈ l.foldl addF ks ↔ f ∈ ks ∨ f ∈ l
  | [], ks, f => by simp
  | a :: l, ks, f => by
    simp only [List.foldl_cons, mem_fold_addF l, List.mem_cons]
    unfold addF
    split
    · rename_i h
      constructor
      · rintro (h1 | h1)
        · exact .inl h1
        · exact .inr (.inr h1)
      · rintro (h1 | h1 | h1)
        · exact .inl h1
        · subst h1; exact .inl h
        · exact .inr h1
    · simp only [List.mem_append, List.mem_singleton]
      constructor
      · rintro ((h1 | h1) | h1)
        · exact .inl h1
        · exact .inr (.inl h1)
        · exact .inr (.inr h1)
      · rintro (h1 | h1 | h1)
        · exact .inl (.inl h1)
        · exact .inl (.inr h1)
        · exact .inr h1
theorem mem_tests {b : Be} {ps : List Pt} {f : Fo} : f ∈ tests b ps ↔ f ∈ tests0 b ps ∧ f.1 ≠ 0 := by
  unfold tests
  rw [mem_fold_addF]
  simp
theorem fold_addF_len : ∀ (l ks : List Fo), (l.foldl addF ks).length ≤ ks.length + l.length
  | [], ks => by simp
  | a :: l, ks => by
    have := fold_addF_len l (addF ks a)
    have h2 : (addF ks a).length ≤ ks.length + 1 := by unfold addF; split <;> simp
    simp only [List.foldl_cons, List.length_cons]
    omega
theorem ownF_len (b : Be) (ps : List Pt) (F : Fit b ps) (i : Nat) : (ownF b ps i).length ≤ 32 := by
  unfold ownF
  rw [List.length_map]
  exact Nat.le_trans (List.length_filter_le _ _) (cms_len b ps F)
theorem ownT_len (b : Be) (ps : List Pt) (F : Fit b ps) (g : Gu × Nat) : (ownT b ps g).length ≤ 1024 := by
  have h := ownF_len b ps F g.2
  have := flat_len (fun x => (ownF b ps g.2).map fun y => minus (minus x y) (0, g.1.pause)) 32 (ownF b ps g.2) fun x _ => by rw [List.length_map]; exact h
  unfold ownT
  have h2 : (ownF b ps g.2).length * 32 ≤ 1024 := by omega
  omega
theorem pairF_len {l : List Fo} (h : l.length ≤ 32) : (pairF l).length ≤ 1024 := by
  have := flat_len (fun x => l.map fun y => minus x y) 32 l fun x _ => by rw [List.length_map]; exact h
  unfold pairF
  omega
theorem tests0_len (b : Be) (ps : List Pt) (F : Fit b ps) : (tests0 b ps).length ≤ 3072 := by
  have h1 : (pairF ((cms b ps).map (·.1))).length ≤ 1024 := pairF_len (by rw [List.length_map]; exact cms_len b ps F)
  have h2 := flat_len (ownT b ps) 1024 (b.gs.zipIdx 0) fun g _ => ownT_len b ps F g
  rw [List.length_zipIdx] at h2
  have := F.ng
  unfold tests0
  rw [List.length_append]
  omega
theorem tests_len (b : Be) (ps : List Pt) (F : Fit b ps) : (tests b ps).length ≤ 3072 := by
  have := fold_addF_len ((tests0 b ps).filter fun f => !(f.1 == 0)) []
  have h2 := List.length_filter_le (fun f : Fo => !(f.1 == 0)) (tests0 b ps)
  have h3 := tests0_len b ps F
  unfold tests
  simp only [List.length_nil] at this
  omega
theorem own_sm (b : Be) (ps : List Pt) (F : Fit b ps) {i : Nat} {f : Fo} (h : f ∈ ownF b ps i) : f.1.natAbs ≤ 6 := by
  unfold ownF at h
  obtain ⟨c, hc, rfl⟩ := List.mem_map.mp h
  exact (cms_sm b ps F (List.mem_filter.mp hc).1).1
theorem tests0_sm (b : Be) (ps : List Pt) (F : Fit b ps) {f : Fo} (h : f ∈ tests0 b ps) : f.1.natAbs ≤ 12 := by
  unfold tests0 at h
  rcases List.mem_append.mp h with h | h
  · unfold pairF at h
    obtain ⟨x, hx, h⟩ := List.mem_flatMap.mp h
    obtain ⟨y, hy, rfl⟩ := List.mem_map.mp h
    obtain ⟨c, hc, rfl⟩ := List.mem_map.mp hx
    obtain ⟨d, hd, rfl⟩ := List.mem_map.mp hy
    have := (cms_sm b ps F hc).1
    have := (cms_sm b ps F hd).1
    simp only [minus]
    omega
  · obtain ⟨g, _, h⟩ := List.mem_flatMap.mp h
    unfold ownT at h
    obtain ⟨x, hx, h⟩ := List.mem_flatMap.mp h
    obtain ⟨y, hy, rfl⟩ := List.mem_map.mp h
    have := own_sm b ps F hx
    have := own_sm b ps F hy
    simp only [minus]
    omega
theorem keys_comp {C : Nat → List D → M D} {sub : Nat → Nat → Bool} {elt cond : E} {tg : T} {it : I} {own : List Nat} {env : Env} {s s1 : Store} {ys ks : List D} (h : Ea C sub (.comp elt tg it cond own) env s (.lst ys) s1) (hk : keysP ys = some ks) : Ea C sub (.keys elt tg it cond own) env s (.lst ks) s1 := ⟨by
  have e : ∀ (A : M (List D)) (B : List D → M (List D)) (Z : List D → M (List D)) s, (bnd A fun xs => bnd (B xs) fun ys => bnd (Z ys) fun ys => bnd (lft (keysP ys)) fun ks => ret (D.lst ks)) s = bnd (bnd A fun xs => bnd (B xs) fun ys => bnd (Z ys) fun ys => ret (D.lst ys)) (fun d => match d with
    | .lst ys => bnd (lft (keysP ys)) fun ks => ret (D.lst ks)
    | _ => non) s := by
    intro A B Z s
    unfold bnd
    cases A s with
    | ok xs t =>
      simp only []
      cases B xs t with
      | ok ys t =>
        simp only []
        cases Z ys t <;> rfl
      | ex e t => rfl
      | no => rfl
    | ex e t => rfl
    | no => rfl
  have h2 := h.go
  show (bnd (its C sub it env) fun xs => bnd (noex (compL (fun x => match asg tg x (wipeE env own) with
      | some env' => bnd (ev C sub cond env') fun t => bnd (lft (truth t)) fun b => if b then bnd (ev C sub elt env') fun y => ret (some y) else ret none
      | none => non) xs)) fun ys => bnd (sizeOk ys) fun ys => bnd (lft (keysP ys)) fun ks => ret (D.lst ks)) s = _
  rw [e]
  refine (bnd_of h2).trans ?_
  show bnd (lft (keysP ys)) _ s1 = _
  rw [hk]; rfl⟩
theorem keysP_F (l : List Fo) : keysP (l.map eF) = some ((l.foldl addF []).map eF) := by
  have h1 : ((l.map eF).all keyOk) = true := by
    simp only [List.all_eq_true, List.mem_map]
    rintro x ⟨f, _, rfl⟩
    rfl
  have h2 : ∀ (l ks : List Fo), (l.map eF).foldl (fun ks k => addKey k ks) (ks.map eF) = (l.foldl addF ks).map eF := by
    intro l
    induction l with
    | nil => intro ks; rfl
    | cons a l ih =>
      intro ks
      simp only [List.map_cons, List.foldl_cons]
      rw [← ih]
      congr 1
      unfold addKey addF
      have e : (ks.map eF).any (D.eqb (eF a)) = decide (a ∈ ks) := by
        rw [List.any_map]
        have : (D.eqb (eF a) ∘ eF) = fun b => decide (a = b) := funext fun b => eq_fo.eqb a b
        rw [this]
        by_cases h : a ∈ ks
        · rw [decide_eq_true h, List.any_eq_true]
          exact ⟨a, h, by simp⟩
        · rw [decide_eq_false h, List.any_eq_false]
          intro b hb
          simp only [decide_eq_true_eq]
          intro h2; subst h2; exact h hb
      rw [e]
      by_cases h : a ∈ ks <;> simp [h]
  unfold keysP
  rw [if_pos h1]
  exact congrArg some (h2 l [])
theorem c_tests (k : Nat) (b : Be) (ps : List Pt) (F : Fit b ps) : Cl (k + 6) 60 [eB b, .tup (ps.map eT)] (.lst ((tests b ps).map eF)) := cl_of (fd := f60) rfl rfl fun s => by
  have c1 := c_comings k b ps F
  have hlen := cms_len b ps F
  have hz : szLine = 16777216 := rfl
  have tl := tests0_len b ps F
  refine tset (s1 := s) (d := .lst ((cms b ps).map eC)) (by trivial) rfl ?_
  refine tset (s1 := s) (d := .lst ((pairF ((cms b ps).map (·.1))).map eF)) ?_ rfl ?_
  · have P := acomp2A (C := RN (k + 5)) (sub := subT) (env := (((eB b :: [D.tup (ps.map eT)]).map some ++ List.replicate 9 none).set 2 (some (.lst ((cms b ps).map eC))))) (s := s) (s1 := s) (enc := eC) (enc1 := eC) (elt := .call 34 (.cons (.ix (.v 7) (.c (.int 0))) (.cons (.ix (.v 8) (.c (.int 0))) .nil))) (tg := .n 7) (it := .ov (.v 2)) (tg1 := .n 8) (it1 := .ov (.v 2)) (own := [7, 8]) (own1 := [8]) (cms b ps) (fun _ => cms b ps) (fun x y => eF (minus x.1 y.1)) (iov (av rfl) rfl) rfl
      (fun x _ => ⟨_, rfl, iov (av rfl) rfl, fun y _ => ⟨_, rfl, by trivial⟩⟩) (by
        have := flat_len (fun x => (cms b ps).map fun y => eF (minus x.1 y.1)) 32 (cms b ps) fun x _ => by rw [List.length_map]; exact hlen
        omega)
    have e : (pairF ((cms b ps).map (·.1))).map eF = (cms b ps).flatMap fun x => (cms b ps).map fun y => eF (minus x.1 y.1) := by
      unfold pairF
      rw [List.flatMap_map, List.map_flatMap]
      congr 1
      funext x
      simp [List.map_map, Function.comp_def]
    rw [e]
    exact P
  · obtain ⟨env', st', h1, j4, j5, j6, j7, j8, j9, j10, rfl, h3, h4⟩ := forA (enc := fun p : Gu × Nat => D.tup [.int (p.2 : Nat), eG p.1]) (f := fun x env1 => match asg (.t (.cons (.n 4) (.cons (.n 5) .nil))) x env1 with
      | some env2 => evSs (RN (k + 5)) subT 100000 (.cons (.set 0 (.n 6) (.comp (.v 9) (.t (.cons (.n 9) (.cons (.n 8) (.cons (.n 10) .nil)))) (.ov (.v 2)) (.cmp .eq (.v 8) (.v 4)) [9, 8, 10])) (.cons (.set 0 (.n 3) (.bin .add (.v 3) (.comp2 (.call 34 (.cons (.call 34 (.cons (.v 7) (.cons (.v 8) .nil))) (.cons (.tup (.cons (.c (.int 0)) (.cons (.ix (.v 5) (.c (.int 2))) .nil))) .nil))) (.n 7) (.ov (.v 6)) (.c (.bl true)) (.n 8) (.ov (.v 6)) (.c (.bl true)) [7, 8] [8]))) .nil)) env2
      | none => nonS) (fun i (acc : List Fo) env st => ∃ j4 j5 j6 j7 j8 j9 j10, env = [some (eB b), some (.tup (ps.map eT)), some (.lst ((cms b ps).map eC)), some (.lst (acc.map eF)), j4, j5, j6, j7, j8, j9, j10] ∧ acc.length ≤ 1024 * (i + 1) ∧ st = s)
      (fun acc g => acc ++ ownT b ps g) (b.gs.zipIdx 0) 0 (pairF ((cms b ps).map (·.1))) [some (eB b), some (.tup (ps.map eT)), some (.lst ((cms b ps).map eC)), some (.lst ((pairF ((cms b ps).map (·.1))).map eF)), none, none, none, none, none, none, none] s (fun i g hg acc env st R => by
        obtain ⟨j4, j5, j6, j7, j8, j9, j10, rfl, hacc, rfl⟩ := R
        have hi := (List.getElem?_eq_some_iff.mp hg).1
        rw [List.length_zipIdx] at hi
        have hng := F.ng
        have ol := ownT_len b ps F g
        have ol2 := ownF_len b ps F g.2
        refine ⟨[some (eB b), some (.tup (ps.map eT)), some (.lst ((cms b ps).map eC)), some (.lst ((acc ++ ownT b ps g).map eF)), some (.int (g.2 : Nat)), some (eG g.1), some (.lst ((ownF b ps g.2).map eF)), j7, j8, j9, j10], st, ?_, _, _, _, _, _, _, _, rfl, by simp only [List.length_append]; omega, rfl⟩
        refine Sa.go (r := .ok (.nx _) st) ?_
        refine tset (s1 := st) (d := .lst ((ownF b ps g.2).map eF)) ?_ rfl (tset (s1 := st) (d := .lst ((acc ++ ownT b ps g).map eF)) ?_ rfl tnil)
        · have P := acomp (C := RN (k + 5)) (sub := subT) (env := [some (eB b), some (.tup (ps.map eT)), some (.lst ((cms b ps).map eC)), some (.lst (acc.map eF)), some (.int (g.2 : Nat)), some (eG g.1), j6, j7, j8, j9, j10]) (s := st) (s1 := st) (enc := eC) (elt := .v 9) (tg := .t (.cons (.n 9) (.cons (.n 8) (.cons (.n 10) .nil)))) (it := .ov (.v 2)) (cond := .cmp .eq (.v 8) (.v 4)) (own := [9, 8, 10]) (cms b ps) (fun c => (c.2.1 : Int) == (g.2 : Int)) (fun c => eF c.1) (iov (av rfl) rfl) rfl
            (fun c _ => ⟨_, rfl, by trivial, fun _ => av rfl⟩) (by omega)
          have e : (ownF b ps g.2).map eF = ((cms b ps).filter fun c => (c.2.1 : Int) == (g.2 : Int)).map fun c => eF c.1 := by unfold ownF; rw [List.map_map]; rfl
          rw [e]
          exact P
        · have P := acomp2A (C := RN (k + 5)) (sub := subT) (env := [some (eB b), some (.tup (ps.map eT)), some (.lst ((cms b ps).map eC)), some (.lst (acc.map eF)), some (.int (g.2 : Nat)), some (eG g.1), some (.lst ((ownF b ps g.2).map eF)), j7, j8, j9, j10]) (s := st) (s1 := st) (enc := eF) (enc1 := eF) (elt := .call 34 (.cons (.call 34 (.cons (.v 7) (.cons (.v 8) .nil))) (.cons (.tup (.cons (.c (.int 0)) (.cons (.ix (.v 5) (.c (.int 2))) .nil))) .nil))) (tg := .n 7) (it := .ov (.v 6)) (tg1 := .n 8) (it1 := .ov (.v 6)) (own := [7, 8]) (own1 := [8]) (ownF b ps g.2) (fun _ => ownF b ps g.2) (fun x y => eF (minus (minus x y) (0, g.1.pause))) (iov (av rfl) rfl) rfl
            (fun x _ => ⟨_, rfl, iov (av rfl) rfl, fun y _ => ⟨_, rfl, by trivial⟩⟩) (by
              have := flat_len (fun x => (ownF b ps g.2).map fun y => eF (minus (minus x y) (0, g.1.pause))) 32 (ownF b ps g.2) fun x _ => by rw [List.length_map]; exact ol2
              omega)
          have e : (ownT b ps g).map eF = (ownF b ps g.2).flatMap fun x => (ownF b ps g.2).map fun y => eF (minus (minus x y) (0, g.1.pause)) := by
            unfold ownT
            rw [List.map_flatMap]
            congr 1
            funext x
            simp [List.map_map, Function.comp_def]
          refine abin (av rfl) P ?_
          rw [← e, List.map_append]
          refine lst_add ?_ st
          rw [List.length_map, List.length_map]; omega) ⟨none, none, none, none, none, none, none, rfl, by have : (pairF ((cms b ps).map (·.1))).length ≤ 1024 := pairF_len (by rw [List.length_map]; exact hlen); omega, rfl⟩
    subst h4
    refine tfor (s2 := st') (ienm (aix (av rfl) ac rfl) rfl) ?_ (trt ?_) (env' := [some (eB b), some (.tup (ps.map eT)), some (.lst ((cms b ps).map eC)), some (.lst ((tests0 b ps).map eF)), j4, j5, j6, j7, j8, j9, j10])
    · rw [show (0 : Int) = ((0 : Nat) : Int) from rfl, enumD_map eG b.gs 0]
      have e : tests0 b ps = (b.gs.zipIdx 0).foldl (fun acc g => acc ++ ownT b ps g) (pairF ((cms b ps).map (·.1))) := by rw [fold_app]; rfl
      rw [e]
      exact h1
    · have P := acomp (C := RN (k + 5)) (sub := subT) (env := [some (eB b), some (.tup (ps.map eT)), some (.lst ((cms b ps).map eC)), some (.lst ((tests0 b ps).map eF)), j4, j5, j6, j7, j8, j9, j10]) (s := st') (s1 := st') (enc := eF) (elt := .v 9) (tg := .n 9) (it := .ov (.v 3)) (cond := .cmp .ne (.ix (.v 9) (.c (.int 0))) (.c (.int 0))) (own := [9]) (tests0 b ps) (fun f => !(f.1 == 0)) eF (iov (av rfl) rfl) rfl
        (fun f _ => ⟨_, rfl, by trivial, fun _ => av rfl⟩) (by omega)
      exact keys_comp P (keysP_F _)
/-! ### all_stories -/
theorem sameTo_ge {f : Fo} {n e : Int} (h : sameTo f n = some e) : n ≤ e := by
  unfold sameTo at h
  split at h
  · cases h
  · split at h
    · injection h with h
      rename_i h1 h2
      have h3 : 0 ≤ ((wo f n).natAbs - 1 : Int) / f.1.natAbs := Int.ediv_nonneg (by omega) (by omega)
      omega
    · injection h with h; omega
theorem minI_mem : ∀ {l : List Int} {m : Int}, minI l = some m → m ∈ l ∧ ∀ x ∈ l, m ≤ x
  | [], m, h => by cases h
  | [a], m, h => by
    injection h with h
    subst h
    simp
  | a :: b :: l, m, h => by
    simp only [minI] at h
    cases q : minI (b :: l) with
    | none => rw [q] at h; cases h
    | some m2 =>
      rw [q] at h
      obtain ⟨h1, h2⟩ := minI_mem q
      injection h with h
      have h : (if m2 < a then m2 else a) = m := h
      split at h
      · subst h
        refine ⟨List.mem_cons_of_mem _ h1, fun x hx => ?_⟩
        rcases List.mem_cons.mp hx with h3 | h3
        · subst h3; omega
        · exact h2 x h3
      · subst h
        refine ⟨List.mem_cons_self, fun x hx => ?_⟩
        rcases List.mem_cons.mp hx with h3 | h3
        · subst h3; omega
        · have := h2 x h3; omega
theorem untl_ge {fs : List Fo} {n e : Int} (h : untl fs n = some e) : n ≤ e := by
  have h1 := (minI_mem h).1
  obtain ⟨f, _, h2⟩ := List.mem_filterMap.mp h1
  exact sameTo_ge h2
abbrev Wst (τ : Type) := List (Rw τ) × Option Int
def stepW {τ : Type} (fs : List Fo) (G : Int → τ) (a : Wst τ) : Wst τ := match a.2 with
  | some n => (a.1 ++ [(n, untl fs n, G n)], (untl fs n).map (· + 1))
  | none => a
/-- a while over stretches ends behind m turns -/
def EndsW {τ : Type} (fs : List Fo) (G : Int → τ) (n : Int) (m : Nat) (rows : List (Rw τ)) : Prop := Nat.repeat (stepW fs G) m ([], some n) = (rows, none) ∧ ∀ j, j < m → (Nat.repeat (stepW fs G) j ([], some n)).2 ≠ none
abbrev b63 : Ss := (.cons (.set 0 (.n 5) (.call 61 (.cons (.v 4) (.cons (.v 3) .nil)))) (.cons (.set 0 (.n 2) (.bin .add (.v 2) (.lst (.cons (.tup (.cons (.v 3) (.cons (.v 5) (.cons (.call 45 (.cons (.v 0) (.cons (.v 1) (.cons (.v 3) .nil)))) .nil)))) .nil)))) (.cons (.set 0 (.n 3) (.ite (.cmp .isn (.v 5) (.c .non)) (.c .non) (.bin .add (.v 5) (.c (.int 1))))) .nil)))
def R63 (b : Be) (ps : List Pt) (s : Store) (i : Nat) (a : Wst Story) (env : Env) (st : Store) : Prop := ∃ j5, env = [some (eB b), some (.tup (ps.map eT)), some (.lst (a.1.map (eRw eS))), some (eO a.2), some (.lst ((tests b ps).map eF)), j5] ∧ a.1.length ≤ i ∧ (∀ n, a.2 = some n → 0 < n) ∧ st = s
theorem t63 (k : Nat) (b : Be) (ps : List Pt) (F : Fit b ps) (h1 : 1 ≤ b.gs.length) {s : Store} {i : Nat} {a : Wst Story} {env : Env} {st : Store} (hi : i < 100000) (R : R63 b ps s i a env st) (hs : a.2.isNone = false) :
    ∃ env' st', evSs (RN (k + 7)) subT 100000 b63 env st = .ok (.nx env') st' ∧ R63 b ps s (i + 1) (stepW (tests b ps) (story b ps) a) env' st' := by
  have hsm : ∀ f ∈ tests b ps, f.1.natAbs < 2 ^ 60 := fun f hf => by have := tests0_sm b ps F (mem_tests.mp hf).1; omega
  have tl := tests_len b ps F
  have hz : szLine = 16777216 := rfl
  obtain ⟨j5, rfl, q1, q2, rfl⟩ := R
  obtain ⟨acc, n⟩ := a
  cases n with
  | none => cases hs
  | some n =>
    have hn := q2 n rfl
    have q1 : acc.length ≤ i := q1
    have c2 := c_until (k + 4) (tests b ps) n hsm (by omega)
    have c3 := c_story k b ps F h1 n hn
    refine ⟨[some (eB b), some (.tup (ps.map eT)), some (.lst ((acc ++ [(n, untl (tests b ps) n, story b ps n)]).map (eRw eS))), some (eO ((untl (tests b ps) n).map (· + 1))), some (.lst ((tests b ps).map eF)), some (eO (untl (tests b ps) n))], st, ?_, _, rfl, by simp only [stepW, List.length_append, List.length_singleton]; omega, fun m hm => ?_, rfl⟩
    · refine Sa.go (r := .ok (.nx _) st) ?_
      refine tset (s1 := st) (d := eO (untl (tests b ps) n)) (by trivial) rfl (tset (s1 := st) (d := .lst ((acc ++ [(n, untl (tests b ps) n, story b ps n)]).map (eRw eS))) ?_ rfl (tset (s1 := st) (d := eO ((untl (tests b ps) n).map (· + 1))) ?_ rfl tnil))
      · refine abin (y := .lst [eRw eS (n, untl (tests b ps) n, story b ps n)]) (av rfl) (alst (bcons (atup (bcons (av rfl) (bcons (av (vg (pl_eO _))) (bcons (acall (by trivial) c3) bnil)))) bnil)) ?_
        rw [List.map_append]
        refine lst_add ?_ st
        rw [List.length_map, List.length_singleton]
        show acc.length + 1 ≤ szLine
        omega
      · have e : eO ((untl (tests b ps) n).map (· + 1)) = if (untl (tests b ps) n).isNone = true then D.non else eO ((untl (tests b ps) n).map (· + 1)) := by
          cases untl (tests b ps) n <;> rfl
        rw [e]
        refine aif (c := (untl (tests b ps) n).isNone) (acmp (av (vg (pl_eO _))) ac ?_) (fun _ => ac) fun h => ?_
        · cases untl (tests b ps) n <;> rfl
        · refine abin (av (vg (pl_eO _))) ac ?_
          cases q : untl (tests b ps) n with
          | none => rw [q] at h; cases h
          | some x => rfl
    · simp only [stepW] at hm
      cases q : untl (tests b ps) n with
      | none => rw [q] at hm; cases hm
      | some x =>
        rw [q] at hm
        injection hm with hm
        have hm : x + 1 = m := hm
        have := untl_ge q
        omega
theorem c_stories (k : Nat) (b : Be) (ps : List Pt) (F : Fit b ps) (h1 : 1 ≤ b.gs.length) {m : Nat} {rows : List (Rw Story)} (hm : m < 100000) (hE : EndsW (tests b ps) (story b ps) 10 m rows) : Cl (k + 8) 63 [eB b, .tup (ps.map eT)] (.lst ((joinR rows).map (eRw eS))) := cl_of (fd := f63) rfl rfl fun s => by
  have c1 := c_tests (k + 1) b ps F
  refine tset (s1 := s) (d := .tup [.lst [], .int 10, .lst ((tests b ps).map eF)]) (by trivial) rfl ?_
  obtain ⟨env', st', w1, j5, rfl, w2, w3, w4⟩ := whlA (N := 100000) (c := ev (RN (k + 7)) subT (.cmp .notn (.v 3) (.c .non))) (f := evSs (RN (k + 7)) subT 100000 b63)
    (R63 b ps s) (fun a => a.2.isNone) (stepW (tests b ps) (story b ps)) (fun i a env st R => by
      obtain ⟨j5, rfl, _, _, rfl⟩ := R
      refine (acmp (av (vg (pl_eO a.2))) ac ?_).go
      obtain ⟨a1, a2⟩ := a
      cases a2 <;> rfl) (fun i a env st hi R hs => t63 k b ps F h1 hi R hs) m 100000 0 ([], some 10) [some (eB b), some (.tup (ps.map eT)), some (.lst []), some (.int 10), some (.lst ((tests b ps).map eF)), none] s hm (by omega) (by rw [hE.1]; rfl) (fun j hj => by
        have := hE.2 j hj
        cases q : (Nat.repeat (stepW (tests b ps) (story b ps)) j ([], some 10)).2 with
        | none => exact absurd q this
        | some x => rfl) ⟨none, rfl, by simp, fun n h => by injection h with h; omega, rfl⟩
  rw [hE.1] at w1 w2 w3
  subst w4
  simp only [] at w2
  have c2 := c_joined (e := eS) eq_story (by omega) (k + 6) rows (by omega)
  exact twhl w1 (trt (acall (bcons (av rfl) bnil) c2))
end AB

set_option Elab.async false
set_option linter.all false
set_option autoImplicit false
set_option maxRecDepth 100000
set_option maxHeartbeats 4000000
/-! MathA: signs stay up to where until tells; stretches cover all lengths (no program in sight). -/
namespace AB
open PySem
theorem wo_add (f : Fo) (n m : Int) : wo f m = wo f n + f.1 * (m - n) := by
  simp only [wo]
  rw [Int.mul_sub]
  omega
theorem sg_pos {f : Fo} {n : Int} (h : 0 < wo f n) : sg f n = 1 := by unfold sg; rw [if_pos h]
theorem sg_neg {f : Fo} {n : Int} (h : wo f n < 0) : sg f n = -1 := by unfold sg; rw [if_neg (by omega), if_pos h]
theorem sg_zero {f : Fo} {n : Int} (h : wo f n = 0) : sg f n = 0 := by unfold sg; rw [if_neg (by omega), if_neg (by omega)]
theorem sg_cases (f : Fo) (n : Int) : (0 < wo f n ∧ sg f n = 1) ∨ (wo f n = 0 ∧ sg f n = 0) ∨ (wo f n < 0 ∧ sg f n = -1) := by
  rcases Int.lt_trichotomy (wo f n) 0 with h | h | h
  · exact .inr (.inr ⟨h, sg_neg h⟩)
  · exact .inr (.inl ⟨h, sg_zero h⟩)
  · exact .inl ⟨h, sg_pos h⟩
theorem sg_flat {f : Fo} (h : f.1 = 0) (n m : Int) : sg f m = sg f n := by
  have : wo f m = wo f n := by rw [wo_add f n m, h]; omega
  unfold sg
  rw [this]
theorem same_none {f : Fo} {n : Int} (h : sameTo f n = none) {m : Int} (hm : n ≤ m) : sg f m = sg f n := by
  unfold sameTo at h
  split at h
  · rename_i h1
    rcases h1 with h1 | h1
    · exact sg_flat h1 n m
    · have e := wo_add f n m
      rcases Int.lt_trichotomy f.1 0 with h2 | h2 | h2
      · have h3 : wo f n < 0 := by
          rcases Int.lt_or_le (wo f n) 0 with q | q
          · exact q
          · have := Int.mul_nonpos_of_nonneg_of_nonpos q (by omega : f.1 ≤ 0); omega
        have h4 : f.1 * (m - n) ≤ 0 := Int.mul_nonpos_of_nonpos_of_nonneg (by omega) (by omega)
        rw [sg_neg h3, sg_neg (by omega)]
      · rw [h2] at h1; omega
      · have h3 : 0 < wo f n := by
          rcases Int.lt_or_le 0 (wo f n) with q | q
          · exact q
          · have := Int.mul_nonpos_of_nonpos_of_nonneg q (by omega : 0 ≤ f.1); omega
        have h4 : 0 ≤ f.1 * (m - n) := Int.mul_nonneg (by omega) (by omega)
        rw [sg_pos h3, sg_pos (by omega)]
  · split at h <;> cases h
theorem same_some {f : Fo} {n e : Int} (h : sameTo f n = some e) : (∀ m, n ≤ m → m ≤ e → sg f m = sg f n) ∧ sg f (e + 1) ≠ sg f n := by
  unfold sameTo at h
  split at h
  · cases h
  · rename_i h1
    have ha : f.1 ≠ 0 := fun q => h1 (.inl q)
    split at h
    · rename_i h2
      injection h with h
      have hq0 : 0 ≤ ((wo f n).natAbs - 1 : Int) / f.1.natAbs := Int.ediv_nonneg (by omega) (by omega)
      have hq1 : (f.1.natAbs : Int) * (((wo f n).natAbs - 1 : Int) / f.1.natAbs) ≤ (wo f n).natAbs - 1 := Int.mul_ediv_self_le (by omega)
      have hq2 : ((wo f n).natAbs - 1 : Int) < (f.1.natAbs : Int) * (((wo f n).natAbs - 1 : Int) / f.1.natAbs + 1) := by
        rw [Int.mul_comm]
        exact Int.lt_ediv_add_one_mul_self _ (by omega)
      generalize ((wo f n).natAbs - 1 : Int) / f.1.natAbs = q at h hq0 hq1 hq2
      rcases Int.lt_trichotomy f.1 0 with h3 | h3 | h3
      · have h4 : 0 < wo f n := by
          rcases Int.lt_or_le 0 (wo f n) with z | z
          · exact z
          · exfalso; apply h1; right
            exact Int.mul_pos_of_neg_of_neg (by omega) h3
        have ea : (f.1.natAbs : Int) = -f.1 := by omega
        have eh : ((wo f n).natAbs : Int) = wo f n := by omega
        rw [ea, eh] at hq1 hq2
        rw [Int.neg_mul] at hq1 hq2
        refine ⟨fun m hm1 hm2 => ?_, ?_⟩
        · have e1 := wo_add f n m
          have e2 : f.1 * q ≤ f.1 * (m - n) := Int.mul_le_mul_of_nonpos_left (by omega) (by omega)
          rw [sg_pos h4, sg_pos (by omega)]
        · have e1 := wo_add f n (e + 1)
          have e2 : e + 1 - n = q + 1 := by omega
          rw [e2] at e1
          rw [sg_pos h4]
          rcases sg_cases f (e + 1) with c | c | c <;> omega
      · omega
      · have h4 : wo f n < 0 := by
          rcases Int.lt_or_le (wo f n) 0 with z | z
          · exact z
          · exfalso; apply h1; right
            exact Int.mul_pos (by omega) h3
        have ea : (f.1.natAbs : Int) = f.1 := by omega
        have eh : ((wo f n).natAbs : Int) = -wo f n := by omega
        rw [ea, eh] at hq1 hq2
        refine ⟨fun m hm1 hm2 => ?_, ?_⟩
        · have e1 := wo_add f n m
          have e2 : f.1 * (m - n) ≤ f.1 * q := Int.mul_le_mul_of_nonneg_left (by omega) (by omega)
          rw [sg_neg h4, sg_neg (by omega)]
        · have e1 := wo_add f n (e + 1)
          have e2 : e + 1 - n = q + 1 := by omega
          rw [e2] at e1
          rw [sg_neg h4]
          rcases sg_cases f (e + 1) with c | c | c <;> omega
    · rename_i h2
      injection h with h
      subst h
      have h2 : wo f n = 0 := by omega
      refine ⟨fun m hm1 hm2 => by rw [show m = n by omega], ?_⟩
      have e1 := wo_add f n (n + 1)
      have e2 : n + 1 - n = 1 := by omega
      rw [e2] at e1
      rw [sg_zero h2]
      rcases sg_cases f (n + 1) with c | c | c <;> omega
theorem minI_none : ∀ {l : List Int}, minI l = none → l = []
  | [], _ => rfl
  | [a], h => by cases h
  | a :: b :: l, h => by
    simp only [minI] at h
    cases q : minI (b :: l) with
    | none => have := minI_none q; cases this
    | some m => rw [q] at h; cases h
theorem untl_none {fs : List Fo} {n : Int} (h : untl fs n = none) {f : Fo} (hf : f ∈ fs) {m : Int} (hm : n ≤ m) : sg f m = sg f n := by
  have h1 := minI_none h
  refine same_none ?_ hm
  cases q : sameTo f n with
  | none => rfl
  | some e =>
    have : e ∈ fs.filterMap fun f => sameTo f n := List.mem_filterMap.mpr ⟨f, hf, q⟩
    rw [h1] at this
    cases this
theorem untl_some {fs : List Fo} {n e : Int} (h : untl fs n = some e) : (∀ f ∈ fs, ∀ m, n ≤ m → m ≤ e → sg f m = sg f n) ∧ ∃ f ∈ fs, sg f (e + 1) ≠ sg f n := by
  obtain ⟨h1, h2⟩ := minI_mem h
  refine ⟨fun f hf m hm1 hm2 => ?_, ?_⟩
  · cases q : sameTo f n with
    | none => exact same_none q hm1
    | some e2 =>
      have : e2 ∈ fs.filterMap fun f => sameTo f n := List.mem_filterMap.mpr ⟨f, hf, q⟩
      have := h2 e2 this
      exact (same_some q).1 m hm1 (by omega)
  · obtain ⟨f, hf, q⟩ := List.mem_filterMap.mp h1
    exact ⟨f, hf, (same_some q).2⟩
/-! ### how many stops are left -/
def stp (f : Fo) (n : Int) : Nat := if f.1 = 0 ∨ 0 < wo f n * f.1 then 0 else if wo f n = 0 then 1 else 2
theorem wo_mul_mono (f : Fo) {n m : Int} (h : n ≤ m) : wo f n * f.1 ≤ wo f m * f.1 := by
  rw [wo_add f n m, Int.add_mul]
  have : 0 ≤ f.1 * (m - n) * f.1 := by
    rw [Int.mul_comm (f.1 * (m - n)), ← Int.mul_assoc]
    exact Int.mul_nonneg (by rcases Int.le_total 0 f.1 with q | q; exact Int.mul_nonneg q q; exact Int.mul_nonneg_of_nonpos_of_nonpos q q) (by omega)
  omega
theorem stp_mono (f : Fo) {n m : Int} (h : n ≤ m) : stp f m ≤ stp f n := by
  have hm := wo_mul_mono f h
  unfold stp
  by_cases h0 : f.1 = 0
  · simp [h0]
  by_cases h1 : 0 < wo f n * f.1
  · rw [if_pos (.inr (by omega : 0 < wo f m * f.1)), if_pos (.inr h1)]
    exact Nat.le_refl _
  · rw [if_neg (fun q => q.elim h0 h1) (c := f.1 = 0 ∨ 0 < wo f n * f.1)]
    by_cases h2 : 0 < wo f m * f.1
    · rw [if_pos (.inr h2)]; exact Nat.zero_le _
    · rw [if_neg (fun q => q.elim h0 h2)]
      by_cases h3 : wo f n = 0
      · have : wo f m = 0 := by
          rw [h3] at hm
          have h4 : wo f m * f.1 = 0 := by omega
          rcases Int.mul_eq_zero.mp h4 with q | q
          · exact q
          · exact absurd q h0
        rw [if_pos this, if_pos h3]
        exact Nat.le_refl _
      · rw [if_neg h3]
        split <;> omega
theorem stp_lt {f : Fo} {n m : Int} (h : n < m) (hs : sg f m ≠ sg f n) : stp f m < stp f n := by
  have hm := wo_mul_mono f (Int.le_of_lt h)
  have h0 : f.1 ≠ 0 := fun q => hs (sg_flat q n m)
  unfold stp
  by_cases h1 : 0 < wo f n * f.1
  · exfalso
    apply hs
    exact same_none (by unfold sameTo; rw [if_pos (.inr h1)]) (by omega)
  rw [if_neg (fun q => q.elim h0 h1) (c := f.1 = 0 ∨ 0 < wo f n * f.1)]
  by_cases h2 : 0 < wo f m * f.1
  · rw [if_pos (.inr h2)]; split <;> omega
  rw [if_neg (fun q => q.elim h0 h2)]
  by_cases h3 : wo f n = 0
  · exfalso
    have h4 : wo f m = f.1 * (m - n) := by rw [wo_add f n m, h3]; omega
    apply h2
    rw [h4, Int.mul_comm (f.1 * (m - n)), ← Int.mul_assoc]
    refine Int.mul_pos ?_ (by omega)
    rcases Int.lt_or_gt_of_ne h0 with q | q
    · exact Int.mul_pos_of_neg_of_neg q q
    · exact Int.mul_pos q q
  rw [if_neg h3]
  by_cases h4 : wo f m = 0
  · rw [if_pos h4]; omega
  exfalso
  have h5 : wo f n * f.1 < 0 := by
    have : wo f n * f.1 ≠ 0 := fun q => (Int.mul_eq_zero.mp q).elim h3 h0
    omega
  have h6 : wo f m * f.1 < 0 := by
    have : wo f m * f.1 ≠ 0 := fun q => (Int.mul_eq_zero.mp q).elim h4 h0
    omega
  rcases Int.lt_or_gt_of_ne h0 with q | q
  · have a1 : 0 < wo f n := by
      rcases Int.lt_or_le 0 (wo f n) with z | z
      · exact z
      · have := Int.mul_nonneg_of_nonpos_of_nonpos z (by omega : f.1 ≤ 0); omega
    have a2 : 0 < wo f m := by
      rcases Int.lt_or_le 0 (wo f m) with z | z
      · exact z
      · have := Int.mul_nonneg_of_nonpos_of_nonpos z (by omega : f.1 ≤ 0); omega
    exact hs (by rw [sg_pos a1, sg_pos a2])
  · have a1 : wo f n < 0 := by
      rcases Int.lt_or_le (wo f n) 0 with z | z
      · exact z
      · have := Int.mul_nonneg z (by omega : 0 ≤ f.1); omega
    have a2 : wo f m < 0 := by
      rcases Int.lt_or_le (wo f m) 0 with z | z
      · exact z
      · have := Int.mul_nonneg z (by omega : 0 ≤ f.1); omega
    exact hs (by rw [sg_neg a1, sg_neg a2])
def stps (fs : List Fo) (n : Int) : Nat := (fs.map fun f => stp f n).foldr (· + ·) 0
theorem stps_mono {n m : Int} (h : n ≤ m) : ∀ fs : List Fo, stps fs m ≤ stps fs n
  | [] => Nat.le_refl _
  | f :: fs => by
    have := stp_mono f h
    have := stps_mono h fs
    simp only [stps, List.map_cons, List.foldr_cons] at *
    omega
theorem stps_lt {n m : Int} (h : n < m) : ∀ fs : List Fo, (∃ f ∈ fs, sg f m ≠ sg f n) → stps fs m < stps fs n
  | [], ⟨f, hf, _⟩ => by cases hf
  | f :: fs, ⟨g, hg, hs⟩ => by
    have h1 := stp_mono f (Int.le_of_lt h)
    have h2 := stps_mono (Int.le_of_lt h) fs
    simp only [stps, List.map_cons, List.foldr_cons] at *
    rcases List.mem_cons.mp hg with q | q
    · subst q
      have := stp_lt h hs
      omega
    · have := stps_lt h fs ⟨g, q, hs⟩
      simp only [stps] at this
      omega
theorem stps_le (fs : List Fo) (n : Int) : stps fs n ≤ 2 * fs.length := by
  induction fs with
  | nil => exact Nat.le_refl _
  | cons f fs ih =>
    have : stp f n ≤ 2 := by unfold stp; split; omega; split <;> omega
    simp only [stps, List.map_cons, List.foldr_cons, List.length_cons] at *
    omega
/-! ### covers -/
/-- rows cover all numbers from n on, each row's numbers with what G tells -/
def Cov {τ : Type} (G : Int → τ) : Int → List (Rw τ) → Prop
  | _, [] => False
  | n, [r] => r.1 = n ∧ r.2.1 = none ∧ ∀ m, n ≤ m → G m = r.2.2
  | n, r :: q :: rs => r.1 = n ∧ (∃ e, r.2.1 = some e ∧ n ≤ e ∧ (∀ m, n ≤ m → m ≤ e → G m = r.2.2) ∧ Cov G (e + 1) (q :: rs))
theorem rep_succ {α : Type} (f : α → α) (a : α) : ∀ j : Nat, Nat.repeat f (j + 1) a = Nat.repeat f j (f a)
  | 0 => rfl
  | j + 1 => congrArg f (rep_succ f a j)
theorem ends_of {τ : Type} (fs : List Fo) (G : Int → τ) (hG : ∀ n m, (∀ f ∈ fs, sg f m = sg f n) → G m = G n) : ∀ (k : Nat) (n : Int) (acc : List (Rw τ)), stps fs n ≤ k →
    ∃ m rows, m ≤ k + 1 ∧ Nat.repeat (stepW fs G) m (acc, some n) = (acc ++ rows, none) ∧ (∀ j, j < m → (Nat.repeat (stepW fs G) j (acc, some n)).2 ≠ none) ∧ Cov G n rows ∧ rows.length = m := by
  intro k
  induction k with
  | zero =>
    intro n acc hk
    cases q : untl fs n with
    | none =>
      refine ⟨1, [(n, none, G n)], by omega, ?_, fun j hj => ?_, ⟨rfl, rfl, fun m hm => hG n m fun f hf => untl_none q hf hm⟩, rfl⟩
      · show stepW fs G (acc, some n) = _
        simp [stepW, q]
      · have : j = 0 := by omega
        subst this
        intro z; cases z
    | some e =>
      exfalso
      obtain ⟨h1, h2⟩ := untl_some q
      have h3 := untl_ge q
      have := stps_lt (n := n) (m := e + 1) (by omega) fs h2
      omega
  | succ k ih =>
    intro n acc hk
    cases q : untl fs n with
    | none =>
      refine ⟨1, [(n, none, G n)], by omega, ?_, fun j hj => ?_, ⟨rfl, rfl, fun m hm => hG n m fun f hf => untl_none q hf hm⟩, rfl⟩
      · show stepW fs G (acc, some n) = _
        simp [stepW, q]
      · have : j = 0 := by omega
        subst this
        intro z; cases z
    | some e =>
      obtain ⟨h1, h2⟩ := untl_some q
      have h3 := untl_ge q
      have h4 := stps_lt (n := n) (m := e + 1) (by omega) fs h2
      obtain ⟨m, rows, m1, m2, m3, m4, m5⟩ := ih (e + 1) (acc ++ [(n, some e, G n)]) (by omega)
      have es : stepW fs G (acc, some n) = (acc ++ [(n, some e, G n)], some (e + 1)) := by simp [stepW, q]
      refine ⟨m + 1, (n, some e, G n) :: rows, by omega, ?_, fun j hj => ?_, ?_, by simp [m5]⟩
      · rw [rep_succ, es, m2]
        simp
      · cases j with
        | zero => intro z; cases z
        | succ j =>
          rw [rep_succ, es]
          exact m3 j (by omega)
      · cases rows with
        | nil => exact absurd m4 (by intro z; exact z)
        | cons r rs => exact ⟨rfl, e, rfl, h3, fun m hm1 hm2 => hG n m fun f hf => h1 f hf m hm1 hm2, m4⟩
end AB

set_option Elab.async false
set_option linter.all false
set_option autoImplicit false
set_option maxRecDepth 100000
set_option maxHeartbeats 4000000
/-! MathB: the story is the same as long as the signs of the tests are; the table of all stories. -/
namespace AB
open PySem
theorem insC_congr {α : Type} {k1 k2 : α → Int × Int × Int} (x : α) : ∀ l : List α, (∀ y ∈ l, le3 (k1 x) (k1 y) = le3 (k2 x) (k2 y)) → insC k1 x l = insC k2 x l
  | [], _ => rfl
  | y :: ys, h => by
    simp only [insC, h y List.mem_cons_self, insC_congr x ys fun z hz => h z (List.mem_cons_of_mem _ hz)]
theorem srtC_congr {α : Type} {k1 k2 : α → Int × Int × Int} : ∀ l : List α, (∀ x ∈ l, ∀ y ∈ l, le3 (k1 x) (k1 y) = le3 (k2 x) (k2 y)) → srtC k1 l = srtC k2 l
  | [], _ => rfl
  | x :: xs, h => by
    simp only [srtC]
    rw [srtC_congr xs fun a ha b hb => h a (List.mem_cons_of_mem _ ha) b (List.mem_cons_of_mem _ hb)]
    refine insC_congr x _ fun y hy => h x List.mem_cons_self y (List.mem_cons_of_mem _ ((srtC_perm k2 xs).mem_iff.mp hy))
/-- all tests have the same signs with both lengths -/
def Alike (b : Be) (ps : List Pt) (n m : Int) : Prop := ∀ f ∈ tests b ps, sg f m = sg f n
theorem alike0 {b : Be} {ps : List Pt} {n m : Int} (h : Alike b ps n m) {f : Fo} (hf : f ∈ tests0 b ps) : sg f m = sg f n := by
  by_cases h0 : f.1 = 0
  · exact sg_flat h0 n m
  · exact h f (mem_tests.mpr ⟨hf, h0⟩)
theorem wo_minus (x y : Fo) (n : Int) : wo (minus x y) n = wo x n - wo y n := by
  simp only [wo, minus, Int.sub_mul]; omega
theorem le3_alike {b : Be} {ps : List Pt} {n m : Int} (h : Alike b ps n m) {x y : Cm} (hx : x ∈ cms b ps) (hy : y ∈ cms b ps) : le3 (keyC m x) (keyC m y) = le3 (keyC n x) (keyC n y) := by
  have h1 : minus x.1 y.1 ∈ tests0 b ps := by
    unfold tests0 pairF
    refine List.mem_append.mpr (.inl (List.mem_flatMap.mpr ⟨x.1, List.mem_map.mpr ⟨x, hx, rfl⟩, List.mem_map.mpr ⟨y.1, List.mem_map.mpr ⟨y, hy, rfl⟩, rfl⟩⟩))
  have h2 := alike0 h h1
  have e1 := wo_minus x.1 y.1 n
  have e2 := wo_minus x.1 y.1 m
  have a1 : wo x.1 m < wo y.1 m ↔ wo x.1 n < wo y.1 n := by
    rcases sg_cases (minus x.1 y.1) n with c | c | c <;> rcases sg_cases (minus x.1 y.1) m with d | d | d <;> omega
  have a2 : wo x.1 m = wo y.1 m ↔ wo x.1 n = wo y.1 n := by
    rcases sg_cases (minus x.1 y.1) n with c | c | c <;> rcases sg_cases (minus x.1 y.1) m with d | d | d <;> omega
  unfold le3
  exact decide_eq_decide.mpr (by simp only [keyC, a1, a2])
theorem order_alike {b : Be} {ps : List Pt} {n m : Int} (h : Alike b ps n m) : order m (cms b ps) = order n (cms b ps) :=
  srtC_congr _ fun x hx y hy => le3_alike h hx hy
/-- who has taken what has taken what came to this guest -/
def OwnOk (b : Be) (ps : List Pt) (s : Sto) : Prop := ∀ i l, s.1[i]? = some l → ∀ q ∈ l, q.2 ∈ ownF b ps i
theorem ownOk_step {b : Be} {ps : List Pt} {n : Int} {s : Sto} {c : Cm} (h : OwnOk b ps s) (hc : c ∈ cms b ps) : OwnOk b ps (stepM b n s c) := by
  unfold stepM
  split
  · rename_i g l e1 e2
    split
    · intro i l' hi q hq
      simp only [List.getElem?_set] at hi
      split at hi
      · rename_i e3
        subst e3
        split at hi
        · injection hi with hi
          subst hi
          rcases List.mem_append.mp hq with h1 | h1
          · exact h _ l e2 q h1
          · rw [List.mem_singleton.mp h1]
            unfold ownF
            exact List.mem_map.mpr ⟨c, List.mem_filter.mpr ⟨hc, by simp⟩, rfl⟩
        · cases hi
      · exact h i l' hi q hq
    · exact h
  · exact h
theorem step_alike {b : Be} {ps : List Pt} {n m : Int} (h : Alike b ps n m) {s : Sto} {c : Cm} (ho : OwnOk b ps s) (hc : c ∈ cms b ps) : stepM b m s c = stepM b n s c := by
  unfold stepM
  cases e1 : b.gs[c.2.1]? with
  | none => rfl
  | some g =>
    cases e2 : s.1[c.2.1]? with
    | none => rfl
    | some l =>
      have : take g l c.1 m = take g l c.1 n := by
        unfold take
        cases e3 : l.getLast? with
        | none => rfl
        | some q =>
          have hq : q ∈ l := List.mem_of_getLast? e3
          have h1 := ho _ l e2 q hq
          have h2 : c.1 ∈ ownF b ps c.2.1 := by
            unfold ownF
            exact List.mem_map.mpr ⟨c, List.mem_filter.mpr ⟨hc, by simp⟩, rfl⟩
          have e4 : minus c.1 (plus q.2 (0, g.pause)) = minus (minus c.1 q.2) (0, g.pause) := by
            simp only [minus, plus, Prod.mk.injEq]; omega
          have h3 : minus c.1 (plus q.2 (0, g.pause)) ∈ tests0 b ps := by
            rw [e4]
            unfold tests0
            refine List.mem_append.mpr (.inr (List.mem_flatMap.mpr ⟨(g, c.2.1), ?_, ?_⟩))
            · exact List.mem_zipIdx_iff_getElem?.mpr e1
            · unfold ownT
              exact List.mem_flatMap.mpr ⟨c.1, h2, List.mem_map.mpr ⟨q.2, h1, rfl⟩⟩
          simp only [alike0 h h3]
      simp only [this]
theorem fold_alike {b : Be} {ps : List Pt} {n m : Int} (h : Alike b ps n m) : ∀ (l : List Cm) (s : Sto), OwnOk b ps s → (∀ c ∈ l, c ∈ cms b ps) → l.foldl (stepM b m) s = l.foldl (stepM b n) s
  | [], _, _, _ => rfl
  | c :: l, s, ho, hl => by
    have hc := hl c List.mem_cons_self
    simp only [List.foldl_cons]
    rw [step_alike h ho hc]
    exact fold_alike h l _ (ownOk_step ho hc) fun d hd => hl d (List.mem_cons_of_mem _ hd)
theorem ownOk_init (b : Be) (ps : List Pt) : OwnOk b ps (List.replicate b.gs.length [], []) := by
  intro i l hi q hq
  have := List.mem_of_getElem? hi
  have := List.eq_of_mem_replicate this
  subst this
  cases hq
theorem story_alike {b : Be} {ps : List Pt} {n m : Int} (h : Alike b ps n m) : story b ps m = story b ps n := by
  have e : meals b ps m = meals b ps n := by
    unfold meals mealsS
    rw [order_alike h, fold_alike h _ _ (ownOk_init b ps) fun c hc => order_mem.mp hc]
  unfold story
  rw [e]
/-! ### joined rows -/
section
variable {τ : Type} {G : Int → τ}
/-- rows cover the numbers from n up to e -/
def CovE (G : Int → τ) : Int → List (Rw τ) → Option Int → Prop
  | n, [], e => e = some (n - 1)
  | n, r :: rs, e => r.1 = n ∧ match r.2.1 with
    | none => rs = [] ∧ e = none ∧ ∀ m, n ≤ m → G m = r.2.2
    | some x => n ≤ x ∧ (∀ m, n ≤ m → m ≤ x → G m = r.2.2) ∧ CovE G (x + 1) rs e
def Sharp : List (Rw τ) → Prop
  | a :: b :: l => a.2.2 ≠ b.2.2 ∧ Sharp (b :: l)
  | _ => True
theorem cov_covE : ∀ (rows : List (Rw τ)) (n : Int), Cov G n rows → CovE G n rows none
  | [], n, h => h.elim
  | [r], n, h => by
    obtain ⟨a, b, c⟩ := r
    obtain ⟨h1, h2, h3⟩ := h
    simp only at h1 h2 h3
    subst h2
    exact ⟨h1, rfl, rfl, h3⟩
  | r :: q :: rs, n, h => by
    obtain ⟨a, b, c⟩ := r
    obtain ⟨h1, e, h2, h3, h4, h5⟩ := h
    simp only at h1 h2 h4
    subst h2
    exact ⟨h1, h3, h4, cov_covE (q :: rs) (e + 1) h5⟩
theorem covE_append : ∀ (a b : List (Rw τ)) (n x : Int) (e : Option Int), CovE G n a (some x) → CovE G (x + 1) b e → CovE G n (a ++ b) e
  | [], b, n, x, e, h1, h2 => by
    injection h1 with h1
    have : x + 1 = n := by omega
    rw [this] at h2
    exact h2
  | r :: a, b, n, x, e, h1, h2 => by
    obtain ⟨a1, a2, a3⟩ := r
    cases a2 with
    | none => exact absurd h1.2.2.1 (by simp)
    | some y => exact ⟨h1.1, h1.2.1, h1.2.2.1, covE_append a b (y + 1) x e h1.2.2.2 h2⟩
theorem covE_split : ∀ (a b : List (Rw τ)) (n : Int) (e : Option Int), b ≠ [] → CovE G n (a ++ b) e → ∃ x, CovE G n a (some x) ∧ CovE G (x + 1) b e
  | [], b, n, e, _, h => ⟨n - 1, rfl, by rw [show n - 1 + 1 = n by omega]; exact h⟩
  | r :: a, b, n, e, hb, h => by
    obtain ⟨a1, a2, a3⟩ := r
    cases a2 with
    | none =>
      have h1 : a ++ b = [] := h.2.1
      exact absurd (List.append_eq_nil_iff.mp h1).2 hb
    | some y =>
      obtain ⟨x, h1, h2⟩ := covE_split a b (y + 1) e hb h.2.2.2
      exact ⟨x, ⟨h.1, h.2.1, h.2.2.1, h1⟩, h2⟩
theorem covE_ge : ∀ (a : List (Rw τ)) (n x : Int), CovE G n a (some x) → n ≤ x + 1
  | [], n, x, h => by injection h with h; omega
  | r :: a, n, x, h => by
    obtain ⟨a1, a2, a3⟩ := r
    cases a2 with
    | none => exact absurd h.2.2.1 (by simp)
    | some y =>
      have := covE_ge a (y + 1) x h.2.2.2
      have := h.2.1
      omega
theorem sharp_snoc : ∀ (l : List (Rw τ)) (q r : Rw τ), Sharp (l ++ [q]) → q.2.2 ≠ r.2.2 → Sharp (l ++ [q] ++ [r])
  | [], q, r, _, h => ⟨h, trivial⟩
  | [a], q, r, h, h2 => ⟨h.1, h2, trivial⟩
  | a :: b :: l, q, r, h, h2 => ⟨h.1, sharp_snoc (b :: l) q r h.2 h2⟩
theorem sharp_swap : ∀ (l : List (Rw τ)) (q r : Rw τ), Sharp (l ++ [q]) → q.2.2 = r.2.2 → Sharp (l ++ [r])
  | [], q, r, _, h => trivial
  | [a], q, r, h, h2 => ⟨h2 ▸ h.1, trivial⟩
  | a :: b :: l, q, r, h, h2 => ⟨h.1, sharp_swap (b :: l) q r h.2 h2⟩
theorem joinS_cov [DecidableEq τ] {acc : List (Rw τ)} {r : Rw τ} {n x : Int} {e : Option Int} (h : CovE G n acc (some x)) (hs : Sharp acc) (hr : CovE G (x + 1) [r] e) : CovE G n (joinS acc r) e ∧ Sharp (joinS acc r) := by
  rcases List.eq_nil_or_concat acc with h0 | ⟨l, q, h0⟩
  · subst h0
    injection h with h
    have : x + 1 = n := by omega
    rw [this] at hr
    exact ⟨hr, trivial⟩
  · rw [h0] at h hs ⊢
    unfold joinS
    rw [List.concat_eq_append] at *
    rw [List.getLast?_concat]
    simp only []
    split
    · rename_i hq
      obtain ⟨y, h1, h2⟩ := covE_split l [q] n (some x) (by simp) h
      rw [List.dropLast_concat]
      obtain ⟨q1, q2, q3⟩ := q
      cases q2 with
      | none => exact absurd h2.2.2.1 (by simp)
      | some z =>
        have h3 : z = x := by
          have := h2.2.2.2
          injection this with this
          omega
        subst h3
        obtain ⟨r1, r2, r3⟩ := r
        have hq : q3 = r3 := hq
        subst hq
        refine ⟨covE_append l _ n y e h1 ?_, sharp_swap l _ _ hs rfl⟩
        cases r2 with
        | none =>
          refine ⟨h2.1, rfl, hr.2.2.1, fun m hm => ?_⟩
          rcases Int.lt_or_le z m with hz | hz
          · exact hr.2.2.2 m (by omega)
          · exact h2.2.2.1 m hm hz
        | some w =>
          have := hr.2.1
          have := h2.2.1
          refine ⟨h2.1, by omega, fun m hm1 hm2 => ?_, hr.2.2.2⟩
          rcases Int.lt_or_le z m with hz | hz
          · exact hr.2.2.1 m (by omega) hm2
          · exact h2.2.2.1 m hm1 hz
    · rename_i hq
      exact ⟨covE_append _ [r] n x e h hr, sharp_snoc l q r hs hq⟩
theorem joinF_cov [DecidableEq τ] : ∀ (rows acc : List (Rw τ)) (n x : Int) (e : Option Int), CovE G n acc (some x) → Sharp acc → CovE G (x + 1) rows e → CovE G n (rows.foldl joinS acc) e ∧ Sharp (rows.foldl joinS acc)
  | [], acc, n, x, e, h, hs, hr => by
    have hr : e = some (x + 1 - 1) := hr
    rw [show x + 1 - 1 = x by omega] at hr
    subst hr
    exact ⟨h, hs⟩
  | r :: rs, acc, n, x, e, h, hs, hr => by
    simp only [List.foldl_cons]
    obtain ⟨r1, r2, r3⟩ := r
    cases r2 with
    | none =>
      have h1 : rs = [] := hr.2.1
      subst h1
      exact joinS_cov h hs hr
    | some y =>
      have h1 : CovE G (x + 1) [(r1, some y, r3)] (some y) := ⟨hr.1, hr.2.1, hr.2.2.1, by show some y = some (y + 1 - 1); congr 1; omega⟩
      obtain ⟨h2, h3⟩ := joinS_cov h hs h1
      exact joinF_cov rs _ n y e h2 h3 hr.2.2.2
theorem join_cov [DecidableEq τ] {rows : List (Rw τ)} {n : Int} {e : Option Int} (h : CovE G n rows e) : CovE G n (joinR rows) e ∧ Sharp (joinR rows) :=
  joinF_cov rows [] n (n - 1) e rfl trivial (by rw [show n - 1 + 1 = n by omega]; exact h)
/-- a row of a cover tells what G tells, at each of its numbers -/
theorem cov_row : ∀ (rows : List (Rw τ)) (n : Int) (e : Option Int), CovE G n rows e → ∀ r ∈ rows, n ≤ r.1 ∧ (∀ m, r.1 ≤ m → (∀ x, r.2.1 = some x → m ≤ x) → G m = r.2.2) ∧ ∀ x, r.2.1 = some x → r.1 ≤ x
  | [], n, e, _, r, hr => by cases hr
  | q :: rs, n, e, h, r, hr => by
    obtain ⟨q1, q2, q3⟩ := q
    cases q2 with
    | none =>
      have h1 : rs = [] := h.2.1
      subst h1
      rw [List.mem_singleton.mp hr]
      have h2 : q1 = n := h.1
      refine ⟨by simp only; omega, fun m hm _ => h.2.2.2 m (by simp only at hm; omega), fun x hx => by cases hx⟩
    | some y =>
      have h2 : q1 = n := h.1
      rcases List.mem_cons.mp hr with h3 | h3
      · subst h3
        refine ⟨by simp only; omega, fun m hm hx => h.2.2.1 m (by simp only at hm; omega) (hx y rfl), fun x hx => ?_⟩
        injection hx with hx
        have := h.2.1
        simp only; omega
      · obtain ⟨a, b, c⟩ := cov_row rs (y + 1) e h.2.2.2 r h3
        have := h.2.1
        exact ⟨by omega, b, c⟩
/-- the last row that begins at m or before tells what G tells at m -/
theorem cov_last : ∀ (rows : List (Rw τ)) (n : Int), CovE G n rows none → ∀ m, n ≤ m → ∃ r, (rows.filter fun r => decide (r.1 ≤ m)).getLast? = some r ∧ r ∈ rows ∧ r.1 ≤ m ∧ (∀ x, r.2.1 = some x → m ≤ x) ∧ r.2.2 = G m
  | [], n, h, m, hm => by cases h
  | q :: rs, n, h, m, hm => by
    obtain ⟨q1, q2, q3⟩ := q
    have h2 : q1 = n := h.1
    cases q2 with
    | none =>
      have h1 : rs = [] := h.2.1
      subst h1
      refine ⟨(q1, none, q3), ?_, List.mem_singleton_self _, by simp only; omega, fun x hx => (by cases hx), (h.2.2.2 m hm).symm⟩
      have : q1 ≤ m := by omega
      simp [List.filter_cons, this]
    | some y =>
      have hq : q1 ≤ m := by omega
      rcases Int.lt_or_le y m with hy | hy
      · obtain ⟨r, a, b, c, d, f⟩ := cov_last rs (y + 1) h.2.2.2 m (by omega)
        refine ⟨r, ?_, List.mem_cons_of_mem _ b, c, d, f⟩
        rw [List.filter_cons, if_pos (by simpa using hq), List.getLast?_cons, a]
        rfl
      · refine ⟨(q1, some y, q3), ?_, List.mem_cons_self, hq, fun x hx => by injection hx with hx; omega, (h.2.2.1 m hm hy).symm⟩
        have e1 : rs.filter (fun r => decide (r.1 ≤ m)) = [] := by
          rw [List.filter_eq_nil_iff]
          intro r hr
          have := (cov_row rs (y + 1) none h.2.2.2 r hr).1
          simp only [decide_eq_true_eq]
          omega
        rw [List.filter_cons, if_pos (by simpa using hq), e1]
        rfl
end
/-! ### the table of all stories -/
def rowsW {τ : Type} (fs : List Fo) (G : Int → τ) (n : Int) : List (Rw τ) := (Nat.repeat (stepW fs G) (2 * fs.length + 1) ([], some n)).1
theorem rep_none {τ : Type} (fs : List Fo) (G : Int → τ) (a : List (Rw τ)) : ∀ k, Nat.repeat (stepW fs G) k (a, none) = (a, none)
  | 0 => rfl
  | k + 1 => by rw [rep_succ]; exact rep_none fs G a k
theorem rep_add {α : Type} (f : α → α) (a : α) (i : Nat) : ∀ j, Nat.repeat f (i + j) a = Nat.repeat f j (Nat.repeat f i a)
  | 0 => rfl
  | j + 1 => congrArg f (rep_add f a i j)
theorem rowsW_ok {τ : Type} (fs : List Fo) (G : Int → τ) (hG : ∀ n m, (∀ f ∈ fs, sg f m = sg f n) → G m = G n) (n : Int) : ∃ m, m ≤ 2 * fs.length + 1 ∧ EndsW fs G n m (rowsW fs G n) ∧ Cov G n (rowsW fs G n) ∧ (rowsW fs G n).length = m := by
  obtain ⟨m, rows, m1, m2, m3, m4, m5⟩ := ends_of fs G hG (2 * fs.length) n [] (stps_le fs n)
  have e : rowsW fs G n = rows := by
    unfold rowsW
    rw [show 2 * fs.length + 1 = m + (2 * fs.length + 1 - m) by omega, rep_add, m2, rep_none]
    rfl
  rw [e]
  exact ⟨m, m1, ⟨m2, m3⟩, m4, m5⟩
def stor (b : Be) (ps : List Pt) : List (Rw Story) := joinR (rowsW (tests b ps) (story b ps) 10)
theorem stor_cov (b : Be) (ps : List Pt) : CovE (story b ps) 10 (stor b ps) none ∧ Sharp (stor b ps) := by
  obtain ⟨m, _, _, h, _⟩ := rowsW_ok (tests b ps) (story b ps) (fun n m h => story_alike h) 10
  exact join_cov (cov_covE _ _ h)
theorem foldl_joinS_len {τ : Type} [DecidableEq τ] : ∀ (rows acc : List (Rw τ)), (rows.foldl joinS acc).length ≤ acc.length + rows.length
  | [], acc => by simp
  | r :: rs, acc => by
    have := foldl_joinS_len rs (joinS acc r)
    have := joinS_len acc r
    simp only [List.foldl_cons, List.length_cons]
    omega
theorem joinR_len {τ : Type} [DecidableEq τ] (rows : List (Rw τ)) : (joinR rows).length ≤ rows.length := by
  have := foldl_joinS_len rows []
  simp only [List.length_nil] at this
  unfold joinR
  omega
theorem stor_len (b : Be) (ps : List Pt) (F : Fit b ps) : (stor b ps).length ≤ 6145 := by
  obtain ⟨m, h1, _, _, h2⟩ := rowsW_ok (tests b ps) (story b ps) (fun n m h => story_alike h) 10
  have := tests_len b ps F
  have := joinR_len (rowsW (tests b ps) (story b ps) 10)
  unfold stor
  omega
theorem c_stor (k : Nat) (b : Be) (ps : List Pt) (F : Fit b ps) (h1 : 1 ≤ b.gs.length) : Cl (k + 8) 63 [eB b, .tup (ps.map eT)] (.lst ((stor b ps).map (eRw eS))) := by
  obtain ⟨m, h2, h3, _, _⟩ := rowsW_ok (tests b ps) (story b ps) (fun n m h => story_alike h) 10
  have := tests_len b ps F
  exact c_stories k b ps F h1 (by omega) h3
end AB

set_option Elab.async false
set_option linter.all false
set_option autoImplicit false
set_option maxRecDepth 100000
set_option maxHeartbeats 4000000
/-! MirS: numbers drawn from the script: what holds of each. -/
namespace AB
open PySem
/-- the cell of the source -/
def SrcC (n : Nat) (st : Store) : Prop := ∃ a b : Int, st[n]? = some (.lst [.int a, .int b]) ∧ 0 ≤ a ∧ 0 ≤ b ∧ b < 2147483648
/-- the source's cell; all other cells are those of L -/
def SrcS (n : Nat) (L : Store) (st : Store) : Prop := (st.length = L.length ∧ ∀ i, i ≠ n → st[i]? = L[i]?) ∧ SrcC n st
theorem src_set {n : Nat} {L st : Store} {a b : Int} (h : SrcS n L st) (ha : 0 ≤ a) (hb : 0 ≤ b) (hb2 : b < 2147483648) : SrcS n L (st.set n (.lst [.int a, .int b])) := by
  obtain ⟨h1, _, _, h2, _⟩ := h
  refine ⟨⟨by simp [h1.1], fun i hi => by rw [List.getElem?_set, if_neg (fun z => hi z.symm)]; exact h1.2 i hi⟩, a, b, ?_, ha, hb, hb2⟩
  have := (List.getElem?_eq_some_iff.mp h2).1
  simp [this]
theorem run_so {k f : Nat} {fd : FD} {xs : List D} {st st' : Store} {v : D} (e : FT f = some fd) (hl : xs.length = fd.np) (h : evSs (RN k) subT 100000 fd.body (xs.map some ++ List.replicate (fd.ns - fd.np) none) st = .ok (.rt v) st') (hs : st'.length = st.length) : RN (k + 1) f xs st = .ok v st' := by
  rw [run_s e hl, h]
  show R.ok v (cutS v st st') = _
  unfold cutS
  split
  · rw [← hs, List.take_length]
  · rfl
theorem r_draw {k n : Nat} {L : Store} {many : Int} (hm : 0 < many) (hm2 : many < 803469022129495137770981046170581301261101496891396417650688) {st : Store} (h : SrcS n L st) : ∃ r st', RN (k + 1) 17 [.ref n, .int many] st = .ok (.int r) st' ∧ (0 ≤ r ∧ r < many) ∧ SrcS n L st' := by
  obtain ⟨h1, a, b, hc, ha, hb, hb2⟩ := h
  have hn := (List.getElem?_eq_some_iff.mp hc).1
  have hx : many.natAbs < 2 ^ 200 := by omega
  have hnl : n < st.length := hn
  by_cases q : 0 < a
  · refine ⟨a % many, st.set n (.lst [.int (a / many), .int b]), ?_, ⟨Int.emod_nonneg _ (by omega), Int.emod_lt_of_pos _ hm⟩, src_set ⟨h1, a, b, hc, ha, hb, hb2⟩ (Int.ediv_nonneg (by omega) (by omega)) hb hb2⟩
    refine run_so (fd := f17) rfl rfl ?_ (by simp)
    simp [f17, evSs, evS, ev, evs, bnd, onE, thenS, ret, retS, lft, vget, ixM, drf, drl, hc, ixP, L2.atI, L2.ixN, coM, coP, truth, q, opM, opP, biM, biP, setiM, asg, hm, hx, D.pl, List.map]
  · have hy : (b * 48271 % 2147483647).natAbs < 2 ^ 64 := by omega
    have hy2 : b.natAbs < 2 ^ 64 := by omega
    have hcs : ∀ x, (st.set n x)[n]? = some x := fun x => by simp [hnl]
    clear hnl hn
    let c := b * 48271 % 2147483647
    refine ⟨(c * c % 2147483629 / 64) % many, st.set n (.lst [.int a, .int c]), ?_, ⟨Int.emod_nonneg _ (by omega), Int.emod_lt_of_pos _ hm⟩, src_set ⟨h1, a, b, hc, ha, hb, hb2⟩ ha (by omega) (by omega)⟩
    refine run_so (fd := f17) rfl rfl ?_ (by simp)
    simp [f17, evSs, evS, ev, evs, bnd, onE, thenS, ret, retS, lft, vget, ixM, drf, drl, hc, ixP, L2.atI, L2.ixN, coM, coP, truth, q, opM, opP, biM, biP, setiM, asg, hm, hx, hcs, hy, hy2, D.pl, List.map, c, -List.getElem?_set_self, -List.getElem?_eq_getElem]
end AB

set_option Elab.async false
set_option linter.all false
set_option autoImplicit false
set_option maxRecDepth 100000
set_option maxHeartbeats 4000000
/-! MirT: what holds of what is drawn: a calculus with an invariant of the store. -/
namespace AB
open PySem
section
variable {C : Nat → List D → M D} {sub : Nat → Nat → Bool} {W : Nat} {env : Env} {P : Store → Prop}
/-- an expression under an invariant of the store: it comes to something of which Q holds -/
def HE (C : Nat → List D → M D) (sub : Nat → Nat → Bool) (P : Store → Prop) (e : E) (env : Env) (Q : D → Prop) : Prop := ∀ st, P st → ∃ d st', ev C sub e env st = .ok d st' ∧ Q d ∧ P st'
def HEs (C : Nat → List D → M D) (sub : Nat → Nat → Bool) (P : Store → Prop) (e : Es) (env : Env) (Q : List D → Prop) : Prop := ∀ st, P st → ∃ d st', evs C sub e env st = .ok d st' ∧ Q d ∧ P st'
def HS (C : Nat → List D → M D) (sub : Nat → Nat → Bool) (W : Nat) (P : Store → Prop) (ss : Ss) (env : Env) (Q : D → Prop) : Prop := ∀ st, P st → ∃ d st', evSs C sub W ss env st = .ok (.rt d) st' ∧ Q d ∧ P st'
/-- a body that goes on -/
def HN (C : Nat → List D → M D) (sub : Nat → Nat → Bool) (W : Nat) (P : Store → Prop) (ss : Ss) (env : Env) (J : Env → Prop) : Prop := ∀ st, P st → ∃ env' st', evSs C sub W ss env st = .ok (.nx env') st' ∧ J env' ∧ P st'
theorem hp {e : E} {d : D} (h : EvP C sub e env d) : HE C sub P e env (· = d) := fun st p => ⟨d, st, h st, rfl, p⟩
theorem hw {e : E} {Q R : D → Prop} (h : HE C sub P e env Q) (k : ∀ d, Q d → R d) : HE C sub P e env R := fun st p => by
  obtain ⟨d, st', h1, h2, h3⟩ := h st p
  exact ⟨d, st', h1, k d h2, h3⟩
theorem gnil : HEs C sub P .nil env (· = []) := fun st p => ⟨[], st, rfl, rfl, p⟩
theorem gcons {e : E} {es : Es} {A : D → Prop} {B R : List D → Prop} (h : HE C sub P e env A) (t : HEs C sub P es env B) (k : ∀ d ds, A d → B ds → R (d :: ds)) : HEs C sub P (.cons e es) env R := fun st p => by
  obtain ⟨d, st1, h1, h2, h3⟩ := h st p
  obtain ⟨ds, st2, t1, t2, t3⟩ := t st1 h3
  refine ⟨d :: ds, st2, ?_, k d ds h2 t2, t3⟩
  show bnd (ev C sub e env) (fun x => bnd (evs C sub es env) fun xs => ret (x :: xs)) st = _
  rw [bnd_of h1, bnd_of t1]; rfl
theorem hbin {o : Op} {a b : E} {A B Q : D → Prop} (ha : HE C sub P a env A) (hb : HE C sub P b env B) (h : ∀ x y, A x → B y → ∃ z, (∀ st, opM o x y st = .ok z st) ∧ Q z) : HE C sub P (.bin o a b) env Q := fun st p => by
  obtain ⟨x, st1, a1, a2, a3⟩ := ha st p
  obtain ⟨y, st2, b1, b2, b3⟩ := hb st1 a3
  obtain ⟨z, z1, z2⟩ := h x y a2 b2
  refine ⟨z, st2, ?_, z2, b3⟩
  show bnd (ev C sub a env) (fun x => bnd (ev C sub b env) fun y => opM o x y) st = _
  rw [bnd_of a1, bnd_of b1]; exact z1 st2
theorem hcmp {o : Co} {a b : E} {A B Q : D → Prop} (ha : HE C sub P a env A) (hb : HE C sub P b env B) (h : ∀ x y, A x → B y → ∃ t : Bool, (∀ st, coM o x y st = .ok (.bl t) st) ∧ Q (.bl t)) : HE C sub P (.cmp o a b) env Q := fun st p => by
  obtain ⟨x, st1, a1, a2, a3⟩ := ha st p
  obtain ⟨y, st2, b1, b2, b3⟩ := hb st1 a3
  obtain ⟨z, z1, z2⟩ := h x y a2 b2
  refine ⟨.bl z, st2, ?_, z2, b3⟩
  show bnd (ev C sub a env) (fun x => bnd (ev C sub b env) fun y => coM o x y) st = _
  rw [bnd_of a1, bnd_of b1]; exact z1 st2
theorem hite {t a b : E} {Q : D → Prop} {T : Bool → Prop} (ht : HE C sub P t env fun d => ∃ c, d = .bl c ∧ T c) (ha : T true → HE C sub P a env Q) (hb : T false → HE C sub P b env Q) : HE C sub P (.ite t a b) env Q := fun st p => by
  obtain ⟨_, st1, a1, ⟨c, rfl, tc⟩, a3⟩ := ht st p
  cases c with
  | true =>
    obtain ⟨d, st2, h1, h2, h3⟩ := ha tc st1 a3
    refine ⟨d, st2, ?_, h2, h3⟩
    show bnd (ev C sub t env) (fun x => bnd (lft (truth x)) fun c => if c then ev C sub a env else ev C sub b env) st = _
    rw [bnd_of a1]; exact h1
  | false =>
    obtain ⟨d, st2, h1, h2, h3⟩ := hb tc st1 a3
    refine ⟨d, st2, ?_, h2, h3⟩
    show bnd (ev C sub t env) (fun x => bnd (lft (truth x)) fun c => if c then ev C sub a env else ev C sub b env) st = _
    rw [bnd_of a1]; exact h1
theorem htup {es : Es} {B : List D → Prop} {Q : D → Prop} (h : HEs C sub P es env B) (k : ∀ ds, B ds → Q (.tup ds)) : HE C sub P (.tup es) env Q := fun st p => by
  obtain ⟨ds, st1, h1, h2, h3⟩ := h st p
  refine ⟨.tup ds, st1, ?_, k ds h2, h3⟩
  show bnd (evs C sub es env) (fun xs => ret (D.tup xs)) st = _
  rw [bnd_of h1]; rfl
theorem hlst {es : Es} {B : List D → Prop} {Q : D → Prop} (h : HEs C sub P es env B) (k : ∀ ds, B ds → Q (.lst ds)) : HE C sub P (.lst es) env Q := fun st p => by
  obtain ⟨ds, st1, h1, h2, h3⟩ := h st p
  refine ⟨.lst ds, st1, ?_, k ds h2, h3⟩
  show bnd (evs C sub es env) (fun xs => ret (D.lst xs)) st = _
  rw [bnd_of h1]; rfl
theorem hcall {f : Nat} {es : Es} {B : List D → Prop} {Q : D → Prop} (h : HEs C sub P es env B) (k : ∀ ds, B ds → ∀ st, P st → ∃ d st', C f ds st = .ok d st' ∧ Q d ∧ P st') : HE C sub P (.call f es) env Q := fun st p => by
  obtain ⟨ds, st1, h1, h2, h3⟩ := h st p
  obtain ⟨d, st2, k1, k2, k3⟩ := k ds h2 st1 h3
  refine ⟨d, st2, ?_, k2, k3⟩
  show bnd (evs C sub es env) (fun xs => C f xs) st = _
  rw [bnd_of h1]; exact k1
theorem hix {a i : E} {A B Q : D → Prop} (ha : HE C sub P a env A) (hi : HE C sub P i env B) (h : ∀ x y, A x → B y → ∃ z, (∀ st, ixM x y st = .ok z st) ∧ Q z) : HE C sub P (.ix a i) env Q := fun st p => by
  obtain ⟨x, st1, a1, a2, a3⟩ := ha st p
  obtain ⟨y, st2, b1, b2, b3⟩ := hi st1 a3
  obtain ⟨z, z1, z2⟩ := h x y a2 b2
  refine ⟨z, st2, ?_, z2, b3⟩
  show bnd (ev C sub a env) (fun x => bnd (ev C sub i env) fun y => ixM x y) st = _
  rw [bnd_of a1, bnd_of b1]; exact z1 st2
theorem hrt {e : E} {ss : Ss} {Q : D → Prop} (h : HE C sub P e env Q) : HS C sub W P (.cons (.rt e) ss) env Q := fun st p => by
  obtain ⟨d, st1, h1, h2, h3⟩ := h st p
  refine ⟨d, st1, ?_, h2, h3⟩
  show thenS (onE (ev C sub e env) env fun d => retS (.rt d)) _ st = _
  unfold thenS onE; rw [h1]; rfl
theorem hset {m : Nat} {tg : T} {e : E} {ss : Ss} {A Q : D → Prop} (h : HE C sub P e env A) (k : ∀ d, A d → ∃ env', asg tg d env = some env' ∧ HS C sub W P ss env' Q) : HS C sub W P (.cons (.set m tg e) ss) env Q := fun st p => by
  obtain ⟨d, st1, h1, h2, h3⟩ := h st p
  obtain ⟨env', k1, k2⟩ := k d h2
  obtain ⟨r, st2, r1, r2, r3⟩ := k2 st1 h3
  refine ⟨r, st2, ?_, r2, r3⟩
  show thenS (onE (ev C sub e env) env fun d => match asg tg d env with
    | some env' => retS (.nx env')
    | none => nonS) (fun env' => evSs C sub W ss env') st = _
  unfold thenS onE; rw [h1]; simp only [k1]; exact r1
theorem jset {m : Nat} {tg : T} {e : E} {ss : Ss} {A : D → Prop} {J : Env → Prop} (h : HE C sub P e env A) (k : ∀ d, A d → ∃ env', asg tg d env = some env' ∧ HN C sub W P ss env' J) : HN C sub W P (.cons (.set m tg e) ss) env J := fun st p => by
  obtain ⟨d, st1, h1, h2, h3⟩ := h st p
  obtain ⟨env', k1, k2⟩ := k d h2
  obtain ⟨r, st2, r1, r2, r3⟩ := k2 st1 h3
  refine ⟨r, st2, ?_, r2, r3⟩
  show thenS (onE (ev C sub e env) env fun d => match asg tg d env with
    | some env' => retS (.nx env')
    | none => nonS) (fun env' => evSs C sub W ss env') st = _
  unfold thenS onE; rw [h1]; simp only [k1]; exact r1
theorem jnil {J : Env → Prop} (h : J env) : HN C sub W P .nil env J := fun st p => ⟨env, st, rfl, h, p⟩
/-- an if whose first way hands back -/
theorem hiff {t : E} {a ss : Ss} {Q : D → Prop} {T : Bool → Prop} (ht : HE C sub P t env fun d => ∃ c, d = .bl c ∧ T c) (ha : T true → HS C sub W P a env Q) (hb : T false → HS C sub W P ss env Q) : HS C sub W P (.cons (.iff t a .nil) ss) env Q := fun st p => by
  obtain ⟨_, st1, a1, ⟨c, rfl, tc⟩, a3⟩ := ht st p
  have e : bnd (ev C sub t env) (fun x => lft (truth x)) st = .ok c st1 := by rw [bnd_of a1]; rfl
  cases c with
  | true =>
    obtain ⟨d, st2, h1, h2, h3⟩ := ha tc st1 a3
    refine ⟨d, st2, ?_, h2, h3⟩
    show thenS (onE (bnd (ev C sub t env) fun x => lft (truth x)) env fun c => if c then evSs C sub W a env else evSs C sub W .nil env) _ st = _
    unfold thenS onE; rw [e]; simp only [if_true]; rw [h1]
  | false =>
    obtain ⟨d, st2, h1, h2, h3⟩ := hb tc st1 a3
    refine ⟨d, st2, ?_, h2, h3⟩
    show thenS (onE (bnd (ev C sub t env) fun x => lft (truth x)) env fun c => if c then evSs C sub W a env else evSs C sub W .nil env) (fun env' => evSs C sub W ss env') st = _
    unfold thenS onE; rw [e]; simp only [Bool.false_eq_true, if_false]; exact h1
end
theorem run_h {k f n : Nat} {L : Store} {fd : FD} {xs : List D} {Q : D → Prop} (e : FT f = some fd) (hl : xs.length = fd.np) (h : HS (RN k) subT 100000 (SrcS n L) fd.body (xs.map some ++ List.replicate (fd.ns - fd.np) none) Q) (st : Store) (p : SrcS n L st) : ∃ d st', RN (k + 1) f xs st = .ok d st' ∧ Q d ∧ SrcS n L st' := by
  obtain ⟨d, st', h1, h2, h3⟩ := h st p
  exact ⟨d, st', run_so e hl h1 (by rw [h3.1.1, p.1.1]), h2, h3⟩
end AB

set_option Elab.async false
set_option linter.all false
set_option autoImplicit false
set_option maxRecDepth 100000
set_option maxHeartbeats 4000000
/-! MirU: places, belts and plates drawn. -/
namespace AB
open PySem
theorem gp {C : Nat → List D → M D} {sub : Nat → Nat → Bool} {env : Env} {P : Store → Prop} {es : Es} {ds : List D} (h : EsP C sub es env ds) : HEs C sub P es env (· = ds) := fun st p => ⟨ds, st, h st, rfl, p⟩
theorem hdraw {k n i : Nat} {L : Store} {env : Env} {many : Int} {e : E} (hv : vget env[i]? = some (.ref n)) (he : EvP (RN (k + 1)) subT e env (.int many)) (hm : 0 < many) (hm2 : many < 803469022129495137770981046170581301261101496891396417650688) : HE (RN (k + 1)) subT (SrcS n L) (.call 17 (.cons (.v i) (.cons e .nil))) env fun d => ∃ r : Int, d = .int r ∧ 0 ≤ r ∧ r < many :=
  hcall (gp (qcons (pv hv) (qcons he qnil))) fun ds hd st p => by
    subst hd
    obtain ⟨r, st', h1, h2, h3⟩ := r_draw (k := k) hm hm2 p
    exact ⟨.int r, st', h1, ⟨r, rfl, h2.1, h2.2⟩, h3⟩
theorem at_mem {ds : List D} {r : Int} (h0 : 0 ≤ r) (h : r < ds.length) : ∃ d ∈ ds, L2.atI ds r = some d := by
  obtain ⟨n, rfl⟩ := Int.eq_ofNat_of_zero_le h0
  have hn : n < ds.length := by omega
  refine ⟨ds[n], List.getElem_mem hn, ?_⟩
  simp [L2.atI, L2.ixN, hn]
theorem r_of {k n : Nat} {L : Store} {ds : List D} (h0 : 0 < ds.length) (h1 : ds.length < 1000) (st : Store) (p : SrcS n L st) : ∃ d st', RN (k + 2) 18 [.ref n, .lst ds] st = .ok d st' ∧ d ∈ ds ∧ SrcS n L st' :=
  run_h (fd := f18) rfl rfl (hrt (hix (hp (pv rfl)) (hdraw (many := (ds.length : Nat)) rfl (pbi (qcons (pv rfl) qnil) fun _ => rfl) (by omega) (by omega)) fun x y hx hy => by
    subst hx
    obtain ⟨r, rfl, h2, h3⟩ := hy
    obtain ⟨d, d1, d2⟩ := at_mem h2 h3
    refine ⟨d, fun st => ?_, d1⟩
    show lft (L2.atI ds r) st = _
    rw [d2]; rfl)) st p
theorem hof {k n i : Nat} {L : Store} {env : Env} {e : E} {A : List D → Prop} {Q : D → Prop} (hv : vget env[i]? = some (.ref n)) (he : HE (RN (k + 2)) subT (SrcS n L) e env fun d => ∃ ds, d = .lst ds ∧ A ds) (h : ∀ ds, A ds → 0 < ds.length ∧ ds.length < 1000 ∧ ∀ d ∈ ds, Q d) : HE (RN (k + 2)) subT (SrcS n L) (.call 18 (.cons (.v i) (.cons e .nil))) env Q :=
  hcall (B := fun xs => ∃ ds, xs = [.ref n, .lst ds] ∧ A ds) (gcons (hp (pv hv)) (gcons (B := (· = [])) (R := fun xs => ∃ ds, xs = [.lst ds] ∧ A ds) he gnil fun d ds a b => by obtain ⟨z, rfl, hz⟩ := a; subst b; exact ⟨z, rfl, hz⟩) fun d ds a b => by obtain ⟨z, rfl, hz⟩ := b; subst a; exact ⟨z, rfl, hz⟩) fun xs hx st p => by
    obtain ⟨ds, rfl, ha⟩ := hx
    obtain ⟨q0, q1, q2⟩ := h ds ha
    obtain ⟨d, st', h1, h2, h3⟩ := r_of (k := k) q0 q1 st p
    exact ⟨d, st', h1, q2 d h2, h3⟩
/-- places as they are drawn -/
structure PlOk (p : Pl) : Prop where
  lo : (if p.b then 0 else 1) ≤ p.i
  hi : p.i ≤ 4
theorem r_place {k n : Nat} {L : Store} (st : Store) (p : SrcS n L st) : ∃ d st', RN (k + 2) 19 [.ref n] st = .ok d st' ∧ (∃ q : Pl, d = eP q ∧ PlOk q) ∧ SrcS n L st' := by
  refine run_h (fd := f19) rfl rfl (hiff (T := fun _ => True) (hcmp (hdraw (k := k) (many := 2) rfl pc (by omega) (by omega)) (hp pc) fun x y hx hy => ?_) (fun _ => ?_) fun _ => ?_) st p
  · obtain ⟨r, rfl, _⟩ := hx
    subst hy
    exact ⟨r == 0, fun st => rfl, _, rfl, trivial⟩
  · refine hrt (htup (B := fun ds => ∃ r : Int, ds = [.str "b", .int r] ∧ 0 ≤ r ∧ r < 5) (gcons (hp pc) (gcons (hdraw (k := k) (many := 5) rfl pc (by omega) (by omega)) gnil (R := fun ds => ∃ r : Int, ds = [.int r] ∧ 0 ≤ r ∧ r < 5) fun d ds a b => ?_) fun d ds a b => ?_) fun ds h => ?_)
    · obtain ⟨r, rfl, h⟩ := a; subst b; exact ⟨r, rfl, h⟩
    · obtain ⟨r, rfl, h⟩ := b; subst a; exact ⟨r, rfl, h⟩
    · obtain ⟨r, rfl, h⟩ := h
      exact ⟨⟨true, r⟩, rfl, ⟨by simp; omega, by simp; omega⟩⟩
  · refine hrt (htup (B := fun ds => ∃ r : Int, ds = [.str "t", .int r] ∧ 1 ≤ r ∧ r < 5) (gcons (hp pc) (gcons (hbin (Q := fun d => ∃ r : Int, d = .int r ∧ 1 ≤ r ∧ r < 5) (hp pc) (hdraw (k := k) (many := 4) rfl pc (by omega) (by omega)) fun x y a b => ?_) gnil (R := fun ds => ∃ r : Int, ds = [.int r] ∧ 1 ≤ r ∧ r < 5) fun d ds a b => ?_) fun d ds a b => ?_) fun ds h => ?_)
    · obtain ⟨r, rfl, h⟩ := b; subst a; exact ⟨.int (1 + r), fun st => rfl, _, rfl, by omega, by omega⟩
    · obtain ⟨r, rfl, h⟩ := a; subst b; exact ⟨r, rfl, h⟩
    · obtain ⟨r, rfl, h⟩ := b; subst a; exact ⟨r, rfl, h⟩
    · obtain ⟨r, rfl, h⟩ := h
      exact ⟨⟨false, r⟩, rfl, ⟨by simp; omega, by simp; omega⟩⟩
end AB

set_option Elab.async false
set_option linter.all false
set_option autoImplicit false
set_option maxRecDepth 100000
set_option maxHeartbeats 4000000
/-! MirV: belts and plates drawn. -/
namespace AB
open PySem
section
variable {C : Nat → List D → M D} {sub : Nat → Nat → Bool} {W : Nat} {env : Env} {P : Store → Prop}
theorem forJ {f : D → Env → MS} (J : Nat → Env → Prop) (N : Nat) (step : ∀ c, c < N → ∀ x env, J c env → ∀ st, P st → ∃ env' st', f (.int x) env st = .ok (.nx env') st' ∧ J (c + 1) env' ∧ P st') : ∀ (m : Nat) (i : Int) (c : Nat) (env : Env) (st : Store), c + m ≤ N → J c env → P st → ∃ env' st', forS f (AB.range i m) env st = .ok (.nx env') st' ∧ J (c + m) env' ∧ P st'
  | 0, i, c, env, st, _, j, p => ⟨env, st, rfl, j, p⟩
  | m + 1, i, c, env, st, hc, j, p => by
    obtain ⟨env1, st1, h1, h2, h3⟩ := step c (by omega) i env j st p
    obtain ⟨env2, st2, k1, k2, k3⟩ := forJ J N step m (i + 1) (c + 1) env1 st1 (by omega) h2 h3
    refine ⟨env2, st2, ?_, ?_, k3⟩
    · show (match f (.int i) env st with
        | .ok (.nx env') st' => forS f (AB.range (i + 1) m) env' st'
        | .ok (.ct env') st' => forS f (AB.range (i + 1) m) env' st'
        | .ok (.bk env') st' => RS.ok (.nx env') st'
        | .ok (.rt d) st' => .ok (.rt d) st'
        | .ex e env' st' => .ex e env' st'
        | .no => .no) = _
      rw [h1]; exact k1
    · have e : c + 1 + m = c + (m + 1) := by omega
      rw [← e]; exact k2
/-- a for over range: its turns are counted -/
theorem hfor {tg : T} {e : E} {b ss : Ss} {Q : D → Prop} (G : Int → Prop) (J : Nat → Env → Prop) (N : Nat) (hN : N < 16777216) (he : HE C sub P e env fun d => ∃ m : Int, d = .int m ∧ (0 ≤ m ∧ m ≤ N) ∧ G m) (h0 : J 0 env)
    (step : ∀ c, c < N → ∀ (x : Int) env, J c env → ∃ env1, asg tg (.int x) env = some env1 ∧ HN C sub W P b env1 (J (c + 1)))
    (rest : ∀ c : Nat, c ≤ N → G (c : Nat) → ∀ env, J c env → HS C sub W P ss env Q) : HS C sub W P (.cons (.forr tg (.rng1 e) b) ss) env Q := fun st p => by
  obtain ⟨_, st1, a1, ⟨m, rfl, ⟨m0, m1⟩, mg⟩, a3⟩ := he st p
  obtain ⟨env2, st2, k1, k2, k3⟩ := forJ (P := P) (f := fun x env1 => match asg tg x env1 with
    | some env2 => evSs C sub W b env2
    | none => nonS) J N (fun c hc x env j st p => by
      obtain ⟨env1, s1, s2⟩ := step c hc x env j
      obtain ⟨env2, st2, q1, q2, q3⟩ := s2 st p
      exact ⟨env2, st2, by simp only [s1]; exact q1, q2, q3⟩) m.toNat 0 0 env st1 (by omega) h0 a3
  obtain ⟨d, st3, r1, r2, r3⟩ := rest (0 + m.toNat) (by omega) (by have e : ((0 + m.toNat : Nat) : Int) = m := (by omega); exact (congrArg G e).mpr mg) env2 k2 st2 k3
  refine ⟨d, st3, ?_, r2, r3⟩
  have e1 : its C sub (.rng1 e) env st = .ok (AB.range 0 m.toNat) st1 := by
    show bnd (ev C sub e env) (fun x => lft (rngP (.int 0) x)) st = _
    rw [bnd_of a1]
    have : rngP (.int 0) (.int m) = some (AB.range 0 m.toNat) := by
      show (if (0 : Int).natAbs < 2 ^ 24 ∧ m.natAbs < 2 ^ 24 then some (AB.range 0 (m - 0).toNat) else none) = _
      rw [if_pos ⟨by decide, by omega⟩]; simp
    rw [this]; rfl
  show thenS (onE (its C sub (.rng1 e) env) env fun xs => forS (fun x env1 => match asg tg x env1 with
    | some env2 => evSs C sub W b env2
    | none => nonS) xs env) (fun env' => evSs C sub W ss env') st = _
  unfold thenS onE; rw [e1]; simp only []; rw [k1]; exact r1
end
/-- guests as they are drawn -/
structure GuOk (g : Gu) : Prop where
  seat : PlOk g.seat
  ne : g.seat ≠ ⟨true, 0⟩
  wants : g.wants ∈ (["g", "r", "gr", "gr", "gry", "ry"] : List Str)
  pause : 1 ≤ g.pause ∧ g.pause ≤ 60
  most : 1 ≤ g.most ∧ g.most ≤ 4
structure BeOk (b : Be) : Prop where
  ng : 1 ≤ b.gs.length ∧ b.gs.length ≤ 2
  ro : 1 ≤ b.ro ∧ b.ro ≤ 3
  gs : ∀ g ∈ b.gs, GuOk g
def Jb (n : Nat) (c : Nat) (env : Env) : Prop := ∃ (gs : List Gu) (a b c' d : Option D), env = [some (.ref n), some (.tup (gs.map eG)), a, b, c', d] ∧ gs.length = c ∧ ∀ g ∈ gs, GuOk g
/-- a list of constants -/
theorem hcl {C : Nat → List D → M D} {sub : Nat → Nat → Bool} {env : Env} {P : Store → Prop} {es : Es} {ds : List D} (h : EsP C sub es env ds) : HE C sub P (.lst es) env fun d => ∃ xs, d = .lst xs ∧ xs = ds := hw (hp (plst h)) fun d e => ⟨ds, e, rfl⟩
theorem eqKit (q : Pl) (st : Store) : coM .eq (eP q) (.tup [.str "b", .int 0]) st = .ok (.bl (q.b && ((q.i == 0) && true))) st := by
  obtain ⟨b, i⟩ := q
  cases b <;> rfl
theorem hofc {k n i : Nat} {L : Store} {env : Env} {es : Es} {ds : List D} {Q : D → Prop} (hv : vget env[i]? = some (.ref n)) (he : EsP (RN (k + 2)) subT es env ds) (h0 : 0 < ds.length) (h1 : ds.length < 1000) (h : ∀ d ∈ ds, Q d) : HE (RN (k + 2)) subT (SrcS n L) (.call 18 (.cons (.v i) (.cons (.lst es) .nil))) env Q :=
  hof hv (hcl he) fun xs e => by subst e; exact ⟨h0, h1, h⟩
theorem gpre {C : Nat → List D → M D} {sub : Nat → Nat → Bool} {env : Env} {P : Store → Prop} {α : Type} {e : E} {d : D} {es : Es} {F : α → List D} {G : α → Prop} (he : EvP C sub e env d) (t : HEs C sub P es env fun ds => ∃ x, ds = F x ∧ G x) : HEs C sub P (.cons e es) env fun ds => ∃ x, ds = d :: F x ∧ G x :=
  gcons (hp he) t fun d' ds a b => by obtain ⟨x, rfl, h⟩ := b; subst a; exact ⟨x, rfl, h⟩
theorem gone {C : Nat → List D → M D} {sub : Nat → Nat → Bool} {env : Env} {P : Store → Prop} {e : E} {G : Int → Prop} (he : HE C sub P e env fun d => ∃ r : Int, d = .int r ∧ G r) : HEs C sub P (.cons e .nil) env fun ds => ∃ r : Int, ds = [.int r] ∧ G r :=
  gcons he gnil fun d' ds a b => by obtain ⟨x, rfl, h⟩ := a; subst b; exact ⟨x, rfl, h⟩
theorem ints_mem {lo hi : Int} {xs : List Int} (h : ∀ x ∈ xs, lo ≤ x ∧ x ≤ hi) : ∀ d ∈ xs.map D.int, ∃ r : Int, d = .int r ∧ lo ≤ r ∧ r ≤ hi := fun d hd => by
  obtain ⟨x, h1, rfl⟩ := List.mem_map.mp hd
  exact ⟨x, rfl, h x h1⟩
theorem r_belt {k n : Nat} {L : Store} (st : Store) (p : SrcS n L st) : ∃ d st', RN (k + 3) 20 [.ref n] st = .ok d st' ∧ (∃ b : Be, d = eB b ∧ BeOk b) ∧ SrcS n L st' := by
  refine run_h (fd := f20) rfl rfl (hset (hp (ptup qnil)) fun d hd => ⟨_, rfl, hfor (fun m => 1 ≤ m) (Jb n) 2 (by omega) (hbin (hp pc) (hdraw (k := k + 1) (many := 2) (by subst hd; rfl) pc (by omega) (by omega)) fun x y a b => ?_) ⟨[], none, none, none, none, by subst hd; rfl, rfl, by simp⟩ (fun c hc x env j => ?_) fun c hc hG env j => ?_⟩) st p
  · obtain ⟨r, rfl, h⟩ := b; subst a
    exact ⟨.int (1 + r), fun st => rfl, _, rfl, ⟨by omega, by omega⟩, by omega⟩
  · obtain ⟨gs, a, b, c', d, rfl, hl, hg⟩ := j
    refine ⟨_, rfl, jset (A := fun d => ∃ q : Pl, d = eP q ∧ PlOk q) (hcall (gp (qcons (pv rfl) qnil)) fun ds hd st p => by subst hd; exact r_place (k := k) st p) fun d1 hd1 => ⟨_, rfl, ?_⟩⟩
    obtain ⟨q, rfl, hq⟩ := hd1
    refine jset (A := fun d => ∃ q : Pl, d = eP q ∧ PlOk q ∧ q ≠ ⟨true, 0⟩) (hite (T := fun t => t = (q.b && ((q.i == 0) && true))) (hcmp (hp (pv rfl)) (hp (ptup (qcons pc (qcons pc qnil)))) fun x y a b => ?_) (fun _ => ?_) fun ht => ?_) fun d2 hd2 => ⟨_, rfl, ?_⟩
    · subst a; subst b
      exact ⟨_, eqKit q, _, rfl, rfl⟩
    · refine htup (B := fun ds => ∃ r : Int, ds = [.str "b", .int r] ∧ 1 ≤ r ∧ r < 4) (gcons (hp pc) (gcons (hbin (Q := fun d => ∃ r : Int, d = .int r ∧ 1 ≤ r ∧ r < 4) (hp pc) (hdraw (k := k + 1) (many := 3) rfl pc (by omega) (by omega)) fun x y a b => ?_) gnil (R := fun ds => ∃ r : Int, ds = [.int r] ∧ 1 ≤ r ∧ r < 4) fun d ds a b => ?_) fun d ds a b => ?_) fun ds h => ?_
      · obtain ⟨r, rfl, h⟩ := b; subst a; exact ⟨.int (1 + r), fun st => rfl, _, rfl, by omega, by omega⟩
      · obtain ⟨r, rfl, h⟩ := a; subst b; exact ⟨r, rfl, h⟩
      · obtain ⟨r, rfl, h⟩ := b; subst a; exact ⟨r, rfl, h⟩
      · obtain ⟨r, rfl, h⟩ := h
        refine ⟨⟨true, r⟩, rfl, ⟨by simp; omega, by simp; omega⟩, fun e => ?_⟩
        injection e with _ e; omega
    · refine hw (hp (pv rfl)) fun d e => ⟨q, e, hq, fun e => ?_⟩
      subst e; simp at ht
    · obtain ⟨q2, rfl, hq2, hne⟩ := hd2
      refine jset (A := fun d => ∃ w : Str, d = .str w ∧ w ∈ (["g", "r", "gr", "gr", "gry", "ry"] : List Str)) (hofc (k := k) rfl (qcons pc (qcons pc (qcons pc (qcons pc (qcons pc (qcons pc qnil)))))) (by decide) (by decide) fun d hd => ?_) fun d3 hd3 => ⟨_, rfl, ?_⟩
      · have e : d ∈ (["g", "r", "gr", "gr", "gry", "ry"] : List Str).map D.str := hd
        obtain ⟨w, hw, rfl⟩ := List.mem_map.mp e
        exact ⟨w, rfl, hw⟩
      obtain ⟨w, rfl, hw3⟩ := hd3
      refine jset (A := fun d => ∃ r : Int, d = .int r ∧ 1 ≤ r ∧ r ≤ 60) (hof (k := k) (A := fun ds => ∃ r : Int, ds = [.int 1, .int 2, .int 5, .int 12, .int r] ∧ 1 ≤ r ∧ r ≤ 60) rfl (hlst (gpre pc (gpre pc (gpre pc (gpre pc (gone (hbin (Q := fun d => ∃ r : Int, d = .int r ∧ 1 ≤ r ∧ r ≤ 60) (hp pc) (hdraw (k := k + 1) (many := 60) rfl pc (by omega) (by omega)) fun x y a b => ?_)))))) fun ds h => ⟨ds, rfl, h⟩) fun ds h => ?_) fun d4 hd4 => ⟨_, rfl, ?_⟩
      · obtain ⟨r, rfl, h⟩ := b; subst a; exact ⟨.int (1 + r), fun st => rfl, _, rfl, by omega, by omega⟩
      · obtain ⟨r, rfl, h⟩ := h
        exact ⟨by simp, by simp, ints_mem (xs := [1, 2, 5, 12, r]) (by simp; omega)⟩
      obtain ⟨r4, rfl, h4⟩ := hd4
      refine jset (A := fun d => ∃ g : Gu, d = .tup ((gs ++ [g]).map eG) ∧ GuOk g) (hbin (B := fun d => ∃ g : Gu, d = .tup [eG g] ∧ GuOk g) (hp (pv rfl)) (htup (gcons (B := (· = [])) (A := fun d => ∃ g : Gu, d = eG g ∧ GuOk g) (R := fun ds => ∃ g : Gu, ds = [eG g] ∧ GuOk g) (htup (gpre (pv rfl) (gpre (pv rfl) (gpre (pv rfl) (gone (G := fun r => 1 ≤ r ∧ r ≤ 4) (hofc (k := k) rfl (qcons pc (qcons pc (qcons pc (qcons pc (qcons pc qnil))))) (by decide) (by decide) (ints_mem (xs := [1, 2, 2, 3, 4]) (by decide))))))) fun ds h => ?_) gnil fun d ds a b => ?_) fun ds h => ?_) fun x y a b => ?_) fun d5 hd5 => ⟨_, rfl, jnil ?_⟩
      · obtain ⟨m, rfl, hm⟩ := h
        exact ⟨⟨q2, w, r4, m⟩, rfl, ⟨hq2, hne, hw3, h4, hm⟩⟩
      · obtain ⟨g, rfl, h⟩ := a; subst b; exact ⟨g, rfl, h⟩
      · obtain ⟨g, rfl, h⟩ := h; exact ⟨g, rfl, h⟩
      · obtain ⟨g, rfl, h⟩ := b; subst a
        refine ⟨.tup ((gs ++ [g]).map eG), fun st => ?_, g, rfl, h⟩
        show lft (if (gs.map eG).length + 1 ≤ szLine then some (D.tup (gs.map eG ++ [eG g])) else none) st = _
        rw [if_pos (by simp [szLine]; omega)]
        simp [lft, ret]
      · obtain ⟨g, rfl, h⟩ := hd5
        exact ⟨gs ++ [g], _, _, _, _, rfl, by simp [hl], fun x hx => by
          rcases List.mem_append.mp hx with h1 | h1
          · exact hg x h1
          · rw [List.mem_singleton.mp h1]; exact h⟩
  · obtain ⟨gs, a, b, c', d, rfl, hl, hg⟩ := j
    refine hrt (htup (gpre (pv rfl) (gone (G := fun r => 1 ≤ r ∧ r ≤ 3) (hofc (k := k) rfl (qcons pc (qcons pc (qcons pc (qcons pc qnil)))) (by decide) (by decide) (ints_mem (xs := [1, 2, 2, 3]) (by decide))))) fun ds h => ?_)
    obtain ⟨m, rfl, hm⟩ := h
    exact ⟨⟨gs, m⟩, rfl, ⟨by simp only []; omega, hm, hg⟩⟩
end AB

set_option Elab.async false
set_option linter.all false
set_option autoImplicit false
set_option maxRecDepth 100000
set_option maxHeartbeats 4000000
/-! MirW: plates drawn. -/
namespace AB
open PySem
structure PtOk (t : Pt) : Prop where
  min : 0 ≤ t.min ∧ t.min ≤ 300
  pl : PlOk t.pl
  kind : t.kind ∈ (["g", "r", "r", "y"] : List Str)
/-- plates as they are drawn: not before the one ahead -/
structure PtsOk (ps : List Pt) : Prop where
  all : ∀ t ∈ ps, PtOk t
  up : ps.Pairwise fun s t => s.min ≤ t.min
def Jp (n : Nat) (most : Int) (c : Nat) (env : Env) : Prop := ∃ (ps : List Pt) (m : Int) (a b d : Option D), env = [some (.ref n), some (.int most), a, some (.tup (ps.map eT)), some (.int m), b, d] ∧ ps.length = c ∧ 0 ≤ m ∧ PtsOk ps ∧ ∀ t ∈ ps, t.min ≤ min m 300
theorem r_plates {k n : Nat} {L : Store} {most : Int} (hm : 0 ≤ most) (hm2 : most ≤ 1000) (st : Store) (p : SrcS n L st) : ∃ d st', RN (k + 3) 21 [.ref n, .int most] st = .ok d st' ∧ (∃ ps : List Pt, d = .tup (ps.map eT) ∧ PtsOk ps ∧ ps.length ≤ most.toNat) ∧ SrcS n L st' := by
  refine run_h (fd := f21) rfl rfl (hset (hp (ptup (qcons (ptup qnil) (qcons pc qnil)))) fun d hd => ⟨[some (.ref n), some (.int most), none, some (.tup []), some (.int 0), none, none], by subst hd; rfl, hfor (fun m => m ≤ most) (Jp n most) most.toNat (by omega) (hw (hdraw (k := k + 1) (many := most + 1) rfl (pbin (pv rfl) pc fun _ => rfl) (by omega) (by omega)) fun d h => ?_) ⟨[], 0, none, none, none, rfl, rfl, by omega, ⟨by simp, List.Pairwise.nil⟩, by simp⟩ (fun c hc x env j => ?_) fun c hc hG env j => ?_⟩) st p
  · obtain ⟨r, rfl, h1, h2⟩ := h
    exact ⟨r, rfl, ⟨h1, by omega⟩, by omega⟩
  · obtain ⟨ps, m, a, b, d, rfl, hl, h0, h1, h2⟩ := j
    refine ⟨_, rfl, jset (A := fun d => ∃ r : Int, d = .int r ∧ m ≤ r) (hbin (B := fun d => ∃ r : Int, d = .int r ∧ 0 ≤ r) (hp (pv rfl)) (hof (k := k) (A := fun ds => ∃ r : Int, ds = [.int 0, .int 0, .int 1, .int 1, .int 3, .int 9, .int r] ∧ 0 ≤ r ∧ r < 70) rfl (hlst (gpre pc (gpre pc (gpre pc (gpre pc (gpre pc (gpre pc (gone (hdraw (k := k + 1) (many := 70) rfl pc (by omega) (by omega))))))))) fun ds h => ⟨ds, rfl, h⟩) fun ds h => ?_) fun x y a b => ?_) fun d1 hd1 => ⟨_, rfl, ?_⟩⟩
    · obtain ⟨r, rfl, h⟩ := h
      refine ⟨by simp, by simp, fun d hd => ?_⟩
      obtain ⟨r2, e, q1, q2⟩ := ints_mem (lo := 0) (hi := 70) (xs := [0, 0, 1, 1, 3, 9, r]) (by simp; omega) d hd
      exact ⟨r2, e, q1⟩
    · obtain ⟨r, rfl, h⟩ := b; subst a
      exact ⟨.int (m + r), fun st => rfl, _, rfl, by omega⟩
    obtain ⟨r, rfl, hr⟩ := hd1
    refine jset (A := fun d => ∃ q : Pl, d = eP q ∧ PlOk q) (hite (T := fun _ => True) (hcmp (hdraw (k := k + 1) (many := 2) rfl pc (by omega) (by omega)) (hp pc) fun x y hx hy => ?_) (fun _ => hcall (gp (qcons (pv rfl) qnil)) fun ds hd st p => by subst hd; exact r_place (k := k) st p) fun _ => ?_) fun d2 hd2 => ⟨_, rfl, ?_⟩
    · obtain ⟨r, rfl, _⟩ := hx
      subst hy
      exact ⟨r == 0, fun st => rfl, _, rfl, trivial⟩
    · exact hw (hp (ptup (qcons pc (qcons pc qnil)))) fun d e => ⟨⟨true, 0⟩, e, ⟨by simp, by simp⟩⟩
    obtain ⟨q, rfl, hq⟩ := hd2
    refine jset (A := fun d => ∃ w : Str, d = .str w ∧ w ∈ (["g", "r", "r", "y"] : List Str)) (hofc (k := k) rfl (qcons pc (qcons pc (qcons pc (qcons pc qnil)))) (by decide) (by decide) fun d hd => ?_) fun d3 hd3 => ⟨_, rfl, ?_⟩
    · have e : d ∈ (["g", "r", "r", "y"] : List Str).map D.str := hd
      obtain ⟨w, hw, rfl⟩ := List.mem_map.mp e
      exact ⟨w, rfl, hw⟩
    obtain ⟨w, rfl, hw3⟩ := hd3
    refine jset (A := (· = .tup ((ps ++ [Pt.mk (min r 300) q w]).map eT))) (hbin (hp (pv rfl)) (hp (ptup (qcons (ptup (qcons (pbi (d := .int (min r 300)) (qcons (pv rfl) (qcons pc qnil)) fun st => ?_) (qcons (pv rfl) (qcons (pv rfl) qnil)))) qnil))) fun x y a b => ?_) fun d5 hd5 => ⟨_, rfl, jnil ?_⟩
    · show lft (some (D.int (if 300 < r then 300 else r))) st = _
      have e : (if 300 < r then 300 else r) = min r 300 := by split <;> omega
      rw [e]; rfl
    · subst a; subst b
      refine ⟨_, fun st => ?_, rfl⟩
      show lft (if (ps.map eT).length + 1 ≤ szLine then some (D.tup (ps.map eT ++ [eT (Pt.mk (min r 300) q w)])) else none) st = _
      rw [if_pos (by simp [szLine]; omega)]
      simp [lft, ret]
    · subst hd5
      refine ⟨ps ++ [Pt.mk (min r 300) q w], r, _, _, _, rfl, by simp [hl], by omega, ⟨fun t ht => ?_, ?_⟩, fun t ht => ?_⟩
      · rcases List.mem_append.mp ht with h | h
        · exact h1.all t h
        · rw [List.mem_singleton.mp h]; exact ⟨by simp only []; omega, hq, hw3⟩
      · refine List.pairwise_append.mpr ⟨h1.up, by simp, fun s hs t ht => ?_⟩
        rw [List.mem_singleton.mp ht]
        have := h2 s hs
        simp only []; omega
      · rcases List.mem_append.mp ht with h | h
        · have := h2 t h; omega
        · rw [List.mem_singleton.mp h]; simp only []; omega
  · obtain ⟨ps, m, a, b, d, rfl, hl, h0, h1, h2⟩ := j
    exact hrt (hw (hp (pv rfl)) fun d e => ⟨ps, e, h1, by omega⟩)
end AB

set_option Elab.async false
set_option linter.all false
set_option autoImplicit false
set_option maxRecDepth 100000
set_option maxHeartbeats 4000000
/-! MirP: what is drawn is let through by the checks. -/
namespace AB
open PySem
local macro_rules | `(tactic| trivial) => `(tactic| (intro _; trivial))
local macro_rules | `(tactic| trivial) => `(tactic| (apply aisi; trivial; exact rfl))
local macro_rules | `(tactic| trivial) => `(tactic| (apply abi; trivial; first | exact rfl | assumption))
local macro_rules | `(tactic| trivial) => `(tactic| (apply asll; trivial; trivial; first | exact rfl | assumption))
local macro_rules | `(tactic| trivial) => `(tactic| (apply aslh; trivial; trivial; first | exact rfl | assumption))
local macro_rules | `(tactic| trivial) => `(tactic| (apply achn; trivial; trivial; exact rfl; trivial; (intro _; exact rfl)))
local macro_rules | `(tactic| trivial) => `(tactic| (apply aif; trivial; trivial; trivial))
local macro_rules | `(tactic| trivial) => `(tactic| (apply aor; trivial; trivial))
local macro_rules | `(tactic| trivial) => `(tactic| (apply aand; trivial; trivial))
local macro_rules | `(tactic| trivial) => `(tactic| (apply ant; trivial))
local macro_rules | `(tactic| trivial) => `(tactic| (apply aneg; trivial))
local macro_rules | `(tactic| trivial) => `(tactic| (apply acmp; trivial; trivial; first | exact rfl | assumption))
local macro_rules | `(tactic| trivial) => `(tactic| (apply aix; trivial; trivial; first | exact rfl | assumption))
local macro_rules | `(tactic| trivial) => `(tactic| (apply abin; trivial; trivial; first | exact rfl | assumption))
local macro_rules | `(tactic| trivial) => `(tactic| (apply atup; trivial))
local macro_rules | `(tactic| trivial) => `(tactic| (apply alst; trivial))
local macro_rules | `(tactic| trivial) => `(tactic| (apply acall; trivial; trivial))
local macro_rules | `(tactic| trivial) => `(tactic| (apply bcons; trivial; trivial))
local macro_rules | `(tactic| trivial) => `(tactic| exact bnil)
local macro_rules | `(tactic| trivial) => `(tactic| exact av rfl)
local macro_rules | `(tactic| trivial) => `(tactic| exact ac)
local macro_rules | `(tactic| trivial) => `(tactic| assumption)
local macro_rules | `(tactic| trivial) => `(tactic| exact c_less _ _ _ _ _)
local macro_rules | `(tactic| trivial) => `(tactic| exact c_added _ _ _ _ _)
theorem c_num (k : Nat) (v l m : Int) : Cl (k + 1) 0 [.int v, .int l, .int m] (.bl (decide (l ≤ v) && decide (v ≤ m))) := cl_of (fd := f0) rfl rfl fun s => by
  apply trt
  exact aand (p := true) (aisi (av rfl) rfl) fun _ => aand (p := true) (ant (b := false) (aisi (av rfl) rfl)) fun _ => achn (av rfl) (av rfl) rfl (fun _ => av rfl) fun _ => rfl
theorem c_num1 (k : Nat) {v l m : Int} (h : l ≤ v ∧ v ≤ m) : Cl (k + 1) 0 [.int v, .int l, .int m] (.bl true) := by
  have := c_num k v l m
  rw [decide_eq_true h.1, decide_eq_true h.2] at this
  exact this
theorem c_tupn (k : Nat) (xs : List D) (l m : Int) : Cl (k + 1) 1 [.tup xs, .int l, .int m] (.bl (decide (l ≤ (xs.length : Int)) && decide ((xs.length : Int) ≤ m))) := cl_of (fd := f1) rfl rfl fun s => by
  apply trt
  exact aand (p := true) (aisi (av rfl) rfl) fun _ => achn (av rfl) (abi (bcons (av rfl) bnil) rfl) rfl (fun _ => av rfl) fun _ => rfl
theorem c_tupn1 (k : Nat) {xs : List D} {l m : Int} (h : l ≤ (xs.length : Int) ∧ (xs.length : Int) ≤ m) : Cl (k + 1) 1 [.tup xs, .int l, .int m] (.bl true) := by
  have := c_tupn k xs l m
  rw [decide_eq_true h.1, decide_eq_true h.2] at this
  exact this
theorem c_kind (k : Nat) {w : Str} (h : w ∈ (["g", "r", "y"] : List Str)) : Cl (k + 1) 2 [.str w] (.bl true) := by
  simp only [List.mem_cons, List.not_mem_nil, or_false] at h
  rcases h with rfl | rfl | rfl <;> exact cl_of (fd := f2) rfl rfl fun s => ⟨rfl⟩
theorem c_plc (k : Nat) {p : Pl} (h : PlOk p) : Cl (k + 2) 3 [eP p] (.bl true) := cl_of (fd := f3) rfl rfl fun s => by
  obtain ⟨b, i⟩ := p
  obtain ⟨h1, h2⟩ := h
  have c1 := c_tupn1 k (xs := [.str (if b then "b" else "t"), .int i]) (l := 2) (m := 2) (by simp)
  cases b with
  | true =>
    have c2 := c_num1 k (v := i) (l := 0) (m := 4) ⟨h1, h2⟩
    refine tif (c := false) (q := .ok (.nx _) s) (aor (p := false) (ant (b := true) (acall (bcons (av rfl) (bcons ac (bcons ac bnil))) c1)) fun _ => aor (p := false) (ant (b := true) (aisi (aix (av rfl) ac rfl) rfl)) fun _ => acmp (t := false) (aix (av rfl) ac rfl) (atup (bcons ac (bcons ac bnil))) rfl) (fun h => by cases h) (fun _ => tnil) ?_
    refine (trt (acall (bcons (aix (av rfl) ac rfl) (bcons (d := .int 0) (aite (c := true) (acmp (aix (av rfl) ac rfl) ac rfl) (fun _ => ac) fun h => by cases h) (bcons ac bnil))) c2) : Sa _ _ _ _ _ _ _).go
  | false =>
    have c2 := c_num1 k (v := i) (l := 1) (m := 4) ⟨h1, h2⟩
    refine tif (c := false) (q := .ok (.nx _) s) (aor (p := false) (ant (b := true) (acall (bcons (av rfl) (bcons ac (bcons ac bnil))) c1)) fun _ => aor (p := false) (ant (b := true) (aisi (aix (av rfl) ac rfl) rfl)) fun _ => acmp (t := false) (aix (av rfl) ac rfl) (atup (bcons ac (bcons ac bnil))) rfl) (fun h => by cases h) (fun _ => tnil) ?_
    refine (trt (acall (bcons (aix (av rfl) ac rfl) (bcons (d := .int 1) (aite (c := false) (acmp (aix (av rfl) ac rfl) ac rfl) (fun h => by cases h) (fun _ => ac)) (bcons ac bnil))) c2) : Sa _ _ _ _ _ _ _).go
abbrev WW : List Str := ["g", "r", "y", "gr", "gy", "ry", "gry"]
theorem wants0 (k : Nat) {w : Str} (ws : List Str) (hw : items (.str w) = some (ws.map D.str)) (hk : ∀ x ∈ ws, x ∈ (["g", "r", "y"] : List Str)) (hl : ws.length < 100) (h1 : ∀ s, Sa (RN (k + 1)) subT 100000 (.cons (.rt (.bi .all (.cons (.comp (.cmp .lt (.v 1) (.v 2)) (.t (.cons (.n 1) (.cons (.n 2) .nil))) (.zip (.v 0) (.sll (.v 0) (.c (.int 1)))) (.c (.bl true)) [1, 2]) .nil))) .nil) [some (.str w), none, none, none] s (.ok (.rt (.bl true)) s))
    (h2 : ∀ s, coM .le (.int 1) (.int w.length) s = .ok (.bl true) s) (h3 : ∀ s, coM .le (.int w.length) (.int 3) s = .ok (.bl true) s) (h4 : ∀ s, biM .len [.str w] s = .ok (.int w.length) s) : Cl (k + 2) 4 [.str w] (.bl true) := cl_of (fd := f4) rfl rfl fun s => by
  have P := acompA (C := RN (k + 1)) (sub := subT) (env := [some (.str w), none, none, none]) (s := s) (s1 := s) (enc := D.str) (elt := .call 2 (.cons (.v 3) .nil)) (tg := .n 3) (it := .ov (.v 0)) (own := [3]) ws (fun _ => D.bl true) (iov (av rfl) hw) rfl
    (fun x hx => ⟨_, rfl, acall (bcons (av rfl) bnil) (c_kind k (hk x hx))⟩) (by unfold szLine; omega)
  have e : biM .all [.lst (ws.map fun _ => D.bl true)] s = .ok (.bl true) s := by
    have e2 : ∀ l : List Str, boolL (l.map fun _ => D.bl true) = some (l.map fun _ => true) := by
      intro l
      induction l with
      | nil => rfl
      | cons a l ih => simp [boolL, ih]
    show lft ((boolL (ws.map fun _ => D.bl true)).map fun bs => D.bl (bs.all id)) s = _
    rw [e2]
    show R.ok (D.bl ((ws.map fun _ => true).all id)) s = _
    simp
  refine tif (c := false) (q := .ok (.nx _) s) (aor (p := false) (ant (b := true) (aisi (av rfl) rfl)) fun _ => aor (p := false) (ant (b := true) (achn (u := true) (v := true) ac (abi (bcons (av rfl) bnil) (h4 s)) (h2 s) (fun _ => ac) fun _ => h3 s)) fun _ => ant (b := true) (abi (bcons P bnil) e)) (fun h => by cases h) (fun _ => tnil) (h1 s).go
theorem c_wants (k : Nat) {w : Str} (h : w ∈ WW) : Cl (k + 2) 4 [.str w] (.bl true) := by
  simp only [WW, List.mem_cons, List.not_mem_nil, or_false] at h
  rcases h with rfl | rfl | rfl | rfl | rfl | rfl | rfl
  · exact wants0 k ["g"] rfl (by decide) (by decide) (fun s => ⟨rfl⟩) (fun s => rfl) (fun s => rfl) fun s => rfl
  · exact wants0 k ["r"] rfl (by decide) (by decide) (fun s => ⟨rfl⟩) (fun s => rfl) (fun s => rfl) fun s => rfl
  · exact wants0 k ["y"] rfl (by decide) (by decide) (fun s => ⟨rfl⟩) (fun s => rfl) (fun s => rfl) fun s => rfl
  · exact wants0 k ["g", "r"] rfl (by decide) (by decide) (fun s => ⟨rfl⟩) (fun s => rfl) (fun s => rfl) fun s => rfl
  · exact wants0 k ["g", "y"] rfl (by decide) (by decide) (fun s => ⟨rfl⟩) (fun s => rfl) (fun s => rfl) fun s => rfl
  · exact wants0 k ["r", "y"] rfl (by decide) (by decide) (fun s => ⟨rfl⟩) (fun s => rfl) (fun s => rfl) fun s => rfl
  · exact wants0 k ["g", "r", "y"] rfl (by decide) (by decide) (fun s => ⟨rfl⟩) (fun s => rfl) (fun s => rfl) fun s => rfl
/-- guests and belts that are let through -/
structure GuV (g : Gu) : Prop where
  seat : PlOk g.seat
  ne : g.seat ≠ ⟨true, 0⟩
  wants : g.wants ∈ WW
  pause : 1 ≤ g.pause ∧ g.pause ≤ 60
  most : 1 ≤ g.most ∧ g.most ≤ 4
structure BeV (b : Be) : Prop where
  ng : 1 ≤ b.gs.length ∧ b.gs.length ≤ 2
  ro : 1 ≤ b.ro ∧ b.ro ≤ 3
  gs : ∀ g ∈ b.gs, GuV g
structure PtV (t : Pt) : Prop where
  min : 0 ≤ t.min ∧ t.min ≤ 300
  pl : PlOk t.pl
  kind : t.kind ∈ (["g", "r", "y"] : List Str)
structure PtsV (ps : List Pt) : Prop where
  np : ps.length ≤ 4
  all : ∀ t ∈ ps, PtV t
  up : ps.Pairwise fun s t => s.min ≤ t.min
theorem GuOk.v {g : Gu} (h : GuOk g) : GuV g := ⟨h.seat, h.ne, by
  have := h.wants
  simp only [List.mem_cons, List.not_mem_nil, or_false, WW] at this ⊢
  rcases this with h | h | h | h | h | h <;> simp [h], h.pause, h.most⟩
theorem BeOk.v {b : Be} (h : BeOk b) : BeV b := ⟨h.ng, h.ro, fun g hg => (h.gs g hg).v⟩
theorem PtOk.v {t : Pt} (h : PtOk t) : PtV t := ⟨h.min, h.pl, by
  have := h.kind
  simp only [List.mem_cons, List.not_mem_nil, or_false] at this ⊢
  rcases this with h | h | h | h <;> simp [h]⟩
theorem PtsOk.v {ps : List Pt} (h : PtsOk ps) (hl : ps.length ≤ 4) : PtsV ps := ⟨hl, fun t ht => (h.all t ht).v, h.up⟩
theorem fit_of {b : Be} {ps : List Pt} (hb : BeV b) (hp : PtsV ps) : Fit b ps := ⟨hb.ng.2, hp.np, ⟨by have := hb.ro; omega, hb.ro.2⟩, fun t ht => by
  have := (hp.all t ht).kind
  simp only [List.mem_cons, List.not_mem_nil, or_false] at this
  rcases this with h | h | h <;> rw [h] <;> rfl⟩
theorem c_guest (k : Nat) {g : Gu} (h : GuV g) : Cl (k + 3) 5 [eG g] (.bl true) := cl_of (fd := f5) rfl rfl fun s => by
  have c1 := c_tupn1 (k + 1) (xs := [eP g.seat, .str g.wants, .int g.pause, .int g.most]) (l := 4) (m := 4) (by simp)
  have c2 := c_plc k h.seat
  have c3 := c_wants k h.wants
  have c4 := c_num1 (k + 1) h.pause
  have c5 := c_num1 (k + 1) h.most
  have ne : (g.seat.b && ((g.seat.i == 0) && true)) = false := by
    have := h.ne
    rcases g with ⟨⟨b, i⟩, w, p, m⟩
    cases b with
    | false => rfl
    | true =>
      simp only [Bool.true_and, Bool.and_true, beq_eq_false_iff_ne, ne_eq]
      intro z; apply this; subst z; rfl
  have e1 := eqKit g.seat s
  rw [ne] at e1
  refine tif (c := false) (q := .ok (.nx _) s) (aor (p := false) (ant (b := true) (acall (bcons (av rfl) (bcons ac (bcons ac bnil))) c1)) fun _ => aor (p := false) (ant (b := true) (acall (bcons (aix (av rfl) ac rfl) bnil) c2)) fun _ => aor (p := false) (acmp (aix (av rfl) ac rfl) (atup (bcons ac (bcons ac bnil))) e1) fun _ => ant (b := true) (acall (bcons (aix (av rfl) ac rfl) bnil) c3)) (fun h => by cases h) (fun _ => tnil) ?_
  exact (trt (aand (p := true) (acall (bcons (aix (av rfl) ac rfl) (bcons ac (bcons ac bnil))) c4) fun _ => acall (bcons (aix (av rfl) ac rfl) (bcons ac (bcons ac bnil))) c5) : Sa _ _ _ _ _ _ _).go
theorem boolL_map {α : Type} (p : α → Bool) : ∀ l : List α, boolL (l.map fun a => D.bl (p a)) = some (l.map p)
  | [] => rfl
  | a :: l => by simp [boolL, boolL_map p l]
theorem bip_all {α : Type} (p : α → Bool) (l : List α) (st : Store) : biM .all [.lst (l.map fun a => D.bl (p a))] st = .ok (.bl (l.all p)) st := by
  show lft ((boolL (l.map fun a => D.bl (p a))).map fun bs => D.bl (bs.all id)) st = _
  rw [boolL_map]
  show R.ok (D.bl ((l.map p).all id)) st = _
  rw [List.all_map]; rfl
theorem bip_any {α : Type} (p : α → Bool) (l : List α) (st : Store) : biM .any [.lst (l.map fun a => D.bl (p a))] st = .ok (.bl (l.any p)) st := by
  show lft ((boolL (l.map fun a => D.bl (p a))).map fun bs => D.bl (bs.any id)) st = _
  rw [boolL_map]
  show R.ok (D.bl ((l.map p).any id)) st = _
  rw [List.any_map]; rfl
theorem c_belt (k : Nat) {b : Be} (h : BeV b) : Cl (k + 4) 6 [eB b] (.bl true) := cl_of (fd := f6) rfl rfl fun s => by
  have hng := h.ng
  have c1 := c_tupn1 (k + 2) (xs := [.tup (b.gs.map eG), .int b.ro]) (l := 2) (m := 2) (by simp)
  have c2 := c_tupn1 (k + 2) (xs := b.gs.map eG) (l := 1) (m := 2) (by rw [List.length_map]; omega)
  have c3 := c_num1 (k + 2) h.ro
  refine tif (c := false) (q := .ok (.nx _) s) (aor (p := false) (ant (b := true) (acall (bcons (av rfl) (bcons ac (bcons ac bnil))) c1)) fun _ => aor (p := false) (ant (b := true) (acall (bcons (aix (av rfl) ac rfl) (bcons ac (bcons ac bnil))) c2)) fun _ => ant (b := true) (acall (bcons (aix (av rfl) ac rfl) (bcons ac (bcons ac bnil))) c3)) (fun h => by cases h) (fun _ => tnil) ?_
  have P := acompA (C := RN (k + 3)) (sub := subT) (env := [some (eB b), none]) (s := s) (s1 := s) (enc := eG) (elt := .call 5 (.cons (.v 1) .nil)) (tg := .n 1) (it := .ov (.ix (.v 0) (.c (.int 0)))) (own := [1]) b.gs (fun _ => D.bl true) (iov (aix (av rfl) ac rfl) rfl) rfl
    (fun g hg => ⟨_, rfl, acall (bcons (av rfl) bnil) (c_guest k (h.gs g hg))⟩) (by unfold szLine; omega)
  have e := bip_all (fun _ : Gu => true) b.gs s
  rw [show (b.gs.all fun _ => true) = true by simp] at e
  exact (trt (abi (bcons P bnil) e) : Sa _ _ _ _ _ _ _).go
theorem c_plate (k : Nat) {t : Pt} (h : PtV t) : Cl (k + 3) 7 [eT t] (.bl true) := cl_of (fd := f7) rfl rfl fun s => by
  have c1 := c_tupn1 (k + 1) (xs := [.int t.min, eP t.pl, .str t.kind]) (l := 3) (m := 3) (by simp)
  have c2 := c_num1 (k + 1) h.min
  have c3 := c_plc k h.pl
  have c4 := c_kind (k + 1) h.kind
  refine tif (c := false) (q := .ok (.nx _) s) (aor (p := false) (ant (b := true) (acall (bcons (av rfl) (bcons ac (bcons ac bnil))) c1)) fun _ => ant (b := true) (acall (bcons (aix (av rfl) ac rfl) (bcons ac (bcons ac bnil))) c2)) (fun h => by cases h) (fun _ => tnil) ?_
  exact (trt (aand (p := true) (acall (bcons (aix (av rfl) ac rfl) bnil) c3) fun _ => acall (bcons (aix (av rfl) ac rfl) bnil) c4) : Sa _ _ _ _ _ _ _).go
theorem zipD_map {α β : Type} (e1 : α → D) (e2 : β → D) : ∀ (l : List α) (k : List β), zipD (l.map e1) (k.map e2) = (l.zip k).map fun p => .tup [e1 p.1, e2 p.2]
  | [], _ => rfl
  | _ :: _, [] => rfl
  | a :: l, b :: k => by simp [zipD, zipD_map e1 e2 l k]
theorem up_zip : ∀ l : List Pt, (l.Pairwise fun s t => s.min ≤ t.min) → ∀ p ∈ l.zip (l.drop 1), p.1.min ≤ p.2.min
  | [], _, p, hp => by cases hp
  | [a], _, p, hp => by cases hp
  | a :: b :: l, h, p, hp => by
    simp only [List.drop_succ_cons, List.drop_zero, List.zip_cons_cons, List.mem_cons] at hp
    have h1 := List.pairwise_cons.mp h
    rcases hp with hp | hp
    · subst hp
      exact h1.1 b List.mem_cons_self
    · exact up_zip (b :: l) h1.2 p hp
theorem sl_one (xs : List D) (st : Store) : slM (.tup xs) (some 1) none st = .ok (.tup (xs.drop 1)) st := by
  show lft (some (D.tup (cutD xs (some ((1 : Nat) : Int)) none))) st = _
  have e : cutD xs (some ((1 : Nat) : Int)) none = xs.drop 1 := by
    unfold cutD
    rw [HT.sIx_none, HT.sIx_nat]
    cases xs with
    | nil => rfl
    | cons a l => simp
  rw [e]; rfl
theorem c_plates (k : Nat) {ps : List Pt} (h : PtsV ps) : Cl (k + 4) 8 [.tup (ps.map eT)] (.bl true) := cl_of (fd := f8) rfl rfl fun s => by
  have hnp := h.np
  have c1 := c_tupn1 (k + 2) (xs := ps.map eT) (l := 0) (m := 4) (by rw [List.length_map]; omega)
  have P := acompA (C := RN (k + 3)) (sub := subT) (env := [some (.tup (ps.map eT)), none, none, none]) (s := s) (s1 := s) (enc := eT) (elt := .call 7 (.cons (.v 3) .nil)) (tg := .n 3) (it := .ov (.v 0)) (own := [3]) ps (fun _ => D.bl true) (iov (av rfl) rfl) rfl
    (fun t ht => ⟨_, rfl, acall (bcons (av rfl) bnil) (c_plate k (h.all t ht))⟩) (by unfold szLine; omega)
  have e := bip_all (fun _ : Pt => true) ps s
  rw [show (ps.all fun _ => true) = true by simp] at e
  refine tif (c := false) (q := .ok (.nx _) s) (aor (p := false) (ant (b := true) (acall (bcons (av rfl) (bcons ac (bcons ac bnil))) c1)) fun _ => ant (b := true) (abi (bcons P bnil) e)) (fun h => by cases h) (fun _ => tnil) ?_
  have Q := acompA (C := RN (k + 3)) (sub := subT) (env := [some (.tup (ps.map eT)), none, none, none]) (s := s) (s1 := s) (enc := fun p : Pt × Pt => .tup [eT p.1, eT p.2]) (elt := .cmp .le (.ix (.v 1) (.c (.int 0))) (.ix (.v 2) (.c (.int 0)))) (tg := .t (.cons (.n 1) (.cons (.n 2) .nil))) (it := .zip (.v 0) (.sll (.v 0) (.c (.int 1)))) (own := [1, 2]) (ps.zip (ps.drop 1)) (fun p => D.bl (decide (p.1.min ≤ p.2.min))) (izip (av rfl) (asll (av rfl) ac (sl_one _ s)) rfl rfl) (by rw [← List.map_drop, zipD_map])
    (fun p _ => ⟨_, rfl, acmp (aix (av rfl) ac rfl) (aix (av rfl) ac rfl) rfl⟩) (by rw [List.length_zip]; unfold szLine; omega)
  have e2 := bip_all (fun p : Pt × Pt => decide (p.1.min ≤ p.2.min)) (ps.zip (ps.drop 1)) s
  rw [show ((ps.zip (ps.drop 1)).all fun p => decide (p.1.min ≤ p.2.min)) = true by
    simp only [List.all_eq_true, decide_eq_true_eq]
    exact up_zip ps h.up] at e2
  exact (trt (abi (bcons Q bnil) e2) : Sa _ _ _ _ _ _ _).go
theorem c_need_belt (k : Nat) {b : Be} (h : BeV b) : Cl (k + 5) 37 [eB b] .non := cl_non (fd := f37) rfl rfl fun s =>
  tif (c := false) (q := .ok (.nx _) s) (ant (b := true) (acall (bcons (av rfl) bnil) (c_belt k h))) (fun h => by cases h) (fun _ => tnil) rfl
theorem c_need_plates (k : Nat) {ps : List Pt} (h : PtsV ps) : Cl (k + 5) 38 [.tup (ps.map eT)] .non := cl_non (fd := f38) rfl rfl fun s =>
  tif (c := false) (q := .ok (.nx _) s) (ant (b := true) (acall (bcons (av rfl) bnil) (c_plates k h))) (fun h => by cases h) (fun _ => tnil) rfl
theorem c_need_order (k : Nat) {b : Be} {ps : List Pt} (h : BeV b) (h2 : PtsV ps) : Cl (k + 6) 39 [eB b, .tup (ps.map eT)] .non := cl_non (fd := f39) rfl rfl fun s =>
  tex (acall (bcons (av rfl) bnil) (c_need_belt k h)) (tex (acall (bcons (av rfl) bnil) (c_need_plates k h2)) tnil)
theorem c_need_n (k : Nat) {n : Int} (h : 10 ≤ n ∧ n ≤ 1000000000000000000000000000000) : Cl (k + 2) 11 [.int n] .non := cl_non (fd := f11) rfl rfl fun s =>
  tif (c := false) (q := .ok (.nx _) s) (ant (b := true) (acall (bcons (av rfl) (bcons ac (bcons ac bnil))) (c_num1 k h))) (fun h => by cases h) (fun _ => tnil) rfl
theorem c_table (k : Nat) {b : Be} {ps : List Pt} (h : BeV b) (h2 : PtsV ps) : Cl (k + 9) 64 [eB b, .tup (ps.map eT)] (.lst ((stor b ps).map (eRw eS))) := cl_of (fd := f64) rfl rfl fun s =>
  tex (acall (bcons (av rfl) (bcons (av rfl) bnil)) (c_need_order (k + 2) h h2)) (trt (acall (bcons (av rfl) (bcons (av rfl) bnil)) (c_stor k b ps (fit_of h h2) h.ng.1)))
end AB

set_option Elab.async false
set_option linter.all false
set_option autoImplicit false
set_option maxRecDepth 100000
set_option maxHeartbeats 4000000
/-! MathC: where stretches end; what stands side by side. -/
namespace AB
open PySem
theorem sg_far {f : Fo} {n m : Int} (h0 : f.1 ≠ 0) (hn : (f.2.natAbs : Int) < n) (hm : (f.2.natAbs : Int) < m) : sg f m = sg f n := by
  rcases Int.lt_or_gt_of_ne h0 with h | h
  · have h1 : ∀ x : Int, (f.2.natAbs : Int) < x → wo f x < 0 := fun x hx => by
      have e : f.1 * x ≤ (-1) * x := Int.mul_le_mul_of_nonneg_right (by omega) (by omega)
      simp only [wo]; omega
    rw [sg_neg (h1 m hm), sg_neg (h1 n hn)]
  · have h1 : ∀ x : Int, (f.2.natAbs : Int) < x → 0 < wo f x := fun x hx => by
      have e : 1 * x ≤ f.1 * x := Int.mul_le_mul_of_nonneg_right (by omega) (by omega)
      simp only [wo]; omega
    rw [sg_pos (h1 m hm), sg_pos (h1 n hn)]
theorem sameTo_le {f : Fo} {n e : Int} (h : sameTo f n = some e) : e ≤ f.2.natAbs := by
  obtain ⟨h1, h2⟩ := same_some h
  have h3 := sameTo_ge h
  rcases Int.lt_or_le (f.2.natAbs : Int) e with q | q
  · exfalso
    have h0 : f.1 ≠ 0 := fun z => h2 (sg_flat z n (e + 1))
    exact h2 ((sg_far h0 q (by omega)).trans (h1 e h3 (by omega)))
  · exact q
theorem untl_le {fs : List Fo} {B : Int} (hB : ∀ f ∈ fs, (f.2.natAbs : Int) ≤ B) {n e : Int} (h : untl fs n = some e) : e ≤ B := by
  obtain ⟨f, hf, h2⟩ := List.mem_filterMap.mp (minI_mem h).1
  have := sameTo_le h2
  have := hB f hf
  omega
/-- no row ends behind B -/
def EndsB {τ : Type} (B : Int) (rows : List (Rw τ)) : Prop := ∀ r ∈ rows, ∀ e, r.2.1 = some e → e ≤ B
theorem rep_endsB {τ : Type} {fs : List Fo} {B : Int} (hB : ∀ f ∈ fs, (f.2.natAbs : Int) ≤ B) (G : Int → τ) (a : Wst τ) (ha : EndsB B a.1) : ∀ k, EndsB B (Nat.repeat (stepW fs G) k a).1
  | 0 => ha
  | k + 1 => by
    have ih := rep_endsB hB G a ha k
    show EndsB B (stepW fs G (Nat.repeat (stepW fs G) k a)).1
    generalize Nat.repeat (stepW fs G) k a = x at ih
    unfold stepW
    split
    · intro r hr e he
      rcases List.mem_append.mp hr with h | h
      · exact ih r h e he
      · rw [List.mem_singleton.mp h] at he
        exact untl_le hB he
    · exact ih
theorem joinS_endsB {τ : Type} [DecidableEq τ] {B : Int} {acc : List (Rw τ)} {r : Rw τ} (h : EndsB B acc) (hr : ∀ e, r.2.1 = some e → e ≤ B) : EndsB B (joinS acc r) := by
  unfold joinS
  split
  · split
    · intro x hx e he
      rcases List.mem_append.mp hx with q | q
      · exact h x ((List.dropLast_sublist acc).subset q) e he
      · rw [List.mem_singleton.mp q] at he
        exact hr e he
    · intro x hx e he
      rcases List.mem_append.mp hx with q | q
      · exact h x q e he
      · rw [List.mem_singleton.mp q] at he
        exact hr e he
  · intro x hx e he
    rcases List.mem_append.mp hx with q | q
    · exact h x q e he
    · rw [List.mem_singleton.mp q] at he
      exact hr e he
theorem joinF_endsB {τ : Type} [DecidableEq τ] {B : Int} : ∀ (rows acc : List (Rw τ)), EndsB B acc → EndsB B rows → EndsB B (rows.foldl joinS acc)
  | [], acc, h, _ => h
  | r :: rs, acc, h, hr => joinF_endsB rs _ (joinS_endsB h (hr r List.mem_cons_self)) fun x hx => hr x (List.mem_cons_of_mem _ hx)
theorem joinR_endsB {τ : Type} [DecidableEq τ] {B : Int} {rows : List (Rw τ)} (h : EndsB B rows) : EndsB B (joinR rows) := joinF_endsB rows [] (fun r hr => by cases hr) h
theorem cov_start {τ : Type} {G : Int → τ} {B : Int} : ∀ (rows : List (Rw τ)) (n : Int) (e : Option Int), CovE G n rows e → EndsB B rows → n ≤ B + 1 → ∀ r ∈ rows, r.1 ≤ B + 1
  | [], n, e, _, _, _, r, hr => by cases hr
  | q :: rs, n, e, h, hB, hn, r, hr => by
    obtain ⟨q1, q2, q3⟩ := q
    have h1 : q1 = n := h.1
    rcases List.mem_cons.mp hr with h3 | h3
    · subst h3; simp only; omega
    · cases q2 with
      | none =>
        have : rs = [] := h.2.1
        subst this
        cases h3
      | some y =>
        have hy : y ≤ B := hB _ List.mem_cons_self y rfl
        exact cov_start rs (y + 1) e h.2.2.2 (fun x hx => hB x (List.mem_cons_of_mem _ hx)) (by omega) r h3
theorem pf_2 {p : Pl} (h : PlOk p) : (pf p).2.natAbs ≤ 4 := by
  obtain ⟨b, i⟩ := p
  obtain ⟨h1, h2⟩ := h
  cases b <;> simp only [pf, if_true, if_false, Bool.false_eq_true] at * <;> omega
theorem furth_2 {p g : Pl} (hp : PlOk p) (hg : PlOk g) : (furth p g).2.natAbs ≤ 8 := by
  have := pf_2 hp
  have := pf_2 hg
  unfold furth
  split <;> simp only [plus, minus] <;> omega
theorem cms_2 {b : Be} {ps : List Pt} (hb : BeV b) (hp : PtsV ps) {c : Cm} (h : c ∈ cms b ps) : c.1.2.natAbs ≤ 308 := by
  obtain ⟨g, t, h1, h2, u, _, h4, _⟩ := cms_mem b ps (fit_of hb hp) h
  have hg := (hb.gs g (List.mem_of_getElem? h1)).seat
  have ht := hp.all t (List.mem_of_getElem? h2)
  have := furth_2 ht.pl hg
  have := ht.min
  rw [h4]
  simp only [fm, plus]
  omega
theorem tests_2 {b : Be} {ps : List Pt} (hb : BeV b) (hp : PtsV ps) {f : Fo} (h : f ∈ tests b ps) : (f.2.natAbs : Int) ≤ 700 := by
  have h := (mem_tests.mp h).1
  unfold tests0 at h
  rcases List.mem_append.mp h with h | h
  · unfold pairF at h
    obtain ⟨x, hx, h⟩ := List.mem_flatMap.mp h
    obtain ⟨y, hy, rfl⟩ := List.mem_map.mp h
    obtain ⟨c, hc, rfl⟩ := List.mem_map.mp hx
    obtain ⟨d, hd, rfl⟩ := List.mem_map.mp hy
    have := cms_2 hb hp hc
    have := cms_2 hb hp hd
    simp only [minus]
    omega
  · obtain ⟨g, hg, h⟩ := List.mem_flatMap.mp h
    have hg2 := (hb.gs g.1 (List.fst_mem_of_mem_zipIdx hg)).pause
    unfold ownT at h
    obtain ⟨x, hx, h⟩ := List.mem_flatMap.mp h
    obtain ⟨y, hy, rfl⟩ := List.mem_map.mp h
    unfold ownF at hx hy
    obtain ⟨c, hc, rfl⟩ := List.mem_map.mp hx
    obtain ⟨d, hd, rfl⟩ := List.mem_map.mp hy
    have := cms_2 hb hp (List.mem_filter.mp hc).1
    have := cms_2 hb hp (List.mem_filter.mp hd).1
    simp only [minus]
    omega
theorem stor_endsB {b : Be} {ps : List Pt} (hb : BeV b) (hp : PtsV ps) : EndsB 700 (stor b ps) :=
  joinR_endsB (rep_endsB (fun f hf => tests_2 hb hp hf) (story b ps) ([], some 10) (fun r hr => by cases hr) _)
theorem stor_start {b : Be} {ps : List Pt} (hb : BeV b) (hp : PtsV ps) : ∀ r ∈ stor b ps, r.1 ≤ 701 :=
  cov_start _ 10 none (stor_cov b ps).1 (stor_endsB hb hp) (by omega)
/-! ### side by side -/
theorem cov_pairs {τ : Type} {G : Int → τ} : ∀ (rows : List (Rw τ)) (n : Int) (e : Option Int), CovE G n rows e → Sharp rows → ∀ p ∈ rows.zip (rows.drop 1), ∃ x, p.1.2.1 = some x ∧ p.1.1 ≤ x ∧ p.2.1 = x + 1 ∧ p.1.2.2 ≠ p.2.2.2
  | [], n, e, _, _, p, hp => by cases hp
  | [a], n, e, _, _, p, hp => by cases hp
  | a :: b :: l, n, e, h, hs, p, hp => by
    obtain ⟨a1, a2, a3⟩ := a
    cases a2 with
    | none => have : b :: l = [] := h.2.1; cases this
    | some x =>
      simp only [List.drop_succ_cons, List.drop_zero, List.zip_cons_cons, List.mem_cons] at hp
      rcases hp with hp | hp
      · subst hp
        have h1 : a1 = n := h.1
        have h2 := h.2.1
        exact ⟨x, rfl, by simp only; omega, h.2.2.2.1, hs.1⟩
      · exact cov_pairs (b :: l) (x + 1) e h.2.2.2 hs.2 p hp
theorem cov_ne {τ : Type} {G : Int → τ} {rows : List (Rw τ)} {n : Int} (h : CovE G n rows none) : rows ≠ [] := by
  intro z; subst z; cases h
theorem cov_head {τ : Type} {G : Int → τ} {rows : List (Rw τ)} {n : Int} (h : CovE G n rows none) : ∃ r, rows[0]? = some r ∧ r.1 = n := by
  cases rows with
  | nil => cases h
  | cons r l => exact ⟨r, rfl, h.1⟩
theorem cov_end {τ : Type} {G : Int → τ} : ∀ (rows : List (Rw τ)) (n : Int), CovE G n rows none → ∃ r, rows.getLast? = some r ∧ r.2.1 = none
  | [], n, h => by cases h
  | q :: rs, n, h => by
    obtain ⟨q1, q2, q3⟩ := q
    cases q2 with
    | none =>
      have : rs = [] := h.2.1
      subst this
      exact ⟨_, rfl, rfl⟩
    | some x =>
      obtain ⟨r, h1, h2⟩ := cov_end rs (x + 1) h.2.2.2
      exact ⟨r, by rw [List.getLast?_cons, h1]; rfl, h2⟩
end AB

set_option Elab.async false
set_option linter.all false
set_option autoImplicit false
set_option maxRecDepth 100000
set_option maxHeartbeats 4000000
/-! MirQ: the law's own story, part one: forms, passes, comings. -/
namespace AB
open PySem
local macro_rules | `(tactic| trivial) => `(tactic| (intro _; trivial))
local macro_rules | `(tactic| trivial) => `(tactic| (apply aisi; trivial; exact rfl))
local macro_rules | `(tactic| trivial) => `(tactic| (apply abi; trivial; first | exact rfl | assumption))
local macro_rules | `(tactic| trivial) => `(tactic| (apply asll; trivial; trivial; first | exact rfl | assumption))
local macro_rules | `(tactic| trivial) => `(tactic| (apply aslh; trivial; trivial; first | exact rfl | assumption))
local macro_rules | `(tactic| trivial) => `(tactic| (apply achn; trivial; trivial; exact rfl; trivial; (intro _; exact rfl)))
local macro_rules | `(tactic| trivial) => `(tactic| (apply aif; trivial; trivial; trivial))
local macro_rules | `(tactic| trivial) => `(tactic| (apply aor; trivial; trivial))
local macro_rules | `(tactic| trivial) => `(tactic| (apply aand; trivial; trivial))
local macro_rules | `(tactic| trivial) => `(tactic| (apply ant; trivial))
local macro_rules | `(tactic| trivial) => `(tactic| (apply aneg; trivial))
local macro_rules | `(tactic| trivial) => `(tactic| (apply acmp; trivial; trivial; first | exact rfl | assumption))
local macro_rules | `(tactic| trivial) => `(tactic| (apply aix; trivial; trivial; first | exact rfl | assumption))
local macro_rules | `(tactic| trivial) => `(tactic| (apply abin; trivial; trivial; first | exact rfl | assumption))
local macro_rules | `(tactic| trivial) => `(tactic| (apply atup; trivial))
local macro_rules | `(tactic| trivial) => `(tactic| (apply alst; trivial))
local macro_rules | `(tactic| trivial) => `(tactic| (apply acall; trivial; trivial))
local macro_rules | `(tactic| trivial) => `(tactic| (apply bcons; trivial; trivial))
local macro_rules | `(tactic| trivial) => `(tactic| exact bnil)
local macro_rules | `(tactic| trivial) => `(tactic| exact av rfl)
local macro_rules | `(tactic| trivial) => `(tactic| exact ac)
local macro_rules | `(tactic| trivial) => `(tactic| assumption)
local macro_rules | `(tactic| trivial) => `(tactic| exact c_less _ _ _ _ _)
local macro_rules | `(tactic| trivial) => `(tactic| exact c_added _ _ _ _ _)
/-! ### cells at the end of a store -/
theorem cell_at (s d : Store) (c : Cell) : (s ++ c :: d)[s.length]? = some c := by simp
theorem cell_set (s d : Store) (c e : Cell) : (s ++ c :: d).set s.length e = s ++ e :: d := by simp
theorem drf_ref {st : Store} {n : Nat} {xs : List D} (h : st[n]? = some (.lst xs)) : drf st (.ref n) = .lst xs := by
  show (match st[n]? with
    | some (.lst xs) => D.lst xs
    | some (.scr ns) => .lst (ns.map D.int)
    | _ => .ref n) = _
  rw [h]
theorem ix_ref {st : Store} {n i : Nat} {xs : List D} {d : D} (h : st[n]? = some (.lst xs)) (hx : xs[i]? = some d) : ixM (.ref n) (.int (i : Nat)) st = .ok d st := by
  show lft (ixP (drf st (.ref n)) (i : Nat)) st = _
  rw [drf_ref h]
  show lft (L2.atI xs (i : Int)) st = _
  rw [atI_nat, hx]; rfl
/-! ### forms -/
theorem c_lform (k : Nat) (p : Pl) : Cl (k + 1) 49 [eP p] (eF (pf p)) := cl_of (fd := f49) rfl rfl fun s => by
  obtain ⟨b, i⟩ := p
  cases b <;> exact ⟨rfl⟩
theorem c_lworth (k : Nat) (f : Fo) (n : Int) (h : f.1.natAbs < 2 ^ 64) : Cl (k + 1) 50 [eF f, .int n] (.int (wo f n)) := cl_of (fd := f50) rfl rfl fun s =>
  trt (abin (abin (aix (av rfl) ac rfl) (av rfl) (opM_mul (.inl h) s)) (aix (av rfl) ac rfl) rfl)
theorem c_lplus (k : Nat) (a b c d t : Int) (h : t.natAbs < 2 ^ 64) : Cl (k + 1) 51 [.tup [.int a, .int b], .tup [.int c, .int d], .int t] (.tup [.int (a + t * c), .int (b + t * d)]) := cl_of (fd := f51) rfl rfl fun s =>
  trt (atup (bcons (abin (aix (av rfl) ac rfl) (abin (av rfl) (aix (av rfl) ac rfl) (opM_mul (.inl h) s)) rfl) (bcons (abin (aix (av rfl) ac rfl) (abin (av rfl) (aix (av rfl) ac rfl) (opM_mul (.inl h) s)) rfl) bnil)))
theorem c_lp1 (k : Nat) (f g : Fo) : Cl (k + 1) 51 [eF f, eF g, .int 1] (eF (plus f g)) := by
  have := c_lplus k f.1 f.2 g.1 g.2 1 (by decide)
  rw [Int.one_mul, Int.one_mul] at this
  exact this
theorem c_lpm (k : Nat) (f g : Fo) : Cl (k + 1) 51 [eF f, eF g, .int (-1)] (eF (minus f g)) := by
  have := c_lplus k f.1 f.2 g.1 g.2 (-1) (by decide)
  rw [show f.1 + -1 * g.1 = f.1 - g.1 by omega, show f.2 + -1 * g.2 = f.2 - g.2 by omega] at this
  exact this
theorem c_lpu (k : Nat) (f : Fo) (u : Int) (h : u.natAbs < 2 ^ 64) : Cl (k + 1) 51 [eF f, .tup [.int 1, .int 0], .int u] (eF (plus f (u, 0))) := by
  have := c_lplus k f.1 f.2 1 0 u h
  rw [Int.mul_one, Int.mul_zero] at this
  exact this
def lfar (p g : Pl) : Fo := if 0 ≤ wo (minus (pf g) (pf p)) 100 then minus (pf g) (pf p) else plus (minus (pf g) (pf p)) (1, 0)
theorem lfar_eq {p g : Pl} (hp : PlOk p) (hg : PlOk g) : lfar p g = furth p g := by
  obtain ⟨pb, pi⟩ := p
  obtain ⟨gb, gi⟩ := g
  obtain ⟨p1, p2⟩ := hp
  obtain ⟨g1, g2⟩ := hg
  have key : 0 ≤ wo (minus (pf ⟨gb, gi⟩) (pf ⟨pb, pi⟩)) 100 ↔ ¬ sg (minus (pf ⟨gb, gi⟩) (pf ⟨pb, pi⟩)) 10 < 0 := by
    rcases sg_cases (minus (pf ⟨gb, gi⟩) (pf ⟨pb, pi⟩)) 10 with c | c | c <;> cases pb <;> cases gb <;> simp only [pf, minus, wo, if_true, if_false, Bool.false_eq_true] at * <;> omega
  unfold lfar furth
  by_cases h : 0 ≤ wo (minus (pf ⟨gb, gi⟩) (pf ⟨pb, pi⟩)) 100
  · rw [if_pos h, if_neg (key.mp h)]
  · rw [if_neg h, if_pos (by rcases Int.lt_or_le (sg (minus (pf ⟨gb, gi⟩) (pf ⟨pb, pi⟩)) 10) 0 with z | z; exact z; exact absurd (key.mpr (by omega)) h)]
theorem c_lfar (k : Nat) {p g : Pl} (hp : PlOk p) (hg : PlOk g) : Cl (k + 2) 52 [eP p, eP g] (eF (furth p g)) := cl_of (fd := f52) rfl rfl fun s => by
  have hs := minus_sm p g
  have c1 := c_lform k g
  have c2 := c_lform k p
  have c3 := c_lpm k (pf g) (pf p)
  have c4 := c_lworth k (minus (pf g) (pf p)) 100 (by omega)
  have c5 := c_lp1 k (minus (pf g) (pf p)) (1, 0)
  rw [← lfar_eq hp hg]
  refine tset (s1 := s) (d := eF (minus (pf g) (pf p))) (acall (bcons (acall (bcons (av rfl) bnil) c1) (bcons (acall (bcons (av rfl) bnil) c2) (bcons (aneg ac) bnil))) c3) rfl (trt ?_)
  have e : eF (lfar p g) = if decide (0 ≤ wo (minus (pf g) (pf p)) 100) then eF (minus (pf g) (pf p)) else eF (plus (minus (pf g) (pf p)) (1, 0)) := by
    unfold lfar
    by_cases h : 0 ≤ wo (minus (pf g) (pf p)) 100 <;> simp [h]
  rw [e]
  exact aif (acmp (acall (bcons (av rfl) (bcons ac bnil)) c4) ac rfl) (fun _ => av rfl) fun _ => acall (bcons (av rfl) (bcons (atup (bcons ac (bcons ac bnil))) (bcons ac bnil))) c5
theorem kit_ok : PlOk ⟨true, 0⟩ := ⟨by simp, by simp⟩
def lhome (p : Pl) : Fo := if (p.b && ((p.i == 0) && true)) = true then plus (furth p ⟨true, 0⟩) (1, 0) else furth p ⟨true, 0⟩
theorem lhome_eq {p : Pl} (hp : PlOk p) : lhome p = home p := by
  obtain ⟨b, i⟩ := p
  obtain ⟨h1, h2⟩ := hp
  cases b with
  | true =>
    simp only [if_true] at h1 h2
    by_cases h : i = 0
    · subst h
      rfl
    · have e : furth ⟨true, i⟩ ⟨true, 0⟩ = (1, 0 - i) := by
        unfold furth
        rw [if_pos]
        · simp only [pf, minus, plus, if_true]
          rw [Prod.mk.injEq]; omega
        · rw [sg_neg]; decide
          simp only [pf, minus, wo, if_true]; omega
      unfold lhome home
      rw [if_neg (by simp [h]), e, if_neg (by intro z; injection z with z _; omega)]
  | false =>
    simp only [Bool.false_eq_true, if_false] at h1 h2
    have e : furth ⟨false, i⟩ ⟨true, 0⟩ = (0, i) := by
      unfold furth
      rw [if_pos]
      · simp only [pf, minus, plus, if_true, Bool.false_eq_true, if_false]
        rw [Prod.mk.injEq]; omega
      · rw [sg_neg]; decide
        simp only [pf, minus, wo, if_true, Bool.false_eq_true, if_false]; omega
    unfold lhome home
    rw [if_neg (by simp), e, if_neg (by intro z; injection z with _ z; omega)]
/-- ahead of being off, told at 100 as at 10 -/
theorem lgood_eq {g : Gu} {t : Pt} {ro : Int} (u : Nat) (hg : PlOk g.seat) (ht : PlOk t.pl) : (inW t g && decide (wo (fm t g u) 100 < wo (offF t ro) 100)) = good g t ro (fm t g u) := by
  unfold good
  congr 1
  apply decide_eq_decide.mpr
  have hf := lfar_eq ht hg
  have hh := lhome_eq ht
  have hk := lfar_eq ht kit_ok
  have e1 := wo_minus (fm t g u) (offF t ro) 100
  have e2 := wo_minus (fm t g u) (offF t ro) 10
  have key : wo (minus (fm t g u) (offF t ro)) 100 < 0 ↔ wo (minus (fm t g u) (offF t ro)) 10 < 0 := by
    simp only [fm, offF, ← hf, ← hh, lhome, ← hk]
    obtain ⟨⟨gb, gi⟩, w, pa, mo⟩ := g
    obtain ⟨mi, ⟨tb, ti⟩, kd⟩ := t
    obtain ⟨p1, p2⟩ := ht
    obtain ⟨g1, g2⟩ := hg
    simp only [lfar]
    split <;> split <;> split <;> cases tb <;> cases gb <;> simp only [pf, minus, plus, wo, if_true, if_false, Bool.false_eq_true, Bool.true_and, Bool.and_true, beq_iff_eq, Bool.false_and] at * <;> omega
  rcases sg_cases (minus (fm t g u) (offF t ro)) 10 with c | c | c <;> omega
/-- the forms of a plate's comings to a guest -/
def fms (ro : Int) (g : Gu) (t : Pt) : List Fo := ((List.range' 0 (ro + 1).toNat).filter fun u => good g t ro (fm t g u)).map fun u => fm t g u
theorem cms1_fms (ro : Int) (g : Gu × Nat) (t : Pt × Nat) : cms1 ro g t = (fms ro g.1 t.1).map fun f => (f, g.2, t.2) := by
  unfold cms1 fms
  rw [List.map_map]; rfl
theorem fms_len (ro : Int) (h : 0 ≤ ro ∧ ro ≤ 3) (g : Gu) (t : Pt) : (fms ro g t).length ≤ 4 := by
  unfold fms
  rw [List.length_map]
  refine Nat.le_trans (List.length_filter_le _ _) ?_
  rw [List.length_range']; omega
def fstep (ro : Int) (g : Gu) (t : Pt) (acc : List Fo) (u : Nat) : List Fo := if good g t ro (fm t g u) then acc ++ [fm t g u] else acc
theorem fstep_len (ro : Int) (g : Gu) (t : Pt) (acc : List Fo) (u : Nat) : (fstep ro g t acc u).length ≤ acc.length + 1 := by
  unfold fstep; split
  · simp
  · omega
theorem flat_one {α β : Type} (f : α → β) : ∀ l : List α, (l.flatMap fun a => [f a]) = l.map f
  | [] => rfl
  | a :: l => by simp [List.flatMap_cons, flat_one f l]
theorem fms_fold (ro : Int) (g : Gu) (t : Pt) : (List.range' 0 (ro + 1).toNat).foldl (fstep ro g t) [] = fms ro g t := by
  have := fold_if (fun u => good g t ro (fm t g u)) (fun u => fm t g u) (List.range' 0 (ro + 1).toNat) []
  exact this
abbrev b53b : Ss := (.cons (.set 0 (.n 14) (.call 51 (.cons (.v 12) (.cons (.tup (.cons (.c (.int 1)) (.cons (.c (.int 0)) .nil))) (.cons (.v 11) .nil))))) (.cons (.iff (.and (.cmp .inn (.ix (.v 1) (.c (.int 2))) (.v 8)) (.cmp .lt (.call 50 (.cons (.v 14) (.cons (.c (.int 100)) .nil))) (.call 50 (.cons (.v 5) (.cons (.c (.int 100)) .nil))))) (.cons (.app (.v 13) (.v 14)) .nil) .nil) .nil))
abbrev b53a : Ss := (.cons (.set 2 (.t (.cons (.n 12) (.cons (.n 13) .nil))) (.tup (.cons (.call 51 (.cons (.v 3) (.cons (.call 52 (.cons (.v 4) (.cons (.v 7) .nil))) (.cons (.c (.int 1)) .nil)))) (.cons (.new (.lst .nil)) .nil)))) (.cons (.forr (.n 11) (.rng1 (.bin .add (.ix (.v 0) (.c (.int 1))) (.c (.int 1)))) b53b) (.cons (.frz 13 (.app (.v 6) (.v 13))) .nil)))
/-- the first form of a plate at a seat -/
def fst0 (t : Pt) (g : Gu) : Fo := plus (0, t.min) (furth t.pl g.seat)
theorem fm_fst (t : Pt) (g : Gu) (u : Nat) : plus (fst0 t g) ((u : Int), 0) = fm t g u := rfl
def e53 (b : Be) (t : Pt) (r : Nat) (l : List (Option D)) : Env := [some (eB b), some (eT t), some (eF (plus (0, t.min) (lhome t.pl))), some (eF (0, t.min)), some (eP t.pl), some (eF (offF t b.ro)), some (.ref r)] ++ l
def eG4 (g : Gu) : List (Option D) := [some (eP g.seat), some (.str g.wants), some (.int g.pause), some (.int g.most)]
def R53b (b : Be) (t : Pt) (g : Gu) (r : Nat) (s : Store) (i : Nat) (acc : List Fo) (env : Env) (st : Store) : Prop := ∃ j11 j14, env = [some (eB b), some (eT t), some (eF (plus (0, t.min) (lhome t.pl))), some (eF (0, t.min)), some (eP t.pl), some (eF (offF t b.ro)), some (.ref r), some (eP g.seat), some (.str g.wants), some (.int g.pause), some (.int g.most), j11, some (eF (fst0 t g)), some (.ref s.length), j14] ∧ acc.length ≤ i ∧ st = s ++ [.lst (acc.map eF)]
theorem t53b (k : Nat) (b : Be) (t : Pt) (g : Gu) (r : Nat) (s : Store) (hg : PlOk g.seat) (ht : PlOk t.pl) (hk : t.kind.cps.size = 1) (hro : 0 ≤ b.ro ∧ b.ro ≤ 3) {i u : Nat} (hi : i ≤ 4) (hu : u ≤ 3) {acc : List Fo} {env : Env} {st : Store} (R : R53b b t g r s i acc env st) :
    ∃ env' st', (match asg (.n 11) (.int (u : Nat)) env with
      | some env2 => evSs (RN (k + 2)) subT 100000 b53b env2
      | none => nonS) st = .ok (.nx env') st' ∧ R53b b t g r s (i + 1) (fstep b.ro g t acc u) env' st' := by
  obtain ⟨j11, j14, rfl, hl, rfl⟩ := R
  have sm1 := fm_sm t g u hu
  have sm2 := offF_sm t b.ro hro
  have c1 := c_lpu (k + 1) (fst0 t g) (u : Int) (by omega)
  rw [fm_fst] at c1
  have c2 := c_lworth (k + 1) (fm t g u) 100 (by omega)
  have c3 := c_lworth (k + 1) (offF t b.ro) 100 (by omega)
  refine ⟨[some (eB b), some (eT t), some (eF (plus (0, t.min) (lhome t.pl))), some (eF (0, t.min)), some (eP t.pl), some (eF (offF t b.ro)), some (.ref r), some (eP g.seat), some (.str g.wants), some (.int g.pause), some (.int g.most), some (.int (u : Nat)), some (eF (fst0 t g)), some (.ref s.length), some (eF (fm t g u))], s ++ [.lst ((fstep b.ro g t acc u).map eF)], ?_, _, _, rfl, by have := fstep_len b.ro g t acc u; omega, rfl⟩
  refine Sa.go (r := .ok (.nx _) _) ?_
  refine tset (s1 := s ++ [.lst (acc.map eF)]) (d := eF (fm t g u)) (acall (bcons (av rfl) (bcons (atup (bcons ac (bcons ac bnil))) (bcons (av rfl) bnil))) c1) rfl ?_
  refine tifn (s2 := s ++ [.lst ((fstep b.ro g t acc u).map eF)]) (c := inW t g && decide (wo (fm t g u) 100 < wo (offF t b.ro) 100)) (aand (acmp (aix (av rfl) ac rfl) (av rfl) (in_str hk _)) fun _ => acmp (acall (bcons (av rfl) (bcons ac bnil)) c2) (acall (bcons (av rfl) (bcons ac bnil)) c3) rfl) (fun h => ?_) (fun h => ?_) tnil
  · rw [lgood_eq u hg ht] at h
    have e : fstep b.ro g t acc u = acc ++ [fm t g u] := by unfold fstep; rw [if_pos h]
    rw [e]
    have T := tapp (C := RN (k + 2)) (sub := subT) (W := 100000) (env := [some (eB b), some (eT t), some (eF (plus (0, t.min) (lhome t.pl))), some (eF (0, t.min)), some (eP t.pl), some (eF (offF t b.ro)), some (.ref r), some (eP g.seat), some (.str g.wants), some (.int g.pause), some (.int g.most), some (.int (u : Nat)), some (eF (fst0 t g)), some (.ref s.length), some (eF (fm t g u))]) (s := s ++ [.lst (acc.map eF)]) (s1 := s ++ [.lst (acc.map eF)]) (s2 := s ++ [.lst (acc.map eF)]) (ss := .nil) (o := .v 13) (e := .v 14) (d := eF (fm t g u)) (n := s.length) (xs := acc.map eF) (av rfl) ⟨_, cell_at s [] _⟩ (av rfl) (cell_at s [] _) (by rw [List.length_map]; unfold szLine; omega) rfl tnil
    rw [cell_set s [] _ _] at T
    rw [List.map_append]
    exact T
  · rw [lgood_eq u hg ht] at h
    have e : fstep b.ro g t acc u = acc := by unfold fstep; rw [if_neg (by rw [h]; decide)]
    rw [e]
    exact tnil
def R53a (b : Be) (t : Pt) (s : Store) (i : Nat) (acc : List (List Fo)) (env : Env) (st : Store) : Prop := ∃ j7 j8 j9 j10 j11 j12 j13 j14 dd, env = [some (eB b), some (eT t), some (eF (plus (0, t.min) (lhome t.pl))), some (eF (0, t.min)), some (eP t.pl), some (eF (offF t b.ro)), some (.ref s.length), j7, j8, j9, j10, j11, j12, j13, j14] ∧ acc.length ≤ i ∧ st = s ++ .lst (acc.map fun l => .lst (l.map eF)) :: dd
theorem pls_eF (l : List Fo) : D.pls (l.map eF) = true := pls_map (e := eF) eq_fo.pl l
theorem t53a (k : Nat) (b : Be) (t : Pt) (g : Gu) (s : Store) (hg : PlOk g.seat) (ht : PlOk t.pl) (hk : t.kind.cps.size = 1) (hro : 0 ≤ b.ro ∧ b.ro ≤ 3) {i : Nat} (hi : i ≤ 4) {acc : List (List Fo)} {env : Env} {st : Store} (R : R53a b t s i acc env st) :
    ∃ env' st', (match asg (.t (.cons (.n 7) (.cons (.n 8) (.cons (.n 9) (.cons (.n 10) .nil))))) (eG g) env with
      | some env2 => evSs (RN (k + 3)) subT 100000 b53a env2
      | none => nonS) st = .ok (.nx env') st' ∧ R53a b t s (i + 1) (acc ++ [fms b.ro g t]) env' st' := by
  obtain ⟨j7, j8, j9, j10, j11, j12, j13, j14, dd, rfl, hl, rfl⟩ := R
  have c1 := c_lfar (k + 1) ht hg
  have c2 := c_lp1 (k + 2) (0, t.min) (furth t.pl g.seat)
  have f1 := fms_len b.ro hro g t
  obtain ⟨env2, st2, w1, i11, i14, rfl, w3, rfl⟩ := forA (enc := fun n : Nat => D.int (n : Nat)) (f := fun x env1 => match asg (.n 11) x env1 with
      | some env2 => evSs (RN (k + 3)) subT 100000 b53b env2
      | none => nonS) (R53b b t g s.length (s ++ .lst (acc.map fun l => .lst (l.map eF)) :: dd)) (fstep b.ro g t) (List.range' 0 (b.ro + 1).toNat) 0 []
      [some (eB b), some (eT t), some (eF (plus (0, t.min) (lhome t.pl))), some (eF (0, t.min)), some (eP t.pl), some (eF (offF t b.ro)), some (.ref s.length), some (eP g.seat), some (.str g.wants), some (.int g.pause), some (.int g.most), j11, some (eF (fst0 t g)), some (.ref (s ++ .lst (acc.map fun l => .lst (l.map eF)) :: dd).length), j14] ((s ++ .lst (acc.map fun l => .lst (l.map eF)) :: dd) ++ [.lst []])
      (fun u turn hu acc2 env st R => t53b (k + 1) b t g s.length _ hg ht hk hro (by have h := (List.getElem?_eq_some_iff.mp hu).1; simp only [List.length_range'] at h; omega) (by
        have := List.mem_of_getElem? hu
        simp only [List.mem_range'_1] at this
        omega) R) ⟨_, _, rfl, by simp, rfl⟩
  rw [fms_fold] at w1
  have en : (s ++ Cell.lst (acc.map fun l => D.lst (l.map eF)) :: dd ++ [Cell.lst ((fms b.ro g t).map eF)]) = s ++ Cell.lst (acc.map fun l => D.lst (l.map eF)) :: (dd ++ [Cell.lst ((fms b.ro g t).map eF)]) := by simp
  refine ⟨[some (eB b), some (eT t), some (eF (plus (0, t.min) (lhome t.pl))), some (eF (0, t.min)), some (eP t.pl), some (eF (offF t b.ro)), some (.ref s.length), some (eP g.seat), some (.str g.wants), some (.int g.pause), some (.int g.most), i11, some (eF (fst0 t g)), some (.lst ((fms b.ro g t).map eF)), i14], s ++ .lst ((acc ++ [fms b.ro g t]).map fun l => .lst (l.map eF)) :: (dd ++ [.dead]), ?_, _, _, _, _, _, _, _, _, _, rfl, by simp; omega, rfl⟩
  refine Sa.go (r := .ok (.nx _) _) ?_
  refine tset (s1 := (s ++ .lst (acc.map fun l => .lst (l.map eF)) :: dd) ++ [.lst []]) (d := .tup [eF (fst0 t g), .ref (s ++ .lst (acc.map fun l => .lst (l.map eF)) :: dd).length]) (atup (bcons (acall (bcons (av rfl) (bcons (acall (bcons (av rfl) (bcons (av rfl) bnil)) c1) (bcons ac bnil))) c2) (bcons (anew (alst bnil) rfl) bnil))) rfl ?_
  refine tfor (s1 := (s ++ .lst (acc.map fun l => .lst (l.map eF)) :: dd) ++ [.lst []]) (irng1 (abin (aix (av rfl) ac rfl) ac rfl) (rng0 (by omega) (by omega))) w1 ?_
  refine tfrz (n := (s ++ .lst (acc.map fun l => .lst (l.map eF)) :: dd).length) (xs := (fms b.ro g t).map eF) rfl (cell_at _ [] _) ?_
  rw [cell_set _ [] _ _]
  have en2 : (s ++ Cell.lst (acc.map fun l => D.lst (l.map eF)) :: dd ++ [Cell.dead]) = s ++ Cell.lst (acc.map fun l => D.lst (l.map eF)) :: (dd ++ [Cell.dead]) := by simp
  rw [en2]
  have T := tapp (C := RN (k + 3)) (sub := subT) (W := 100000) (env := [some (eB b), some (eT t), some (eF (plus (0, t.min) (lhome t.pl))), some (eF (0, t.min)), some (eP t.pl), some (eF (offF t b.ro)), some (.ref s.length), some (eP g.seat), some (.str g.wants), some (.int g.pause), some (.int g.most), i11, some (eF (fst0 t g)), some (.lst ((fms b.ro g t).map eF)), i14]) (s := s ++ .lst (acc.map fun l => .lst (l.map eF)) :: (dd ++ [.dead])) (s1 := s ++ .lst (acc.map fun l => .lst (l.map eF)) :: (dd ++ [.dead])) (s2 := s ++ .lst (acc.map fun l => .lst (l.map eF)) :: (dd ++ [.dead])) (ss := .nil) (o := .v 6) (e := .v 13) (d := .lst ((fms b.ro g t).map eF)) (n := s.length) (xs := acc.map fun l => .lst (l.map eF)) (av rfl) ⟨_, cell_at s _ _⟩ (av rfl) (cell_at s _ _) (by rw [List.length_map]; unfold szLine; omega) (pls_eF _) tnil
  rw [cell_set s _ _ _] at T
  rw [List.map_append]
  exact T
def passD (b : Be) (t : Pt) : D := .tup [.lst (b.gs.map fun g => .lst ((fms b.ro g t).map eF)), eF (offF t b.ro)]
theorem c_passes (k : Nat) (b : Be) (t : Pt) (hb : BeV b) (ht : PtV t) : Cl (k + 4) 53 [eB b, eT t] (passD b t) := cl_own (fd := f53) rfl rfl (by
    simp only [passD, D.pl, D.pls, Bool.and_true, Bool.and_eq_true]
    refine ⟨pls_map (e := fun g => D.lst ((fms b.ro g t).map eF)) (fun g => pls_eF _) b.gs, rfl⟩) fun s => by
  have hng := hb.ng
  have hro := hb.ro
  have hk : t.kind.cps.size = 1 := (fit_of hb ⟨by simp, fun x hx => by rw [List.mem_singleton.mp hx]; exact ht, by simp⟩ : Fit b [t]).one t (by simp)
  have c1 := c_lfar (k + 1) ht.pl kit_ok
  have c2 := c_lp1 (k + 2) (0, t.min) (furth t.pl ⟨true, 0⟩)
  have c3 := c_lp1 (k + 2) (plus (0, t.min) (furth t.pl ⟨true, 0⟩)) (1, 0)
  have c4 := c_lpu (k + 2) (plus (0, t.min) (lhome t.pl)) (b.ro - 1) (by omega)
  have e4 : plus (plus (0, t.min) (lhome t.pl)) (b.ro - 1, 0) = offF t b.ro := by rw [lhome_eq ht.pl]; rfl
  rw [e4] at c4
  obtain ⟨env2, st2, w1, i7, i8, i9, i10, i11, i12, i13, i14, dd, rfl, w3, rfl⟩ := forA (enc := eG) (f := fun x env1 => match asg (.t (.cons (.n 7) (.cons (.n 8) (.cons (.n 9) (.cons (.n 10) .nil))))) x env1 with
      | some env2 => evSs (RN (k + 3)) subT 100000 b53a env2
      | none => nonS) (R53a b t s) (fun acc g => acc ++ [fms b.ro g t]) b.gs 0 []
      [some (eB b), some (eT t), some (eF (plus (0, t.min) (lhome t.pl))), some (eF (0, t.min)), some (eP t.pl), some (eF (offF t b.ro)), some (.ref s.length), none, none, none, none, none, none, none, none] (s ++ [.lst []])
      (fun i g hgi acc env st R => t53a k b t g s (hb.gs g (List.mem_of_getElem? hgi)).seat ht.pl hk ⟨by omega, by omega⟩ (by have h := (List.getElem?_eq_some_iff.mp hgi).1; omega) R) ⟨_, _, _, _, _, _, _, _, [], rfl, by simp, rfl⟩
  have ef : b.gs.foldl (fun acc g => acc ++ [fms b.ro g t]) [] = b.gs.map fun g => fms b.ro g t := by
    have := fold_app (fun g => [fms b.ro g t]) b.gs []
    rw [this, flat_one]
    rfl
  rw [ef, List.map_map] at w1
  refine ⟨s ++ .dead :: dd, ?_, ?_⟩
  · refine tset (s1 := s) (d := .tup [eF (0, t.min), eP t.pl]) (atup (bcons (atup (bcons ac (bcons (aix (av rfl) ac rfl) bnil))) (bcons (aix (av rfl) ac rfl) bnil))) rfl ?_
    refine tset (s1 := s) (d := eF (plus (0, t.min) (furth t.pl ⟨true, 0⟩))) (acall (bcons (av rfl) (bcons (acall (bcons (av rfl) (bcons (atup (bcons ac (bcons ac bnil))) bnil)) c1) (bcons ac bnil))) c2) rfl ?_
    refine tset (s1 := s) (d := eF (plus (0, t.min) (lhome t.pl))) ?_ rfl ?_
    · have e : eF (plus (0, t.min) (lhome t.pl)) = if (t.pl.b && ((t.pl.i == 0) && true)) = true then eF (plus (plus (0, t.min) (furth t.pl ⟨true, 0⟩)) (1, 0)) else eF (plus (0, t.min) (furth t.pl ⟨true, 0⟩)) := by
        unfold lhome
        split
        · congr 1
          simp only [plus, Prod.mk.injEq]; omega
        · rfl
      rw [e]
      exact aif (acmp (av rfl) (atup (bcons ac (bcons ac bnil))) (eqKit t.pl s)) (fun _ => acall (bcons (av rfl) (bcons (atup (bcons ac (bcons ac bnil))) (bcons ac bnil))) c3) fun _ => av rfl
    · refine tset (s1 := s ++ [.lst []]) (d := .tup [eF (offF t b.ro), .ref s.length]) (atup (bcons (acall (bcons (av rfl) (bcons (atup (bcons ac (bcons ac bnil))) (bcons (abin (aix (av rfl) ac rfl) ac rfl) bnil))) c4) (bcons (anew (alst bnil) rfl) bnil))) rfl ?_
      refine tfor (s1 := s ++ [.lst []]) (iov (aix (av rfl) ac rfl) rfl) w1 ?_
      refine tfrz (n := s.length) (xs := b.gs.map fun g => .lst ((fms b.ro g t).map eF)) rfl (cell_at s _ _) ?_
      rw [cell_set s _ _ _]
      exact trt (atup (bcons (av rfl) (bcons (av rfl) bnil)))
  · simp
end AB

set_option Elab.async false
set_option linter.all false
set_option autoImplicit false
set_option maxRecDepth 100000
set_option maxHeartbeats 4000000
/-! MirR: the law's own story, part two: comings, lined, the story: that of the library. -/
namespace AB
open PySem
local macro_rules | `(tactic| trivial) => `(tactic| (intro _; trivial))
local macro_rules | `(tactic| trivial) => `(tactic| (apply aisi; trivial; exact rfl))
local macro_rules | `(tactic| trivial) => `(tactic| (apply abi; trivial; first | exact rfl | assumption))
local macro_rules | `(tactic| trivial) => `(tactic| (apply asll; trivial; trivial; first | exact rfl | assumption))
local macro_rules | `(tactic| trivial) => `(tactic| (apply aslh; trivial; trivial; first | exact rfl | assumption))
local macro_rules | `(tactic| trivial) => `(tactic| (apply achn; trivial; trivial; exact rfl; trivial; (intro _; exact rfl)))
local macro_rules | `(tactic| trivial) => `(tactic| (apply aif; trivial; trivial; trivial))
local macro_rules | `(tactic| trivial) => `(tactic| (apply aor; trivial; trivial))
local macro_rules | `(tactic| trivial) => `(tactic| (apply aand; trivial; trivial))
local macro_rules | `(tactic| trivial) => `(tactic| (apply ant; trivial))
local macro_rules | `(tactic| trivial) => `(tactic| (apply aneg; trivial))
local macro_rules | `(tactic| trivial) => `(tactic| (apply acmp; trivial; trivial; first | exact rfl | assumption))
local macro_rules | `(tactic| trivial) => `(tactic| (apply aix; trivial; trivial; first | exact rfl | assumption))
local macro_rules | `(tactic| trivial) => `(tactic| (apply abin; trivial; trivial; first | exact rfl | assumption))
local macro_rules | `(tactic| trivial) => `(tactic| (apply atup; trivial))
local macro_rules | `(tactic| trivial) => `(tactic| (apply alst; trivial))
local macro_rules | `(tactic| trivial) => `(tactic| (apply acall; trivial; trivial))
local macro_rules | `(tactic| trivial) => `(tactic| (apply bcons; trivial; trivial))
local macro_rules | `(tactic| trivial) => `(tactic| exact bnil)
local macro_rules | `(tactic| trivial) => `(tactic| exact av rfl)
local macro_rules | `(tactic| trivial) => `(tactic| exact ac)
local macro_rules | `(tactic| trivial) => `(tactic| assumption)
local macro_rules | `(tactic| trivial) => `(tactic| exact c_less _ _ _ _ _)
local macro_rules | `(tactic| trivial) => `(tactic| exact c_added _ _ _ _ _)
/-! ### comings, plate by plate -/
def lcms (b : Be) (ps : List Pt) : List Cm := (ps.zipIdx 0).flatMap fun t => (b.gs.zipIdx 0).flatMap fun g => cms1 b.ro g t
theorem flat_split {α β : Type} (f g : α → List β) : ∀ l : List α, (l.flatMap fun a => f a ++ g a).Perm (l.flatMap f ++ l.flatMap g)
  | [] => List.Perm.refl _
  | a :: l => by
    simp only [List.flatMap_cons, List.append_assoc]
    refine List.Perm.append_left _ ?_
    refine ((flat_split f g l).append_left (g a)).trans ?_
    rw [← List.append_assoc, ← List.append_assoc]
    exact List.perm_append_comm.append_right _
theorem flat_swap {α β γ : Type} (f : α → β → List γ) : ∀ (l : List α) (k : List β), (l.flatMap fun a => k.flatMap fun b => f a b).Perm (k.flatMap fun b => l.flatMap fun a => f a b)
  | [], k => by simp
  | a :: l, k => by
    simp only [List.flatMap_cons]
    refine ((flat_swap f l k).append_left _).trans ?_
    exact (flat_split (fun b => f a b) (fun b => l.flatMap fun a => f a b) k).symm
theorem lcms_perm (b : Be) (ps : List Pt) : (lcms b ps).Perm (cms b ps) := flat_swap (fun t g => cms1 b.ro g t) _ _
theorem le3_total {x y : Int × Int × Int} (h : ¬ le3 x y = true) : le3 y x = true := by
  unfold le3 at *
  simp only [decide_eq_true_eq] at *
  omega
theorem le3_anti {x y : Int × Int × Int} (h1 : le3 x y = true) (h2 : le3 y x = true) : x = y := by
  unfold le3 at *
  simp only [decide_eq_true_eq] at *
  obtain ⟨x1, x2, x3⟩ := x
  obtain ⟨y1, y2, y3⟩ := y
  simp only [Prod.mk.injEq] at *
  omega
theorem le3_trans {x y z : Int × Int × Int} (h1 : le3 x y = true) (h2 : le3 y z = true) : le3 x z = true := by
  unfold le3 at *
  simp only [decide_eq_true_eq] at *
  omega
theorem insC_comm {α : Type} (key : α → Int × Int × Int) {x y : α} (h : key x ≠ key y) : ∀ l, insC key x (insC key y l) = insC key y (insC key x l)
  | [] => by
    simp only [insC]
    by_cases h1 : le3 (key x) (key y) = true
    · have h2 : ¬ le3 (key y) (key x) = true := fun z => h (le3_anti h1 z)
      simp [h1, h2, insC]
    · have h2 := le3_total h1
      simp [h1, h2, insC]
  | z :: l => by
    have ih := insC_comm key h l
    by_cases hx : le3 (key x) (key z) = true <;> by_cases hy : le3 (key y) (key z) = true
    · by_cases h1 : le3 (key x) (key y) = true
      · have h2 : ¬ le3 (key y) (key x) = true := fun z => h (le3_anti h1 z)
        simp [insC, hx, hy, h1, h2]
      · have h2 := le3_total h1
        simp [insC, hx, hy, h1, h2]
    · have h1 : le3 (key x) (key y) = true := by
        have := le3_total hy
        exact le3_trans hx this
      have h2 : ¬ le3 (key y) (key x) = true := fun z => h (le3_anti h1 z)
      simp [insC, hx, hy, h1, h2]
    · have h1 : le3 (key y) (key x) = true := by
        have := le3_total hx
        exact le3_trans hy this
      have h2 : ¬ le3 (key x) (key y) = true := fun z => h (le3_anti z h1)
      simp [insC, hx, hy, h1, h2]
    · simp [insC, hx, hy, ih]
theorem srtC_eq {α : Type} (key : α → Int × Int × Int) {l k : List α} (p : l.Perm k) : (l.Pairwise fun a b => key a ≠ key b) → srtC key l = srtC key k := by
  induction p with
  | nil => intro _; rfl
  | cons x p ih =>
    intro h
    simp only [srtC]
    rw [ih (List.pairwise_cons.mp h).2]
  | swap x y l =>
    intro h
    simp only [srtC]
    have := (List.pairwise_cons.mp h).1 x List.mem_cons_self
    exact insC_comm key this _
  | trans p q ih1 ih2 =>
    intro h
    rw [ih1 h, ih2 (p.pairwise h (fun {a b} e => Ne.symm e))]
theorem lcms_pw (b : Be) (ps : List Pt) (n : Int) (hn : 0 < n) : (lcms b ps).Pairwise fun a c => keyC n a ≠ keyC n c :=
  (lcms_perm b ps).symm.pairwise (cms_pw b ps n hn) fun {a b} e => Ne.symm e
theorem lorder (b : Be) (ps : List Pt) (n : Int) (hn : 0 < n) : order n (lcms b ps) = order n (cms b ps) := srtC_eq _ (lcms_perm b ps) (lcms_pw b ps n hn)
theorem lcms_len (b : Be) (ps : List Pt) (F : Fit b ps) : (lcms b ps).length ≤ 32 := by rw [(lcms_perm b ps).length_eq]; exact cms_len b ps F
abbrev b54b : Ss := (.cons (.set 0 (.n 2) (.bin .add (.v 2) (.comp (.tup (.cons (.v 9) (.cons (.v 7) (.cons (.v 3) .nil)))) (.n 9) (.ov (.v 8)) (.c (.bl true)) [9]))) .nil)
def R54b (b : Be) (ps : List Pt) (t : Pt × Nat) (s : Store) (z : Nat) (i : Nat) (acc : List Cm) (env : Env) (st : Store) : Prop := ∃ j5 j6 j7 j8 j9, env = [some (eB b), some (.tup (ps.map eT)), some (.lst (acc.map eC)), some (.int (t.2 : Nat)), some (eT t.1), j5, j6, j7, j8, j9] ∧ acc.length ≤ z + 4 * i ∧ st = s
theorem t54b (k : Nat) (b : Be) (ps : List Pt) (t : Pt × Nat) (g : Gu × Nat) (s : Store) (hro : 0 ≤ b.ro ∧ b.ro ≤ 3) {z i : Nat} (hz : z ≤ 1000) (hi : i ≤ 4) {acc : List Cm} {env : Env} {st : Store} (R : R54b b ps t s z i acc env st) :
    ∃ env' st', (match asg (.t (.cons (.n 7) (.cons (.n 8) .nil))) (.tup [.int (g.2 : Nat), .lst ((fms b.ro g.1 t.1).map eF)]) env with
      | some env2 => evSs (RN k) subT 100000 b54b env2
      | none => nonS) st = .ok (.nx env') st' ∧ R54b b ps t s z (i + 1) (acc ++ cms1 b.ro g t) env' st' := by
  obtain ⟨j5, j6, j7, j8, j9, rfl, hl, rfl⟩ := R
  have fl := fms_len b.ro hro g.1 t.1
  refine ⟨[some (eB b), some (.tup (ps.map eT)), some (.lst ((acc ++ cms1 b.ro g t).map eC)), some (.int (t.2 : Nat)), some (eT t.1), j5, j6, some (.int (g.2 : Nat)), some (.lst ((fms b.ro g.1 t.1).map eF)), j9], st, ?_, _, _, _, _, _, rfl, ?_, rfl⟩
  · refine Sa.go (r := .ok (.nx _) _) ?_
    have P := acompA (C := RN k) (sub := subT) (env := [some (eB b), some (.tup (ps.map eT)), some (.lst (acc.map eC)), some (.int (t.2 : Nat)), some (eT t.1), j5, j6, some (.int (g.2 : Nat)), some (.lst ((fms b.ro g.1 t.1).map eF)), j9]) (s := st) (s1 := st) (enc := eF) (elt := .tup (.cons (.v 9) (.cons (.v 7) (.cons (.v 3) .nil)))) (tg := .n 9) (it := .ov (.v 8)) (own := [9]) (fms b.ro g.1 t.1) (fun f => eC (f, g.2, t.2)) (iov (av rfl) rfl) rfl
      (fun f _ => ⟨_, rfl, atup (bcons (av rfl) (bcons (av rfl) (bcons (av rfl) bnil)))⟩) (by unfold szLine; omega)
    have e : (cms1 b.ro g t).map eC = (fms b.ro g.1 t.1).map fun f => eC (f, g.2, t.2) := by rw [cms1_fms, List.map_map]; rfl
    refine tset (s1 := st) (d := .lst ((acc ++ cms1 b.ro g t).map eC)) (abin (av rfl) P ?_) rfl tnil
    rw [← e, List.map_append]
    refine lst_add ?_ st
    rw [e, List.length_map, List.length_map]; unfold szLine; omega
  · rw [List.length_append, cms1_fms, List.length_map]; omega
abbrev b54a : Ss := (.cons (.set 0 (.t (.cons (.n 5) (.cons (.n 6) .nil))) (.call 53 (.cons (.v 0) (.cons (.v 4) .nil)))) (.cons (.forr (.t (.cons (.n 7) (.cons (.n 8) .nil))) (.enm (.v 5)) b54b) .nil))
def R54a (b : Be) (ps : List Pt) (s : Store) (i : Nat) (acc : List Cm) (env : Env) (st : Store) : Prop := ∃ j3 j4 j5 j6 j7 j8 j9, env = [some (eB b), some (.tup (ps.map eT)), some (.lst (acc.map eC)), j3, j4, j5, j6, j7, j8, j9] ∧ acc.length ≤ 8 * i ∧ st = s
theorem t54a (k : Nat) (b : Be) (ps : List Pt) (t : Pt × Nat) (s : Store) (hb : BeV b) (ht : PtV t.1) {i : Nat} (hi : i ≤ 4) {acc : List Cm} {env : Env} {st : Store} (R : R54a b ps s i acc env st) :
    ∃ env' st', (match asg (.t (.cons (.n 3) (.cons (.n 4) .nil))) (.tup [.int (t.2 : Nat), eT t.1]) env with
      | some env2 => evSs (RN (k + 4)) subT 100000 b54a env2
      | none => nonS) st = .ok (.nx env') st' ∧ R54a b ps s (i + 1) (acc ++ (b.gs.zipIdx 0).flatMap fun g => cms1 b.ro g t) env' st' := by
  obtain ⟨j3, j4, j5, j6, j7, j8, j9, rfl, hl, rfl⟩ := R
  have hng := hb.ng
  have c1 := c_passes k b t.1 hb ht
  obtain ⟨env2, st2, w1, i5, i6, i7, i8, i9, rfl, w3, rfl⟩ := forA (enc := fun g : Gu × Nat => D.tup [.int (g.2 : Nat), .lst ((fms b.ro g.1 t.1).map eF)]) (f := fun x env1 => match asg (.t (.cons (.n 7) (.cons (.n 8) .nil))) x env1 with
      | some env2 => evSs (RN (k + 4)) subT 100000 b54b env2
      | none => nonS) (R54b b ps t st acc.length) (fun acc g => acc ++ cms1 b.ro g t) (b.gs.zipIdx 0) 0 acc
      [some (eB b), some (.tup (ps.map eT)), some (.lst (acc.map eC)), some (.int (t.2 : Nat)), some (eT t.1), some (.lst (b.gs.map fun g => .lst ((fms b.ro g t.1).map eF))), some (eF (offF t.1 b.ro)), j7, j8, j9] st
      (fun j g hg acc2 env st R => t54b (k + 4) b ps t g _ ⟨by have := hb.ro; omega, hb.ro.2⟩ (by omega) (by have h := (List.getElem?_eq_some_iff.mp hg).1; rw [List.length_zipIdx] at h; omega) R) ⟨_, _, _, _, _, rfl, by omega, rfl⟩
  rw [fold_app] at w1 w3
  rw [List.length_zipIdx] at w3
  refine ⟨?e, ?s, ?h, ?r⟩
  case h =>
    refine Sa.go (r := .ok (.nx _) _) ?_
    refine tset (s1 := st2) (d := passD b t.1) (acall (bcons (av rfl) (bcons (av rfl) bnil)) c1) rfl ?_
    refine tfor (s1 := st2) (ienm (av rfl) rfl) (by
      have e := enumD_map (fun g : Gu => D.lst ((fms b.ro g t.1).map eF)) b.gs 0
      rw [show ((0 : Nat) : Int) = 0 from rfl] at e
      rw [e]
      exact w1) tnil
  case r =>
    refine ⟨_, _, _, _, _, _, _, rfl, ?_, rfl⟩
    omega
theorem c_lcomings (k : Nat) (b : Be) (ps : List Pt) (hb : BeV b) (hp : PtsV ps) : Cl (k + 5) 54 [eB b, .tup (ps.map eT)] (.lst ((lcms b ps).map eC)) := cl_of (fd := f54) rfl rfl fun s => by
  have hnp := hp.np
  obtain ⟨env2, st2, w1, i3, i4, i5, i6, i7, i8, i9, rfl, w3, rfl⟩ := forA (enc := fun t : Pt × Nat => D.tup [.int (t.2 : Nat), eT t.1]) (f := fun x env1 => match asg (.t (.cons (.n 3) (.cons (.n 4) .nil))) x env1 with
      | some env2 => evSs (RN (k + 4)) subT 100000 b54a env2
      | none => nonS) (R54a b ps s) (fun acc t => acc ++ (b.gs.zipIdx 0).flatMap fun g => cms1 b.ro g t) (ps.zipIdx 0) 0 []
      [some (eB b), some (.tup (ps.map eT)), some (.lst []), none, none, none, none, none, none, none] s
      (fun j t ht acc2 env st R => t54a k b ps t _ hb (hp.all t.1 (List.fst_mem_of_mem_zipIdx (List.mem_of_getElem? ht))) (by have h := (List.getElem?_eq_some_iff.mp ht).1; rw [List.length_zipIdx] at h; omega) R) ⟨_, _, _, _, _, _, _, rfl, by simp, rfl⟩
  rw [fold_app] at w1
  refine tset (s1 := st2) (d := .lst []) (alst bnil) rfl ?_
  refine tfor (s1 := st2) (ienm (av rfl) rfl) (by
      have e := enumD_map eT ps 0
      rw [show ((0 : Nat) : Int) = 0 from rfl] at e
      rw [e]
      exact w1) (trt (av rfl))
/-! ### lined -/
def eL (n : Int) (c : Cm) : D := .tup [.int (wo c.1 n), .int (c.2.1 : Nat), .int (c.2.2 : Nat), .int c.1.1, .int c.1.2]
abbrev b55 : Ss := (.cons (.app (.v 2) (.tup (.cons (.call 50 (.cons (.v 3) (.cons (.v 1) .nil))) (.cons (.v 4) (.cons (.v 5) (.cons (.ix (.v 3) (.c (.int 0))) (.cons (.ix (.v 3) (.c (.int 1))) .nil))))))) .nil)
def R55 (l : List Cm) (n : Int) (s : Store) (i : Nat) (acc : List Cm) (env : Env) (st : Store) : Prop := ∃ j3 j4 j5, env = [some (.lst (l.map eC)), some (.int n), some (.ref s.length), j3, j4, j5] ∧ acc.length ≤ i ∧ st = s ++ [.lst (acc.map (eL n))]
theorem t55 (k : Nat) (l : List Cm) (n : Int) (s : Store) {c : Cm} (hs : c.1.1.natAbs < 2 ^ 64) {i : Nat} (hi : i < 1000) {acc : List Cm} {env : Env} {st : Store} (R : R55 l n s i acc env st) :
    ∃ env' st', (match asg (.t (.cons (.n 3) (.cons (.n 4) (.cons (.n 5) .nil)))) (eC c) env with
      | some env2 => evSs (RN (k + 1)) subT 100000 b55 env2
      | none => nonS) st = .ok (.nx env') st' ∧ R55 l n s (i + 1) (acc ++ [c]) env' st' := by
  obtain ⟨j3, j4, j5, rfl, hacc, rfl⟩ := R
  have c1 := c_lworth k c.1 n hs
  apply Exists.intro
  apply Exists.intro
  apply And.intro
  · apply Sa.go
    exact tapp (s1 := s ++ [.lst (acc.map (eL n))]) (s2 := s ++ [.lst (acc.map (eL n))]) (d := eL n c) (n := s.length) (xs := acc.map (eL n)) (av rfl) ⟨_, cell_at s [] _⟩ (atup (bcons (acall (bcons (av rfl) (bcons (av rfl) bnil)) c1) (bcons (av rfl) (bcons (av rfl) (bcons (aix (av rfl) ac rfl) (bcons (aix (av rfl) ac rfl) bnil)))))) (cell_at s [] _) (by rw [List.length_map]; unfold szLine; omega) rfl tnil
  · refine ⟨_, _, _, rfl, by simp; omega, ?_⟩
    rw [cell_set s [] _ _, List.map_append]; rfl
theorem c_lined (k : Nat) (l : List Cm) (n : Int) (hp : l.Pairwise fun a b => keyC n a ≠ keyC n b) (hl : l.length < 64) (hs : ∀ c ∈ l, c.1.1.natAbs < 2 ^ 64) : Cl (k + 2) 55 [.lst (l.map eC), .int n] (.lst ((order n l).map (eL n))) := cl_own (fd := f55) rfl rfl (pls_map (e := eL n) (fun _ => rfl) _) fun s => by
  obtain ⟨env2, st2, w1, i3, i4, i5, rfl, w3, rfl⟩ := forA (enc := eC) (f := fun x env1 => match asg (.t (.cons (.n 3) (.cons (.n 4) (.cons (.n 5) .nil)))) x env1 with
      | some env2 => evSs (RN (k + 1)) subT 100000 b55 env2
      | none => nonS) (R55 l n s) (fun acc c => acc ++ [c]) l 0 []
      [some (.lst (l.map eC)), some (.int n), some (.ref s.length), none, none, none] (s ++ [.lst []])
      (fun j c hc acc env st R => t55 k l n s (hs c (List.mem_of_getElem? hc)) (by have hj := (List.getElem?_eq_some_iff.mp hc).1; omega) R) ⟨_, _, _, rfl, by simp, rfl⟩
  have e1 : l.foldl (fun acc c => acc ++ [c]) [] = l := by
    have := fold_app (fun c : Cm => [c]) l []
    rw [this, flat_one]; simp
  rw [e1] at w1
  refine ⟨s ++ [.lst (l.map (eL n))], ?_, by simp⟩
  refine tset (s1 := s ++ [.lst []]) (d := .ref s.length) (anew (alst bnil) rfl) rfl (tfor (s1 := s ++ [.lst []]) (iov (av rfl) rfl) w1 (trt (abi (ds := [.ref s.length]) (bcons (av rfl) bnil) ?_)))
  show lft (biP .sorted ([D.ref s.length].map (drf (s ++ [.lst (l.map (eL n))])))) _ = _
  simp only [List.map_cons, List.map_nil]
  rw [drf_ref (cell_at s [] _)]
  show lft ((srtP (l.map (eL n))).map D.lst) _ = _
  rw [srtP_map (keyC n) (eL n) (fun a => rfl) l hp hl]
  rfl
end AB

set_option Elab.async false
set_option linter.all false
set_option autoImplicit false
set_option maxRecDepth 100000
set_option maxHeartbeats 4000000
/-! MirY: the law's own story is the library's. -/
namespace AB
open PySem
local macro_rules | `(tactic| trivial) => `(tactic| (intro _; trivial))
local macro_rules | `(tactic| trivial) => `(tactic| (apply aisi; trivial; exact rfl))
local macro_rules | `(tactic| trivial) => `(tactic| (apply abi; trivial; first | exact rfl | assumption))
local macro_rules | `(tactic| trivial) => `(tactic| (apply asll; trivial; trivial; first | exact rfl | assumption))
local macro_rules | `(tactic| trivial) => `(tactic| (apply aslh; trivial; trivial; first | exact rfl | assumption))
local macro_rules | `(tactic| trivial) => `(tactic| (apply achn; trivial; trivial; exact rfl; trivial; (intro _; exact rfl)))
local macro_rules | `(tactic| trivial) => `(tactic| (apply aif; trivial; trivial; trivial))
local macro_rules | `(tactic| trivial) => `(tactic| (apply aor; trivial; trivial))
local macro_rules | `(tactic| trivial) => `(tactic| (apply aand; trivial; trivial))
local macro_rules | `(tactic| trivial) => `(tactic| (apply ant; trivial))
local macro_rules | `(tactic| trivial) => `(tactic| (apply aneg; trivial))
local macro_rules | `(tactic| trivial) => `(tactic| (apply acmp; trivial; trivial; first | exact rfl | assumption))
local macro_rules | `(tactic| trivial) => `(tactic| (apply aix; trivial; trivial; first | exact rfl | assumption))
local macro_rules | `(tactic| trivial) => `(tactic| (apply abin; trivial; trivial; first | exact rfl | assumption))
local macro_rules | `(tactic| trivial) => `(tactic| (apply atup; trivial))
local macro_rules | `(tactic| trivial) => `(tactic| (apply alst; trivial))
local macro_rules | `(tactic| trivial) => `(tactic| (apply acall; trivial; trivial))
local macro_rules | `(tactic| trivial) => `(tactic| (apply bcons; trivial; trivial))
local macro_rules | `(tactic| trivial) => `(tactic| exact bnil)
local macro_rules | `(tactic| trivial) => `(tactic| exact av rfl)
local macro_rules | `(tactic| trivial) => `(tactic| exact ac)
local macro_rules | `(tactic| trivial) => `(tactic| assumption)
local macro_rules | `(tactic| trivial) => `(tactic| exact c_less _ _ _ _ _)
local macro_rules | `(tactic| trivial) => `(tactic| exact c_added _ _ _ _ _)
theorem take_eq (g : Gu) (l : List Me) (f : Fo) (n : Int) : take g l f n = ((match l.getLast? with
    | none => true
    | some q => decide (g.pause ≤ wo f n - wo q.2 n)) && decide ((l.length : Int) < g.most)) := by
  unfold take
  by_cases h : g.most ≤ l.length
  · rw [if_pos h, decide_eq_false (by omega : ¬ ((l.length : Int) < g.most)), Bool.and_false]
  · rw [if_neg h, decide_eq_true (by omega : ((l.length : Int) < g.most)), Bool.and_true]
    cases l.getLast? with
    | none => rfl
    | some q =>
      simp only []
      apply decide_eq_decide.mpr
      have e1 : wo (minus f (plus q.2 (0, g.pause))) n = wo f n - wo q.2 n - g.pause := by
        simp only [wo, minus, plus, Int.sub_mul, Int.add_mul]; omega
      rcases sg_cases (minus f (plus q.2 (0, g.pause))) n with c | c | c <;> omega
theorem ixN_nat {n i : Nat} (h : i < n) : L2.ixN n (i : Int) = some i := by
  unfold L2.ixN
  rw [if_pos (by omega), if_pos (by omega)]
  rfl
abbrev b56 : Ss := (.cons (.set 0 (.t (.cons (.n 15) (.cons (.n 16) (.cons (.n 17) (.cons (.n 18) .nil))))) (.ix (.ix (.v 0) (.c (.int 0))) (.v 8))) (.cons (.set 0 (.n 12) (.ite (.cmp .ne (.ix (.v 5) (.v 8)) (.tup .nil)) (.ix (.ix (.ix (.v 5) (.v 8)) (.neg (.c (.int 1)))) (.c (.int 1))) (.c .non))) (.cons (.set 0 (.n 13) (.or (.cmp .isn (.v 12) (.c .non)) (.cmp .ge (.bin .sub (.v 7) (.call 50 (.cons (.v 12) (.cons (.v 2) .nil)))) (.v 17)))) (.cons (.iff (.and (.cmp .nin (.v 9) (.v 6)) (.and (.v 13) (.cmp .lt (.bi .len (.cons (.ix (.v 5) (.v 8)) .nil)) (.v 18)))) (.cons (.seti (.v 5) (.v 8) (.bin .add (.ix (.v 5) (.v 8)) (.tup (.cons (.tup (.cons (.v 9) (.cons (.tup (.cons (.v 10) (.cons (.v 11) .nil))) .nil))) .nil)))) (.cons (.app (.v 6) (.v 9)) .nil)) .nil) .nil))))
def cells56 (x : Sto) : List Cell := [.lst (x.1.map eMs), .lst (x.2.map fun i => D.int (i : Nat))]
def R56 (b : Be) (ps : List Pt) (n : Int) (s : Store) (i : Nat) (x : Sto) (env : Env) (st : Store) : Prop := ∃ j3 j7 j8 j9 j10 j11 j12 j13 j14 j15 j16 j17 j18, env = [some (eB b), some (.tup (ps.map eT)), some (.int n), j3, some (.lst ((lcms b ps).map eC)), some (.ref s.length), some (.ref (s.length + 1)), j7, j8, j9, j10, j11, j12, j13, j14, j15, j16, j17, j18] ∧ MOk b i x ∧ st = s ++ cells56 x
def eOF : Option Fo → D
  | none => .non
  | some f => eF f
theorem vOF (o : Option Fo) : vget (some (some (eOF o))) = some (eOF o) := by cases o <;> rfl
theorem cell56_0 (s : Store) (x : Sto) : (s ++ cells56 x)[s.length]? = some (.lst (x.1.map eMs)) := cell_at s _ _
theorem cell56_1 (s : Store) (x : Sto) : (s ++ cells56 x)[s.length + 1]? = some (.lst (x.2.map fun i => D.int (i : Nat))) := by simp [cells56]
theorem set56_0 (s : Store) (x : Sto) (y : List (List Me)) : (s ++ cells56 x).set s.length (.lst (y.map eMs)) = s ++ cells56 (y, x.2) := cell_set s _ _ _
theorem set56_1 (s : Store) (x : Sto) (y : List Nat) : (s ++ cells56 x).set (s.length + 1) (.lst (y.map fun i => D.int (i : Nat))) = s ++ cells56 (x.1, y) := by
  simp [cells56]
theorem nin_ref (p : Nat) (l : List Nat) {st : Store} {n : Nat} (h : st[n]? = some (.lst (l.map fun i => D.int (i : Nat)))) : coM .nin (.int (p : Nat)) (.ref n) st = .ok (.bl (!decide (p ∈ l))) st := by
  show lft ((coP .nin (drf st (.int (p : Nat))) (drf st (.ref n))).map D.bl) st = _
  rw [drf_ref h]
  exact ninl_nat p l st
theorem t56 (k : Nat) (b : Be) (ps : List Pt) (n : Int) (s : Store) (hg : b.gs.length ≤ 2) {i : Nat} (hi : i ≤ 1000) {c : Cm} (hc : c.1.1.natAbs ≤ 1000) (hb : c.2.1 < b.gs.length) {x : Sto} {env : Env} {st : Store} (R : R56 b ps n s i x env st) :
    ∃ env' st', (match asg (.t (.cons (.n 7) (.cons (.n 8) (.cons (.n 9) (.cons (.n 10) (.cons (.n 11) .nil)))))) (eL n c) env with
      | some env2 => evSs (RN (k + 1)) subT 100000 b56 env2
      | none => nonS) st = .ok (.nx env') st' ∧ R56 b ps n s (i + 1) (stepM b n x c) env' st' := by
  obtain ⟨j3, j7, j8, j9, j10, j11, j12, j13, j14, j15, j16, j17, j18, rfl, ok, rfl⟩ := R
  have hs := ok.len
  obtain ⟨g, eg⟩ : ∃ g, b.gs[c.2.1]? = some g := ⟨_, List.getElem?_eq_getElem hb⟩
  obtain ⟨l, el⟩ : ∃ l, x.1[c.2.1]? = some l := ⟨_, List.getElem?_eq_getElem (by omega)⟩
  have hl := ok.sm l (List.mem_of_getElem? el)
  have e1 : (b.gs.map eG)[c.2.1]? = some (eG g) := by rw [List.getElem?_map, eg]; rfl
  have e2 : (x.1.map eMs)[c.2.1]? = some (eMs l) := by rw [List.getElem?_map, el]; rfl
  have X := ix_ref (cell56_0 s x) e2
  have es : stepM b n x c = if (!decide (c.2.2 ∈ x.2) && take g l c.1 n) = true then (x.1.set c.2.1 (l ++ [(c.2.2, c.1)]), x.2 ++ [c.2.2]) else x := by
    unfold stepM; rw [eg, el]
  have free : (if (!decide (l = [])) = true then eOF (l.getLast?.map (·.2)) else D.non) = eOF (l.getLast?.map (·.2)) := by
    cases l <;> rfl
  refine ⟨[some (eB b), some (.tup (ps.map eT)), some (.int n), j3, some (.lst ((lcms b ps).map eC)), some (.ref s.length), some (.ref (s.length + 1)), some (.int (wo c.1 n)), some (.int (c.2.1 : Nat)), some (.int (c.2.2 : Nat)), some (.int c.1.1), some (.int c.1.2), some (eOF (l.getLast?.map (·.2))), some (.bl (match l.getLast? with
      | none => true
      | some q => decide (g.pause ≤ wo c.1 n - wo q.2 n))), j14, some (eP g.seat), some (.str g.wants), some (.int g.pause), some (.int g.most)], s ++ cells56 (stepM b n x c), ?_, ?_⟩
  · refine Sa.go (r := .ok (.nx _) _) ?_
    refine tset (s1 := s ++ cells56 x) (d := eG g) (aix (aix (av rfl) ac rfl) (av rfl) (ix_tup e1 _)) rfl ?_
    refine tset (s1 := s ++ cells56 x) (d := eOF (l.getLast?.map (·.2))) ?_ rfl ?_
    · rw [← free]
      refine aif (acmp (aix (av rfl) (av rfl) X) (atup bnil) (eq_mes.co_ne (by omega) l [] _)) (fun h => ?_) fun _ => ac
      have hne : l ≠ [] := by intro z; subst z; cases h
      have hq := List.getLast?_eq_some_getLast hne
      rw [hq]
      refine aix (x := eM (l.getLast hne)) (aix (aix (av rfl) (av rfl) X) (aneg ac) ?_) ac rfl
      show lft (L2.atI (l.map eM) (-1)) _ = _
      rw [atI_last _ (by simpa using hne), List.getLast?_map, hq]; rfl
    refine tset (s1 := s ++ cells56 x) (d := .bl (match l.getLast? with
      | none => true
      | some q => decide (g.pause ≤ wo c.1 n - wo q.2 n))) ?_ rfl ?_
    · cases hq : l.getLast? with
      | none => exact aor (p := true) (q := true) (acmp (av rfl) ac rfl) (fun h => by cases h)
      | some q =>
        have hq2 := hl.2 q (List.mem_of_getLast? hq)
        have c1 := c_lworth k q.2 n (by omega)
        exact aor (p := false) (acmp (av rfl) ac rfl) fun _ => acmp (abin (av rfl) (acall (bcons (av rfl) (bcons (av rfl) bnil)) c1) rfl) (av rfl) rfl
    refine tifn (s1 := s ++ cells56 x) (s2 := s ++ cells56 (stepM b n x c)) (c := !decide (c.2.2 ∈ x.2) && take g l c.1 n) ?_ (fun ht => ?_) (fun hf => ?_) tnil
    · rw [take_eq]
      refine aand (acmp (av rfl) (av rfl) (nin_ref c.2.2 x.2 (cell56_1 s x))) fun _ => aand (av rfl) fun _ => acmp (x := .int l.length) (abi (bcons (aix (av rfl) (av rfl) X) bnil) ?_) (av rfl) rfl
      show lft (some (D.int ((l.map eM).length : Nat))) _ = _
      rw [List.length_map]; rfl
    · rw [es, if_pos ht]
      refine tseti (s1 := s ++ cells56 x) (s2 := s ++ cells56 x) (s3 := s ++ cells56 x) (d := eMs (l ++ [(c.2.2, c.1)])) (n := s.length) (j := c.2.1) (k := (c.2.1 : Nat)) (xs := x.1.map eMs) (abin (x := eMs l) (y := .tup [eM (c.2.2, c.1)]) (aix (av rfl) (av rfl) X) (atup (bcons (atup (bcons (av rfl) (bcons (atup (bcons (av rfl) (bcons (av rfl) bnil))) bnil))) bnil)) ?_) (av rfl) (av rfl) (cell56_0 s x) (by rw [List.length_map]; exact ixN_nat (by omega)) (eq_mes.pl _) ?_
      · show opM .add (.tup (l.map eM)) (.tup [eM (c.2.2, c.1)]) _ = .ok (.tup ((l ++ [(c.2.2, c.1)]).map eM)) _
        rw [List.map_append]
        exact tup_add (by simp only [List.length_map, List.length_singleton]; unfold szLine; omega) _
      · have em : (x.1.map eMs).set c.2.1 (eMs (l ++ [(c.2.2, c.1)])) = (x.1.set c.2.1 (l ++ [(c.2.2, c.1)])).map eMs := by rw [List.map_set]
        rw [em, set56_0]
        refine tapp (n := s.length + 1) (xs := x.2.map fun i => D.int (i : Nat)) (d := .int (c.2.2 : Nat)) (av rfl) ⟨_, cell56_1 s _⟩ (av rfl) (cell56_1 s _) (by rw [List.length_map]; have := ok.gone; unfold szLine; omega) rfl ?_
        have ea : (x.2.map fun i => D.int (i : Nat)) ++ [D.int (c.2.2 : Nat)] = (x.2 ++ [c.2.2]).map fun i => D.int (i : Nat) := by rw [List.map_append]; rfl
        rw [ea, set56_1]
        exact tnil
    · rw [es, if_neg (by rw [hf]; decide)]
      exact tnil
  · exact ⟨_, _, _, _, _, _, _, _, _, _, _, _, _, rfl, ok.step hc, rfl⟩
/-! ### who is gone -/
def GoneOk (x : Sto) : Prop := ∀ p, p ∈ x.2 ↔ p ∈ goneL x.1
theorem mem_goneL {xs : List (List Me)} {p : Nat} : p ∈ goneL xs ↔ ∃ (i : Nat) (l : List Me), xs[i]? = some l ∧ ∃ m : Me, m ∈ l ∧ m.1 = p := by
  unfold goneL
  simp only [List.mem_map, List.mem_flatMap, id_eq]
  constructor
  · rintro ⟨m, ⟨l, hl, hm⟩, rfl⟩
    obtain ⟨i, hi⟩ := List.mem_iff_getElem?.mp hl
    exact ⟨i, l, hi, m, hm, rfl⟩
  · rintro ⟨i, l, hi, m, hm, rfl⟩
    exact ⟨m, ⟨l, List.mem_of_getElem? hi, hm⟩, rfl⟩
theorem goneOk_step {b : Be} {n : Int} {x : Sto} {c : Cm} (h : GoneOk x) : GoneOk (stepM b n x c) := by
  unfold stepM
  split
  · rename_i g l e1 e2
    split
    · intro p
      have hlt := (List.getElem?_eq_some_iff.mp e2).1
      have key : p ∈ goneL (x.1.set c.2.1 (l ++ [(c.2.2, c.1)])) ↔ p ∈ goneL x.1 ∨ p = c.2.2 := by
        rw [mem_goneL, mem_goneL]
        constructor
        · rintro ⟨i, l', hi, m, hm, rfl⟩
          rw [List.getElem?_set] at hi
          split at hi
          · rename_i e3
            subst e3
            injection hi with hi
            subst hi
            rcases List.mem_append.mp hm with h1 | h1
            · exact .inl ⟨_, l, e2, m, h1, rfl⟩
            · rw [List.mem_singleton.mp h1]; exact .inr rfl
          · exact .inl ⟨i, l', hi, m, hm, rfl⟩
        · rintro (⟨i, l', hi, m, hm, rfl⟩ | rfl)
          · by_cases e3 : c.2.1 = i
            · subst e3
              rw [e2] at hi
              injection hi with hi
              subst hi
              exact ⟨c.2.1, l ++ [(c.2.2, c.1)], by rw [List.getElem?_set]; simp [hlt], m, List.mem_append.mpr (.inl hm), rfl⟩
            · exact ⟨i, l', by rw [List.getElem?_set, if_neg e3]; exact hi, m, hm, rfl⟩
          · exact ⟨c.2.1, l ++ [(c.2.2, c.1)], by rw [List.getElem?_set]; simp [hlt], (c.2.2, c.1), by simp, rfl⟩
      rw [key, ← h p]
      simp
    · exact h
  · exact h
theorem goneOk_fold {b : Be} {n : Int} : ∀ (l : List Cm) (x : Sto), GoneOk x → GoneOk (l.foldl (stepM b n) x)
  | [], _, h => h
  | c :: l, x, h => goneOk_fold l _ (goneOk_step h)
theorem goneOk_init (n : Nat) : GoneOk (List.replicate n [], []) := by
  intro p
  rw [mem_goneL]
  constructor
  · intro h; cases h
  · rintro ⟨i, l, hi, m, hm, _⟩
    have := List.eq_of_mem_replicate (List.mem_of_getElem? hi)
    subst this
    cases hm
theorem goneOk_meals (b : Be) (ps : List Pt) (n : Int) : GoneOk (mealsS b ps n) := goneOk_fold _ _ (goneOk_init _)
def thrS (ro : Int) (gone : List Nat) (acc : List Me) (t : Pt × Nat) : List Me := if t.2 ∈ gone then acc else acc ++ [(t.2, offF t.1 ro)]
theorem thr_fold (b : Be) (ps : List Pt) (n : Int) : (ps.zipIdx 0).foldl (thrS b.ro (mealsS b ps n).2) [] = thrown b ps (meals b ps n) := by
  have h := goneOk_meals b ps n
  have e1 : (fun acc (t : Pt × Nat) => thrS b.ro (mealsS b ps n).2 acc t) = fun acc t => if !decide (t.2 ∈ goneL (meals b ps n)) then acc ++ [(t.2, offF t.1 b.ro)] else acc := by
    funext acc t
    unfold thrS
    have := h t.2
    by_cases q : t.2 ∈ (mealsS b ps n).2
    · have q2 : t.2 ∈ goneL (meals b ps n) := this.mp q
      simp [q, q2]
    · have q2 : ¬ t.2 ∈ goneL (meals b ps n) := fun z => q (this.mpr z)
      simp [q, q2]
  show (ps.zipIdx 0).foldl (fun acc (t : Pt × Nat) => thrS b.ro (mealsS b ps n).2 acc t) [] = _
  rw [e1, fold_if]
  unfold thrown restL
  have e2 : ps.zipIdx 0 = (List.range' 0 ps.length).map fun i => (ps.getD i ⟨0, ⟨true, 0⟩, ""⟩, i) := by
    apply List.ext_getElem
    · simp
    · intro i h1 h2
      have h3 : i < ps.length := by simpa using h1
      simp [List.getD_eq_getElem?_getD, h3]
  rw [e2, List.filter_map, List.map_map]
  simp only [List.nil_append]
  rfl
abbrev b56t : Ss := (.cons (.iff (.cmp .nin (.v 14) (.v 6)) (.cons (.set 0 (.n 3) (.bin .add (.v 3) (.tup (.cons (.tup (.cons (.v 14) (.cons (.ix (.call 53 (.cons (.v 0) (.cons (.v 9) .nil))) (.c (.int 1))) .nil))) .nil)))) .nil) .nil) .nil)
def R56t (b : Be) (ps : List Pt) (n : Int) (s : Store) (x : Sto) (i : Nat) (acc : List Me) (env : Env) (st : Store) : Prop := ∃ j7 j8 j9 j10 j11 j12 j13 j14 j15 j16 j17 j18, env = [some (eB b), some (.tup (ps.map eT)), some (.int n), some (eMs acc), some (.lst ((lcms b ps).map eC)), some (.ref s.length), some (.ref (s.length + 1)), j7, j8, j9, j10, j11, j12, j13, j14, j15, j16, j17, j18] ∧ acc.length ≤ i ∧ st = s ++ cells56 x
theorem t56t (k : Nat) (b : Be) (ps : List Pt) (n : Int) (s : Store) (x : Sto) (hb : BeV b) (t : Pt × Nat) (ht : PtV t.1) {i : Nat} (hi : i ≤ 1000) {acc : List Me} {env : Env} {st : Store} (R : R56t b ps n s x i acc env st) :
    ∃ env' st', (match asg (.t (.cons (.n 14) (.cons (.n 9) .nil))) (.tup [.int (t.2 : Nat), eT t.1]) env with
      | some env2 => evSs (RN (k + 4)) subT 100000 b56t env2
      | none => nonS) st = .ok (.nx env') st' ∧ R56t b ps n s x (i + 1) (thrS b.ro x.2 acc t) env' st' := by
  obtain ⟨j7, j8, j9, j10, j11, j12, j13, j14, j15, j16, j17, j18, rfl, hl, rfl⟩ := R
  have c1 := c_passes k b t.1 hb ht
  refine ⟨[some (eB b), some (.tup (ps.map eT)), some (.int n), some (eMs (thrS b.ro x.2 acc t)), some (.lst ((lcms b ps).map eC)), some (.ref s.length), some (.ref (s.length + 1)), j7, j8, some (eT t.1), j10, j11, j12, j13, some (.int (t.2 : Nat)), j15, j16, j17, j18], s ++ cells56 x, ?_, _, _, _, _, _, _, _, _, _, _, _, _, rfl, ?_, rfl⟩
  · apply Sa.go
    refine tifn (s1 := s ++ cells56 x) (s2 := s ++ cells56 x) (c := !decide (t.2 ∈ x.2)) (acmp (av rfl) (av rfl) (nin_ref t.2 x.2 (cell56_1 s x))) (fun h => ?_) (fun h => ?_) tnil
    · have h : ¬ t.2 ∈ x.2 := by simpa using h
      have e : thrS b.ro x.2 acc t = acc ++ [(t.2, offF t.1 b.ro)] := by unfold thrS; rw [if_neg h]
      rw [e]
      refine tset (d := eMs (acc ++ [(t.2, offF t.1 b.ro)])) (abin (x := eMs acc) (y := .tup [eM (t.2, offF t.1 b.ro)]) (av rfl) (atup (bcons (atup (bcons (av rfl) (bcons (aix (acall (bcons (av rfl) (bcons (av rfl) bnil)) c1) ac rfl) bnil))) bnil)) ?_) rfl tnil
      show opM .add (.tup (acc.map eM)) (.tup [eM (t.2, offF t.1 b.ro)]) _ = .ok (.tup ((acc ++ [(t.2, offF t.1 b.ro)]).map eM)) _
      rw [List.map_append]
      exact tup_add (by simp only [List.length_map, List.length_singleton]; unfold szLine; omega) _
    · have h : t.2 ∈ x.2 := by simpa using h
      have e : thrS b.ro x.2 acc t = acc := by unfold thrS; rw [if_pos h]
      rw [e]
      exact tnil
  · unfold thrS; split
    · omega
    · simp; omega
theorem c_lstory (k : Nat) (b : Be) (ps : List Pt) (hb : BeV b) (hp : PtsV ps) (n : Int) (hn : 0 < n) : Cl (k + 6) 56 [eB b, .tup (ps.map eT), .int n] (eS (story b ps n)) := cl_own (fd := f56) rfl rfl (eq_story.pl _) fun s => by
  have F := fit_of hb hp
  have hnp := hp.np
  have hng := hb.ng
  have hlen := lcms_len b ps F
  have c1 := c_lcomings k b ps hb hp
  have c2 := c_lined (k + 3) (lcms b ps) n (lcms_pw b ps n hn) (by omega) fun c hc => by have := (cms_sm b ps F ((lcms_perm b ps).mem_iff.mp hc)).1; omega
  rw [lorder b ps n hn] at c2
  have hol : (order n (cms b ps)).length ≤ 32 := by rw [order_len]; exact cms_len b ps F
  obtain ⟨env2, st2, w1, j3, j7, j8, j9, j10, j11, j12, j13, j14, j15, j16, j17, j18, rfl, w3, rfl⟩ := forA (enc := eL n) (f := fun x env1 => match asg (.t (.cons (.n 7) (.cons (.n 8) (.cons (.n 9) (.cons (.n 10) (.cons (.n 11) .nil)))))) x env1 with
      | some env2 => evSs (RN (k + 5)) subT 100000 b56 env2
      | none => nonS) (R56 b ps n s) (stepM b n) (order n (cms b ps)) 0 (List.replicate b.gs.length [], [])
      [some (eB b), some (.tup (ps.map eT)), some (.int n), none, some (.lst ((lcms b ps).map eC)), some (.ref s.length), some (.ref (s.length + 1)), none, none, none, none, none, none, none, none, none, none, none, none] (s ++ cells56 (List.replicate b.gs.length [], []))
      (fun j c hc x env st R => by
        have hj := (List.getElem?_eq_some_iff.mp hc).1
        have hm := cms_sm b ps F (order_mem.mp (List.mem_of_getElem? hc))
        exact t56 (k + 4) b ps n s hng.2 (by omega) (by omega) hm.2.1 R) ⟨_, _, _, _, _, _, _, _, _, _, _, _, _, rfl, ⟨by simp, fun l hl => by have := List.eq_of_mem_replicate hl; subst this; exact ⟨Nat.le_refl _, fun m hm => by simp at hm⟩, Nat.le_refl _⟩, rfl⟩
  have em : (order n (cms b ps)).foldl (stepM b n) (List.replicate b.gs.length [], []) = mealsS b ps n := rfl
  rw [em] at w1
  obtain ⟨env3, st3, v1, i7, i8, i9, i10, i11, i12, i13, i14, i15, i16, i17, i18, rfl, v3, rfl⟩ := forA (enc := fun t : Pt × Nat => D.tup [.int (t.2 : Nat), eT t.1]) (f := fun x env1 => match asg (.t (.cons (.n 14) (.cons (.n 9) .nil))) x env1 with
      | some env2 => evSs (RN (k + 5)) subT 100000 b56t env2
      | none => nonS) (R56t b ps n s (mealsS b ps n)) (thrS b.ro (mealsS b ps n).2) (ps.zipIdx 0) 0 []
      [some (eB b), some (.tup (ps.map eT)), some (.int n), some (.tup []), some (.lst ((lcms b ps).map eC)), some (.ref s.length), some (.ref (s.length + 1)), j7, j8, j9, j10, j11, j12, j13, j14, j15, j16, j17, j18] (s ++ cells56 (mealsS b ps n))
      (fun j t ht acc env st R => by
        have hj := (List.getElem?_eq_some_iff.mp ht).1
        rw [List.length_zipIdx] at hj
        exact t56t (k + 1) b ps n s _ hb t (hp.all t.1 (List.fst_mem_of_mem_zipIdx (List.mem_of_getElem? ht))) (by omega) R) ⟨_, _, _, _, _, _, _, _, _, _, _, _, rfl, by simp, rfl⟩
  rw [thr_fold] at v1
  refine ⟨s ++ cells56 (mealsS b ps n), ?_, by simp⟩
  refine tset (s1 := s ++ cells56 (List.replicate b.gs.length [], [])) (d := .tup [.lst ((lcms b ps).map eC), .ref s.length, .ref (s.length + 1)]) ?_ rfl ?_
  · refine atup (bcons (s1 := s) (acall (bcons (av rfl) (bcons (av rfl) bnil)) c1) (bcons (s1 := s ++ [.lst ((List.replicate b.gs.length []).map eMs)]) (anew (xs := (List.replicate b.gs.length []).map eMs) (abin (x := .lst [.tup []]) (y := .int b.gs.length) (alst (bcons (atup bnil) bnil)) (abi (bcons (aix (av rfl) ac rfl) bnil) ?_) ?_) ?_) ?_))
    · show lft (some (D.int ((b.gs.map eG).length : Nat))) _ = _
      rw [List.length_map]; rfl
    · show lft (if (b.gs.length : Int).natAbs < 2 ^ 24 ∧ [D.tup []].length * (b.gs.length : Int).toNat ≤ szLine then some (D.lst (List.replicate (b.gs.length : Int).toNat [D.tup []]).flatten) else none) _ = _
      rw [if_pos ⟨by omega, by simp; unfold szLine; omega⟩, Int.toNat_natCast, rep_one, List.map_replicate]
      rfl
    · exact pls_map (e := eMs) eq_mes.pl _
    · have B := bcons (C := RN (k + 5)) (sub := subT) (env := (((eB b :: D.tup (ps.map eT) :: [D.int n]).map some ++ List.replicate 16 none))) (s := s ++ [.lst ((List.replicate b.gs.length []).map eMs)]) (anew (alst bnil) rfl) bnil
      rw [show (s ++ [Cell.lst ((List.replicate b.gs.length []).map eMs)]).length = s.length + 1 by simp] at B
      rw [List.append_assoc] at B
      exact B
  · refine tfor (s1 := s ++ cells56 (List.replicate b.gs.length [], [])) (iov (acall (bcons (av rfl) (bcons (av rfl) bnil)) c2) rfl) w1 ?_
    refine tset (s1 := s ++ cells56 (mealsS b ps n)) (d := .tup []) (atup bnil) rfl ?_
    refine tfor (s1 := s ++ cells56 (mealsS b ps n)) (ienm (av rfl) rfl) (by
      have e := enumD_map eT ps 0
      rw [show ((0 : Nat) : Int) = 0 from rfl] at e
      rw [e]
      exact v1) (trt (atup (bcons (abi (ds := [.ref s.length]) (d := .tup ((meals b ps n).map eMs)) (bcons (av rfl) bnil) ?_) (bcons (av rfl) bnil))))
    show lft (biP .tuple ([D.ref s.length].map (drf (s ++ cells56 (mealsS b ps n))))) _ = _
    simp only [List.map_cons, List.map_nil]
    rw [drf_ref (cell56_0 s _)]
    rfl
end AB

set_option Elab.async false
set_option linter.all false
set_option autoImplicit false
set_option maxRecDepth 100000
set_option maxHeartbeats 4000000
/-! MirZ: what the laws are made of: sources, loops over what is drawn, stretches well shaped. -/
namespace AB
open PySem
local macro_rules | `(tactic| trivial) => `(tactic| (intro _; trivial))
local macro_rules | `(tactic| trivial) => `(tactic| (apply aisi; trivial; exact rfl))
local macro_rules | `(tactic| trivial) => `(tactic| (apply abi; trivial; first | exact rfl | assumption))
local macro_rules | `(tactic| trivial) => `(tactic| (apply asll; trivial; trivial; first | exact rfl | assumption))
local macro_rules | `(tactic| trivial) => `(tactic| (apply aslh; trivial; trivial; first | exact rfl | assumption))
local macro_rules | `(tactic| trivial) => `(tactic| (apply achn; trivial; trivial; exact rfl; trivial; (intro _; exact rfl)))
local macro_rules | `(tactic| trivial) => `(tactic| (apply aif; trivial; trivial; trivial))
local macro_rules | `(tactic| trivial) => `(tactic| (apply aor; trivial; trivial))
local macro_rules | `(tactic| trivial) => `(tactic| (apply aand; trivial; trivial))
local macro_rules | `(tactic| trivial) => `(tactic| (apply ant; trivial))
local macro_rules | `(tactic| trivial) => `(tactic| (apply aneg; trivial))
local macro_rules | `(tactic| trivial) => `(tactic| (apply acmp; trivial; trivial; first | exact rfl | assumption))
local macro_rules | `(tactic| trivial) => `(tactic| (apply aix; trivial; trivial; first | exact rfl | assumption))
local macro_rules | `(tactic| trivial) => `(tactic| (apply abin; trivial; trivial; first | exact rfl | assumption))
local macro_rules | `(tactic| trivial) => `(tactic| (apply atup; trivial))
local macro_rules | `(tactic| trivial) => `(tactic| (apply alst; trivial))
local macro_rules | `(tactic| trivial) => `(tactic| (apply acall; trivial; trivial))
local macro_rules | `(tactic| trivial) => `(tactic| (apply bcons; trivial; trivial))
local macro_rules | `(tactic| trivial) => `(tactic| exact bnil)
local macro_rules | `(tactic| trivial) => `(tactic| exact av rfl)
local macro_rules | `(tactic| trivial) => `(tactic| exact ac)
local macro_rules | `(tactic| trivial) => `(tactic| assumption)
local macro_rules | `(tactic| trivial) => `(tactic| exact c_less _ _ _ _ _)
local macro_rules | `(tactic| trivial) => `(tactic| exact c_added _ _ _ _ _)
section
variable {C : Nat → List D → M D} {sub : Nat → Nat → Bool} {W : Nat} {env : Env} {P : Store → Prop}
theorem hpa {e : E} {d : D} (h : ∀ s, Ea C sub e env s d s) : HE C sub P e env (· = d) := fun st p => ⟨d, st, (h st).go, rfl, p⟩
def HI (C : Nat → List D → M D) (sub : Nat → Nat → Bool) (P : Store → Prop) (it : I) (env : Env) (Q : List D → Prop) : Prop := ∀ st, P st → ∃ ds st', its C sub it env st = .ok ds st' ∧ Q ds ∧ P st'
theorem hiov {e : E} {A : D → Prop} {Q : List D → Prop} (he : HE C sub P e env A) (k : ∀ d, A d → ∃ ds, items d = some ds ∧ Q ds) : HI C sub P (.ov e) env Q := fun st p => by
  obtain ⟨d, st1, h1, h2, h3⟩ := he st p
  obtain ⟨ds, k1, k2⟩ := k d h2
  refine ⟨ds, st1, ?_, k2, h3⟩
  show bnd (ev C sub e env) (fun x => lft (items x)) st = _
  rw [bnd_of h1, k1]; rfl
theorem hirng1 {e : E} {A : D → Prop} {Q : List D → Prop} (he : HE C sub P e env A) (k : ∀ d, A d → ∃ ds, rngP (.int 0) d = some ds ∧ Q ds) : HI C sub P (.rng1 e) env Q := fun st p => by
  obtain ⟨d, st1, h1, h2, h3⟩ := he st p
  obtain ⟨ds, k1, k2⟩ := k d h2
  refine ⟨ds, st1, ?_, k2, h3⟩
  show bnd (ev C sub e env) (fun x => lft (rngP (.int 0) x)) st = _
  rw [bnd_of h1, k1]; rfl
theorem forJL {f : D → Env → MS} (J : Env → Prop) : ∀ (ds : List D), (∀ x ∈ ds, ∀ env, J env → ∀ st, P st → ∃ env' st', f x env st = .ok (.nx env') st' ∧ J env' ∧ P st') → ∀ env st, J env → P st → ∃ env' st', forS f ds env st = .ok (.nx env') st' ∧ J env' ∧ P st'
  | [], _, env, st, j, p => ⟨env, st, rfl, j, p⟩
  | x :: ds, hs, env, st, j, p => by
    obtain ⟨env1, st1, h1, h2, h3⟩ := hs x List.mem_cons_self env j st p
    obtain ⟨env2, st2, k1, k2, k3⟩ := forJL J ds (fun y hy => hs y (List.mem_cons_of_mem _ hy)) env1 st1 h2 h3
    refine ⟨env2, st2, ?_, k2, k3⟩
    show (match f x env st with
        | .ok (.nx env') st' => forS f ds env' st'
        | .ok (.ct env') st' => forS f ds env' st'
        | .ok (.bk env') st' => RS.ok (.nx env') st'
        | .ok (.rt d) st' => .ok (.rt d) st'
        | .ex e env' st' => .ex e env' st'
        | .no => .no) = _
    rw [h1]; exact k1
/-- a for whose turns all go on -/
theorem jfor {tg : T} {it : I} {b ss : Ss} {Q : List D → Prop} {J2 : Env → Prop} (J : Env → Prop) (hi : HI C sub P it env Q) (h0 : J env) (step : ∀ ds, Q ds → ∀ x ∈ ds, ∀ env, J env → ∃ env1, asg tg x env = some env1 ∧ HN C sub W P b env1 J) (rest : ∀ env, J env → HN C sub W P ss env J2) : HN C sub W P (.cons (.forr tg it b) ss) env J2 := fun st p => by
  obtain ⟨ds, st1, a1, a2, a3⟩ := hi st p
  obtain ⟨env2, st2, k1, k2, k3⟩ := forJL (P := P) (f := fun x env1 => match asg tg x env1 with
    | some env2 => evSs C sub W b env2
    | none => nonS) J ds (fun x hx env j st p => by
      obtain ⟨env1, s1, s2⟩ := step ds a2 x hx env j
      obtain ⟨env2, st2, q1, q2, q3⟩ := s2 st p
      exact ⟨env2, st2, by simp only [s1]; exact q1, q2, q3⟩) env st1 h0 a3
  obtain ⟨env3, st3, r1, r2, r3⟩ := rest env2 k2 st2 k3
  refine ⟨env3, st3, ?_, r2, r3⟩
  show thenS (onE (its C sub it env) env fun xs => forS (fun x env1 => match asg tg x env1 with
    | some env2 => evSs C sub W b env2
    | none => nonS) xs env) (fun env' => evSs C sub W ss env') st = _
  unfold thenS onE; rw [a1]; simp only []; rw [k1]; exact r1
theorem hforS {tg : T} {it : I} {b ss : Ss} {Q : List D → Prop} {R : D → Prop} (J : Env → Prop) (hi : HI C sub P it env Q) (h0 : J env) (step : ∀ ds, Q ds → ∀ x ∈ ds, ∀ env, J env → ∃ env1, asg tg x env = some env1 ∧ HN C sub W P b env1 J) (rest : ∀ env, J env → HS C sub W P ss env R) : HS C sub W P (.cons (.forr tg it b) ss) env R := fun st p => by
  obtain ⟨ds, st1, a1, a2, a3⟩ := hi st p
  obtain ⟨env2, st2, k1, k2, k3⟩ := forJL (P := P) (f := fun x env1 => match asg tg x env1 with
    | some env2 => evSs C sub W b env2
    | none => nonS) J ds (fun x hx env j st p => by
      obtain ⟨env1, s1, s2⟩ := step ds a2 x hx env j
      obtain ⟨env2, st2, q1, q2, q3⟩ := s2 st p
      exact ⟨env2, st2, by simp only [s1]; exact q1, q2, q3⟩) env st1 h0 a3
  obtain ⟨d, st3, r1, r2, r3⟩ := rest env2 k2 st2 k3
  refine ⟨d, st3, ?_, r2, r3⟩
  show thenS (onE (its C sub it env) env fun xs => forS (fun x env1 => match asg tg x env1 with
    | some env2 => evSs C sub W b env2
    | none => nonS) xs env) (fun env' => evSs C sub W ss env') st = _
  unfold thenS onE; rw [a1]; simp only []; rw [k1]; exact r1
/-- an if whose test does not hold -/
theorem jiff {t : E} {a ss : Ss} {J : Env → Prop} (ht : HE C sub P t env (· = .bl false)) (rest : HN C sub W P ss env J) : HN C sub W P (.cons (.iff t a .nil) ss) env J := fun st p => by
  obtain ⟨_, st1, a1, rfl, a3⟩ := ht st p
  obtain ⟨env2, st2, r1, r2, r3⟩ := rest st1 a3
  refine ⟨env2, st2, ?_, r2, r3⟩
  have e : bnd (ev C sub t env) (fun x => lft (truth x)) st = .ok false st1 := by rw [bnd_of a1]; rfl
  show thenS (onE (bnd (ev C sub t env) fun x => lft (truth x)) env fun c => if c then evSs C sub W a env else evSs C sub W .nil env) (fun env' => evSs C sub W ss env') st = _
  unfold thenS onE; rw [e]; simp only [Bool.false_eq_true, if_false]; exact r1
theorem hiffF {t : E} {a ss : Ss} {Q : D → Prop} (ht : HE C sub P t env (· = .bl false)) (rest : HS C sub W P ss env Q) : HS C sub W P (.cons (.iff t a .nil) ss) env Q := fun st p => by
  obtain ⟨_, st1, a1, rfl, a3⟩ := ht st p
  obtain ⟨d, st2, r1, r2, r3⟩ := rest st1 a3
  refine ⟨d, st2, ?_, r2, r3⟩
  have e : bnd (ev C sub t env) (fun x => lft (truth x)) st = .ok false st1 := by rw [bnd_of a1]; rfl
  show thenS (onE (bnd (ev C sub t env) fun x => lft (truth x)) env fun c => if c then evSs C sub W a env else evSs C sub W .nil env) (fun env' => evSs C sub W ss env') st = _
  unfold thenS onE; rw [e]; simp only [Bool.false_eq_true, if_false]; exact r1
theorem hiffT {t : E} {a b ss : Ss} {Q : D → Prop} (ht : HE C sub P t env (· = .bl true)) (rest : HS C sub W P a env Q) : HS C sub W P (.cons (.iff t a b) ss) env Q := fun st p => by
  obtain ⟨_, st1, a1, rfl, a3⟩ := ht st p
  obtain ⟨d, st2, r1, r2, r3⟩ := rest st1 a3
  refine ⟨d, st2, ?_, r2, r3⟩
  have e : bnd (ev C sub t env) (fun x => lft (truth x)) st = .ok true st1 := by rw [bnd_of a1]; rfl
  show thenS (onE (bnd (ev C sub t env) fun x => lft (truth x)) env fun c => if c then evSs C sub W a env else evSs C sub W b env) (fun env' => evSs C sub W ss env') st = _
  unfold thenS onE; rw [e]; simp only [if_true]; rw [r1]
theorem hnt {a : E} {b : Bool} (h : HE C sub P a env (· = .bl b)) : HE C sub P (.nt a) env (· = .bl (!b)) := fun st p => by
  obtain ⟨_, st1, a1, rfl, a3⟩ := h st p
  refine ⟨_, st1, ?_, rfl, a3⟩
  show bnd (ev C sub a env) (fun x => bnd (lft (truth x)) fun b => ret (D.bl (!b))) st = _
  rw [bnd_of a1]; rfl
end
/-! ### the source -/
def P0 (ns : List Int) (st : Store) : Prop := st[0]? = some (.scr ns)
theorem r_source (k kk : Nat) {ns : List Int} {st : Store} (h : P0 ns st) : ∃ a b : Int, RN (k + 1) 16 [.ref 0, .int (kk : Nat)] st = .ok (.ref st.length) (st ++ [.lst [.int a, .int b]]) ∧ 0 ≤ a ∧ 0 ≤ b ∧ b < 2147483648 := by
  have h : st[0]? = some (.scr ns) := h
  have e1 : drf st (.ref 0) = .lst (ns.map D.int) := by
    show (match st[0]? with
      | some (.lst xs) => D.lst xs
      | some (.scr ns) => .lst (ns.map D.int)
      | _ => .ref 0) = _
    rw [h]
  have hlen : biM .len [.ref 0] st = .ok (.int (ns.length : Nat)) st := by
    show lft (biP .len ([D.ref 0].map (drf st))) st = _
    simp only [List.map_cons, List.map_nil]
    rw [e1]
    show lft (some (D.int ((ns.map D.int).length : Nat))) st = _
    rw [List.length_map]; rfl
  obtain ⟨c, hc0, hc⟩ : ∃ c : Int, 0 ≤ c ∧ ∀ q : RS, Sa (RN k) subT 100000 (.cons (.iff (.cmp .lt (.v 2) (.bin .pow (.c (.int 10)) (.c (.int 18)))) (.cons (.rt (.new (.lst (.cons (.c (.int 0)) (.cons (.bin .add (.c (.int 1)) (.bin .mod (.bi .int (.cons (.bin .add (.bin .mul (.v 2) (.c (.int 7919))) (.bin .mul (.c (.int 104729)) (.v 1))) .nil)) (.c (.int 2147483646)))) .nil))))) .nil) .nil) (.cons (.rt (.new (.lst (.cons (.v 2) (.cons (.bin .add (.c (.int 1)) (.bin .mod (.bi .int (.cons (.bin .add (.v 2) (.v 1)) .nil)) (.c (.int 2147483646)))) .nil))))) .nil)) [some (.ref 0), some (.int (kk : Nat)), some (.int c)] st q → Sa (RN k) subT 100000 f16.body ([D.ref 0, .int (kk : Nat)].map some ++ List.replicate 1 none) st q := by
    by_cases hk : kk < ns.length
    · refine ⟨(ns[kk].natAbs : Int), by omega, fun q hq => ?_⟩
      refine tset (s1 := st) (d := .int 0) ac rfl ?_
      refine tifn (s1 := st) (s2 := st) (c := true) (env1 := [some (.ref 0), some (.int (kk : Nat)), some (.int (ns[kk].natAbs : Int))]) (acmp (av rfl) (abi (bcons (av rfl) bnil) hlen) ?_) (fun _ => tset (d := .int (ns[kk].natAbs : Int)) (abi (ds := [.int ns[kk]]) (bcons (abi (ds := [.int ns[kk]]) (bcons (aix (av rfl) (av rfl) ?_) bnil) rfl) bnil) ?_) rfl tnil) (fun h => by cases h) hq
      · show lft ((some (decide ((kk : Int) < (ns.length : Int)))).map D.bl) st = _
        rw [decide_eq_true (by omega)]; rfl
      · show lft (ixP (drf st (.ref 0)) (kk : Nat)) st = _
        rw [e1]
        show lft (L2.atI (ns.map D.int) (kk : Int)) st = _
        rw [atI_nat, List.getElem?_map, List.getElem?_eq_getElem hk]; rfl
      · show lft (some (D.int (if ns[kk] < 0 then -ns[kk] else ns[kk]))) st = _
        rw [absI]; rfl
    · refine ⟨0, by omega, fun q hq => ?_⟩
      refine tset (s1 := st) (d := .int 0) ac rfl ?_
      refine tifn (s1 := st) (s2 := st) (c := false) (env1 := [some (.ref 0), some (.int (kk : Nat)), some (.int 0)]) (acmp (av rfl) (abi (bcons (av rfl) bnil) hlen) ?_) (fun h => by cases h) (fun _ => tnil) hq
      show lft ((some (decide ((kk : Int) < (ns.length : Int)))).map D.bl) st = _
      rw [decide_eq_false (by omega)]; rfl
  have ref_cut : ∀ st' : Store, cutS (.ref st.length) st st' = st' := fun _ => rfl
  by_cases hq : c < 1000000000000000000
  · refine ⟨0, 1 + (c * 7919 + 104729 * kk) % 2147483646, ?_, by omega, by omega, by omega⟩
    have := hc _ (tif (c := true) (q := .ok (.rt (.ref st.length)) (st ++ [.lst [.int 0, .int (1 + (c * 7919 + 104729 * kk) % 2147483646)]])) (acmp (av rfl) (abin ac ac rfl) (by
        show lft ((some (decide (c < 10 ^ (18 : Int).toNat))).map D.bl) st = _
        rw [decide_eq_true (show c < 10 ^ (18 : Int).toNat from hq)]; rfl)) (fun _ => trt (anew (xs := [.int 0, .int (1 + (c * 7919 + 104729 * kk) % 2147483646)]) (alst (bcons ac (bcons (abin ac (abin (x := .int (c * 7919 + 104729 * kk)) (abi (bcons (abin (abin (av rfl) ac (opM_mul (.inr (by decide)) st)) (abin ac (av rfl) (opM_mul (.inl (by decide)) st)) rfl) bnil) rfl) ac rfl) rfl) bnil))) rfl)) (fun h => by cases h) rfl)
    rw [run_s (fd := f16) rfl rfl]
    have g := this.go
    have e2 : evSs (RN k) subT 100000 f16.body ([D.ref 0, .int (kk : Nat)].map some ++ List.replicate (f16.ns - f16.np) none) st = .ok (.rt (.ref st.length)) (st ++ [.lst [.int 0, .int (1 + (c * 7919 + 104729 * kk) % 2147483646)]]) := g
    rw [e2]
    rfl
  · refine ⟨c, 1 + (c + kk) % 2147483646, ?_, by omega, by omega, by omega⟩
    have := hc _ (tif (c := false) (q := .ok (.nx _) st) (acmp (av rfl) (abin ac ac rfl) (by
        show lft ((some (decide (c < 10 ^ (18 : Int).toNat))).map D.bl) st = _
        rw [decide_eq_false (show ¬ c < 10 ^ (18 : Int).toNat from hq)]; rfl)) (fun h => by cases h) (fun _ => tnil) ((trt (anew (xs := [.int c, .int (1 + (c + kk) % 2147483646)]) (alst (bcons (av rfl) (bcons (abin ac (abin (x := .int (c + kk)) (abi (bcons (abin (av rfl) (av rfl) rfl) bnil) rfl) ac rfl) rfl) bnil))) rfl) : Sa _ _ _ _ _ _ _).go))
    rw [run_s (fd := f16) rfl rfl]
    have g := this.go
    have e2 : evSs (RN k) subT 100000 f16.body ([D.ref 0, .int (kk : Nat)].map some ++ List.replicate (f16.ns - f16.np) none) st = .ok (.rt (.ref st.length)) (st ++ [.lst [.int c, .int (1 + (c + kk) % 2147483646)]]) := g
    rw [e2]
    rfl
/-- a turn of a law: its source, then what is asked with it -/
theorem jsrc {k kk m i j : Nat} {W : Nat} {ns : List Int} {env : Env} {ss : Ss} {J : Env → Prop} (h0 : vget env[0]? = some (.ref 0)) (hj : vget env[j]? = some (.int (kk : Nat))) (rest : ∀ n L, HN (RN (k + 1)) subT W (SrcS n L) ss (env.set i (some (.ref n))) J) : HN (RN (k + 1)) subT W (P0 ns) (.cons (.set m (.n i) (.call 16 (.cons (.v 0) (.cons (.v j) .nil)))) ss) env J := fun st p => by
  obtain ⟨a, b, h1, ha, hb, hb2⟩ := r_source k kk p
  have hn : 0 < st.length := (List.getElem?_eq_some_iff.mp (show st[0]? = some (.scr ns) from p)).1
  have s1 : SrcS st.length (st ++ [.dead]) (st ++ [.lst [.int a, .int b]]) := by
    refine ⟨⟨by simp, fun i hi => ?_⟩, a, b, by simp, ha, hb, hb2⟩
    rcases Nat.lt_or_ge i st.length with q | q
    · rw [List.getElem?_append_left q, List.getElem?_append_left q]
    · rw [List.getElem?_eq_none (by simp; omega), List.getElem?_eq_none (by simp; omega)]
  obtain ⟨env2, st2, r1, r2, r3⟩ := rest st.length (st ++ [.dead]) _ s1
  have T := tset (C := RN (k + 1)) (sub := subT) (W := W) (m := m) (s := st) (tg := .n i) (ss := ss) (env := env) (acallC (bcons (av h0) (bcons (av hj) bnil)) h1) rfl ⟨r1⟩
  refine ⟨env2, st2, T.go, r2, ?_⟩
  show st2[0]? = some (.scr ns)
  rw [r3.1.2 0 (by omega), List.getElem?_append_left hn]
  exact p
/-! ### well shaped stretches -/
/-- a row: its ends, and what stands behind them -/
def eRg {τ : Type} (e : τ → List D) (r : Rw τ) : D := .tup (.int r.1 :: eO r.2.1 :: e r.2.2)
theorem slL_one (xs : List D) (st : Store) : slM (.lst xs) (some 1) none st = .ok (.lst (xs.drop 1)) st := by
  show lft (some (D.lst (cutD xs (some ((1 : Nat) : Int)) none))) st = _
  have e : cutD xs (some ((1 : Nat) : Int)) none = xs.drop 1 := by
    unfold cutD
    rw [HT.sIx_none, HT.sIx_nat]
    cases xs with
    | nil => rfl
    | cons a l => simp
  rw [e]; rfl
theorem sl_two (a b : D) (xs : List D) (st : Store) : slM (.tup (a :: b :: xs)) (some 2) none st = .ok (.tup xs) st := by
  show lft (some (D.tup (cutD (a :: b :: xs) (some ((2 : Nat) : Int)) none))) st = _
  have e : cutD (a :: b :: xs) (some ((2 : Nat) : Int)) none = xs := by
    unfold cutD
    rw [HT.sIx_none, HT.sIx_nat]
    simp
  rw [e]; rfl
theorem pl_eRg {τ : Type} {e : τ → List D} (h : ∀ a, D.pls (e a) = true) (r : Rw τ) : (eRg e r).pl = true := by
  simp only [eRg, D.pl, D.pls, pl_eO, h]; rfl
theorem eq_nilL {xs : List D} (h : D.pls xs = true) (hne : xs ≠ []) (st : Store) : coM .eq (.lst xs) (.lst []) st = .ok (.bl false) st := by
  show lft ((AB.eqP (.lst xs) (.lst [])).map D.bl) st = _
  have e : AB.eqP (.lst xs) (.lst []) = some false := by
    unfold AB.eqP
    rw [if_pos]
    · cases xs with
      | nil => exact absurd rfl hne
      | cons a l => rfl
    · show (D.pls xs && true && decide (1 ≤ 60)) = true
      rw [h]; rfl
  rw [e]; rfl
theorem ix_r0 {τ : Type} (e : τ → List D) (r : Rw τ) (st : Store) : ixM (eRg e r) (.int 0) st = .ok (.int r.1) st := ix_tup (i := 0) rfl st
theorem ix_r1 {τ : Type} (e : τ → List D) (r : Rw τ) (st : Store) : ixM (eRg e r) (.int 1) st = .ok (eO r.2.1) st := ix_tup (i := 1) rfl st
abbrev b66 : Ss := (.cons (.iff (.or (.cmp .isn (.ix (.v 1) (.c (.int 1))) (.c .non)) (.or (.cmp .lt (.ix (.v 1) (.c (.int 1))) (.ix (.v 1) (.c (.int 0)))) (.cmp .ne (.ix (.v 2) (.c (.int 0))) (.bin .add (.ix (.v 1) (.c (.int 1))) (.c (.int 1)))))) (.cons (.rt (.c (.bl false))) .nil) .nil) (.cons (.iff (.cmp .eq (.sll (.v 1) (.c (.int 2))) (.sll (.v 2) (.c (.int 2)))) (.cons (.rt (.c (.bl false))) .nil) .nil) .nil))
theorem c_shaped {τ : Type} [DecidableEq τ] {e : τ → List D} {m : Nat} (he : EqE (fun a => D.tup (e a)) m) (hm : m ≤ 60) (k : Nat) {G : Int → τ} {rows : List (Rw τ)} (hc : CovE G 10 rows none) (hs : Sharp rows) : Cl (k + 1) 66 [.lst (rows.map (eRg e))] (.bl true) := cl_of (fd := f66) rfl rfl fun s => by
  have hpl : ∀ a, D.pls (e a) = true := fun a => he.pl a
  have hne := cov_ne hc
  obtain ⟨r0, a1, a2⟩ := cov_head hc
  obtain ⟨r9, b1, b2⟩ := cov_end rows 10 hc
  have x0 : ixM (.lst (rows.map (eRg e))) (.int 0) s = .ok (eRg e r0) s := by
    have := ix_lst (xs := rows.map (eRg e)) (i := 0) (d := eRg e r0) (by rw [List.getElem?_map, a1]; rfl) s
    exact this
  have x9 : ixM (.lst (rows.map (eRg e))) (.int (-1)) s = .ok (eRg e r9) s := by
    show lft (L2.atI (rows.map (eRg e)) (-1)) s = _
    rw [atI_last _ (by simpa using hne), List.getLast?_map, b1]; rfl
  obtain ⟨env2, st2, w1, j1, j2, rfl, _, rfl⟩ := forA (enc := fun p : Rw τ × Rw τ => D.tup [eRg e p.1, eRg e p.2]) (f := fun x env1 => match asg (.t (.cons (.n 1) (.cons (.n 2) .nil))) x env1 with
      | some env2 => evSs (RN k) subT 100000 b66 env2
      | none => nonS) (fun _ (_ : Unit) env st => ∃ j1 j2, env = [some (.lst (rows.map (eRg e))), j1, j2] ∧ True ∧ st = s) (fun u _ => u) (rows.zip (rows.drop 1)) 0 () [some (.lst (rows.map (eRg e))), none, none] s
      (fun j p hp _ env st R => by
        obtain ⟨j1, j2, rfl, _, rfl⟩ := R
        obtain ⟨x, y1, y2, y3, y4⟩ := cov_pairs rows 10 none hc hs p (List.mem_of_getElem? hp)
        refine ⟨[some (.lst (rows.map (eRg e))), some (eRg e p.1), some (eRg e p.2)], st, ?_, _, _, rfl, trivial, rfl⟩
        have g1 : ∀ env, vget env[1]? = some (eRg e p.1) → Ea (RN k) subT (.ix (.v 1) (.c (.int 1))) env st (.int x) st := fun env h => aix (av h) ac (by
          rw [ix_r1, y1]; rfl)
        refine Sa.go (r := .ok (.nx _) _) ?_
        refine tifn (s1 := st) (s2 := st) (c := false) (aor (p := false) (acmp (g1 _ rfl) ac rfl) fun _ => aor (p := false) (acmp (x := .int x) (g1 _ rfl) (aix (av rfl) ac (ix_r0 e _ st)) ?_) fun _ => acmp (y := .int (x + 1)) (aix (av rfl) ac (ix_r0 e _ st)) (abin (g1 _ rfl) ac rfl) ?_) (fun h => by cases h) (fun _ => tnil) ?_
        · show lft ((some (decide (x < p.1.1))).map D.bl) st = _
          rw [decide_eq_false (by omega)]; rfl
        · rw [y3]
          have := eq_int.co_ne (by omega) (x + 1) (x + 1) st
          rw [this]; simp
        · refine tifn (s1 := st) (s2 := st) (c := false) (acmp (asll (av rfl) ac (sl_two _ _ _ st)) (asll (av rfl) ac (sl_two _ _ _ st)) ?_) (fun h => by cases h) (fun _ => tnil) tnil
          have := he.co_eq hm p.1.2.2 p.2.2.2 st
          rw [decide_eq_false y4] at this
          exact this) ⟨_, _, rfl, trivial, rfl⟩
  refine tif (c := false) (q := .ok (.nx _) st2) (aor (p := false) (ant (b := true) (aisi (av rfl) rfl)) fun _ => acmp (av rfl) (alst bnil) (eq_nilL (pls_map (e := eRg e) (pl_eRg hpl) rows) (by simpa using hne) st2)) (fun h => by cases h) (fun _ => tnil) ?_
  refine (tif (c := false) (q := .ok (.nx _) st2) (aor (p := false) (acmp (x := .int r0.1) (aix (aix (av rfl) ac x0) ac (ix_r0 e _ _)) ac ?_) fun _ => acmp (x := eO r9.2.1) (aix (aix (av rfl) (aneg ac) x9) ac (ix_r1 e _ _)) ac ?_) (fun h => by cases h) (fun _ => tnil) ?_ : Sa _ _ _ _ _ _ _).go
  · rw [a2]
    exact eq_int.co_ne (by omega) 10 10 st2
  · rw [b2]; rfl
  · rw [← zipD_map, List.map_drop] at w1
    exact (tfor (s1 := st2) (izip (av rfl) (asll (av rfl) ac (slL_one _ st2)) rfl rfl) w1 (trt ac) : Sa _ _ _ _ _ _ _).go
end AB

set_option Elab.async false
set_option linter.all false
set_option autoImplicit false
set_option maxRecDepth 100000
set_option maxHeartbeats 4000000
/-! K03: the law of whole tables, told by run. -/
namespace AB
open PySem
local macro_rules | `(tactic| trivial) => `(tactic| (intro _; trivial))
local macro_rules | `(tactic| trivial) => `(tactic| (apply aisi; trivial; exact rfl))
local macro_rules | `(tactic| trivial) => `(tactic| (apply abi; trivial; first | exact rfl | assumption))
local macro_rules | `(tactic| trivial) => `(tactic| (apply asll; trivial; trivial; first | exact rfl | assumption))
local macro_rules | `(tactic| trivial) => `(tactic| (apply aslh; trivial; trivial; first | exact rfl | assumption))
local macro_rules | `(tactic| trivial) => `(tactic| (apply achn; trivial; trivial; exact rfl; trivial; (intro _; exact rfl)))
local macro_rules | `(tactic| trivial) => `(tactic| (apply aif; trivial; trivial; trivial))
local macro_rules | `(tactic| trivial) => `(tactic| (apply aor; trivial; trivial))
local macro_rules | `(tactic| trivial) => `(tactic| (apply aand; trivial; trivial))
local macro_rules | `(tactic| trivial) => `(tactic| (apply ant; trivial))
local macro_rules | `(tactic| trivial) => `(tactic| (apply aneg; trivial))
local macro_rules | `(tactic| trivial) => `(tactic| (apply acmp; trivial; trivial; first | exact rfl | assumption))
local macro_rules | `(tactic| trivial) => `(tactic| (apply aix; trivial; trivial; first | exact rfl | assumption))
local macro_rules | `(tactic| trivial) => `(tactic| (apply abin; trivial; trivial; first | exact rfl | assumption))
local macro_rules | `(tactic| trivial) => `(tactic| (apply atup; trivial))
local macro_rules | `(tactic| trivial) => `(tactic| (apply alst; trivial))
local macro_rules | `(tactic| trivial) => `(tactic| (apply acall; trivial; trivial))
local macro_rules | `(tactic| trivial) => `(tactic| (apply bcons; trivial; trivial))
local macro_rules | `(tactic| trivial) => `(tactic| exact bnil)
local macro_rules | `(tactic| trivial) => `(tactic| exact av rfl)
local macro_rules | `(tactic| trivial) => `(tactic| exact ac)
local macro_rules | `(tactic| trivial) => `(tactic| assumption)
local macro_rules | `(tactic| trivial) => `(tactic| exact c_less _ _ _ _ _)
local macro_rules | `(tactic| trivial) => `(tactic| exact c_added _ _ _ _ _)
/-! ### what is let through, told by a Bool -/
def plB (p : Pl) : Bool := decide ((if p.b then 0 else 1) ≤ p.i) && decide (p.i ≤ 4)
theorem plB_ok {p : Pl} (h : plB p = true) : PlOk p := by
  simp only [plB, Bool.and_eq_true, decide_eq_true_eq] at h
  exact ⟨h.1, h.2⟩
def guB (g : Gu) : Bool := plB g.seat && (decide (g.seat ≠ ⟨true, 0⟩) && (decide (g.wants ∈ WW) && (decide (1 ≤ g.pause ∧ g.pause ≤ 60) && decide (1 ≤ g.most ∧ g.most ≤ 4))))
theorem guB_ok {g : Gu} (h : guB g = true) : GuV g := by
  simp only [guB, Bool.and_eq_true, decide_eq_true_eq] at h
  exact ⟨plB_ok h.1, h.2.1, h.2.2.1, h.2.2.2.1, h.2.2.2.2⟩
def beB (b : Be) : Bool := decide (1 ≤ b.gs.length ∧ b.gs.length ≤ 2) && (decide (1 ≤ b.ro ∧ b.ro ≤ 3) && b.gs.all guB)
theorem beB_ok {b : Be} (h : beB b = true) : BeV b := by
  simp only [beB, Bool.and_eq_true, decide_eq_true_eq, List.all_eq_true] at h
  exact ⟨h.1, h.2.1, fun g hg => guB_ok (h.2.2 g hg)⟩
def ptB (t : Pt) : Bool := decide (0 ≤ t.min ∧ t.min ≤ 300) && (plB t.pl && decide (t.kind ∈ (["g", "r", "y"] : List Str)))
theorem ptB_ok {t : Pt} (h : ptB t = true) : PtV t := by
  simp only [ptB, Bool.and_eq_true, decide_eq_true_eq] at h
  exact ⟨h.1, plB_ok h.2.1, h.2.2⟩
def upB : List Pt → Bool
  | [] => true
  | a :: l => (l.all fun t => decide (a.min ≤ t.min)) && upB l
theorem upB_ok : ∀ {l : List Pt}, upB l = true → l.Pairwise fun s t => s.min ≤ t.min
  | [], _ => List.Pairwise.nil
  | a :: l, h => by
    simp only [upB, Bool.and_eq_true, List.all_eq_true, decide_eq_true_eq] at h
    exact List.pairwise_cons.mpr ⟨h.1, upB_ok h.2⟩
def ptsB (ps : List Pt) : Bool := decide (ps.length ≤ 4) && (ps.all ptB && upB ps)
theorem ptsB_ok {ps : List Pt} (h : ptsB ps = true) : PtsV ps := by
  simp only [ptsB, Bool.and_eq_true, decide_eq_true_eq, List.all_eq_true] at h
  exact ⟨h.1, fun t ht => ptB_ok (h.2.1 t ht), upB_ok h.2.2⟩
section
variable {C : Nat → List D → M D} {sub : Nat → Nat → Bool} {W : Nat} {env : Env} {P : Store → Prop}
theorem hbi {b : Bi} {es : Es} {B : List D → Prop} {Q : D → Prop} (h : HEs C sub P es env B) (k : ∀ ds, B ds → ∀ st, P st → ∃ d, biM b ds st = .ok d st ∧ Q d) : HE C sub P (.bi b es) env Q := fun st p => by
  obtain ⟨ds, st1, h1, h2, h3⟩ := h st p
  obtain ⟨d, k1, k2⟩ := k ds h2 st1 h3
  refine ⟨d, st1, ?_, k2, h3⟩
  show bnd (evs C sub es env) (fun xs => biM b xs) st = _
  rw [bnd_of h1]; exact k1
end
/-! ### numbers of a stretch -/
theorem r_some4 {k n : Nat} {L : Store} {lo : Int} {g : Option Int} (h1 : 10 ≤ lo ∧ lo ≤ 701) (h2 : ∀ x, g = some x → lo ≤ x ∧ x ≤ 700) (st : Store) (p : SrcS n L st) : ∃ d st', RN (k + 2) 65 [.ref n, .int lo, eO g] st = .ok d st' ∧ (∃ ns : List Int, d = .lst (ns.map D.int) ∧ (∀ x ∈ ns, lo ≤ x ∧ ∀ y, g = some y → x ≤ y) ∧ ns.length ≤ 4) ∧ SrcS n L st' := by
  cases g with
  | none =>
    refine run_h (fd := f65) rfl rfl (hiffT (hpa fun s => acmp (av rfl) ac rfl) (hset (A := fun d => ∃ r : Int, d = .int r ∧ lo ≤ r) (hbin (hp (pv rfl)) (hdraw (k := k) (many := 10 ^ (30 : Int).toNat - 10 ^ (6 : Int).toNat) rfl (fun _ => rfl) (by decide) (by decide)) fun x y a b => ?_) fun d hd => ⟨_, rfl, ?_⟩)) st p
    · obtain ⟨r, rfl, h⟩ := b; subst a
      exact ⟨.int (lo + r), fun st => rfl, _, rfl, by omega⟩
    · obtain ⟨r, rfl, hr⟩ := hd
      refine hrt (hlst (B := fun ds => ∃ ns : List Int, ds = ns.map D.int ∧ (∀ x ∈ ns, lo ≤ x) ∧ ns.length ≤ 4) (gcons (A := (· = .int lo)) (B := fun ds => ∃ ns : List Int, ds = ns.map D.int ∧ (∀ x ∈ ns, lo ≤ x) ∧ ns.length ≤ 3) (hp (pv rfl)) (gcons (A := fun d => ∃ r : Int, d = .int r ∧ lo ≤ r) (B := (· = [.int r, .int (10 ^ (30 : Int).toNat)])) (hbin (hp (pv rfl)) (hdraw (k := k) (many := 200) rfl pc (by decide) (by decide)) fun x y a b => ?_) (gp (qcons (pv rfl) (qcons (fun _ => rfl) qnil))) fun d ds a b => ?_) fun d ds a b => ?_) fun ds h => ?_)
      · obtain ⟨r, rfl, h⟩ := b; subst a
        exact ⟨.int (lo + r), fun st => rfl, _, rfl, by omega⟩
      · obtain ⟨r2, rfl, h⟩ := a; subst b
        refine ⟨[r2, r, 10 ^ (30 : Int).toNat], rfl, fun x hx => ?_, by simp⟩
        simp only [List.mem_cons, List.not_mem_nil, or_false] at hx
        have hbig : (701 : Int) ≤ 10 ^ (30 : Int).toNat := by decide
        rcases hx with rfl | rfl | rfl <;> omega
      · obtain ⟨ns, rfl, h⟩ := b; subst a
        refine ⟨lo :: ns, rfl, fun x hx => ?_, by simp only [List.length_cons]; omega⟩
        rcases List.mem_cons.mp hx with rfl | hx
        · omega
        · exact h.1 x hx
      · obtain ⟨ns, rfl, h⟩ := h
        exact ⟨ns, rfl, fun x hx => ⟨h.1 x hx, fun y hy => by cases hy⟩, h.2⟩
  | some g =>
    have h3 := h2 g rfl
    refine run_h (fd := f65) rfl rfl (hiffF (hpa fun s => acmp (av rfl) ac rfl) (hrt (hlst (B := fun ds => ∃ r : Int, ds = .int lo :: .int g :: [.int r] ∧ lo ≤ r ∧ r ≤ g) (gpre (pv rfl) (gpre (pv rfl) (gone (G := fun r => lo ≤ r ∧ r ≤ g) (hbin (hp (pv rfl)) (hdraw (k := k) (many := g - lo + 1) rfl (pbin (pbin (pv rfl) (pv rfl) fun _ => rfl) pc fun _ => rfl) (by omega) (by omega)) fun x y a b => ?_)))) fun ds h => ?_))) st p
    · obtain ⟨r, rfl, h⟩ := b; subst a
      exact ⟨.int (lo + r), fun st => rfl, _, rfl, by omega⟩
    · obtain ⟨r, rfl, h⟩ := h
      refine ⟨[lo, g, r], rfl, fun x hx => ?_, by simp⟩
      simp only [List.mem_cons, List.not_mem_nil, or_false] at hx
      rcases hx with rfl | rfl | rfl
      · exact ⟨by omega, fun y hy => by injection hy with hy; omega⟩
      · exact ⟨by omega, fun y hy => by injection hy with hy; omega⟩
      · exact ⟨by omega, fun y hy => by injection hy with hy; omega⟩
theorem r_some {k n : Nat} {L : Store} {lo : Int} {g : Option Int} (h1 : 10 ≤ lo ∧ lo ≤ 701) (h2 : ∀ x, g = some x → lo ≤ x ∧ x ≤ 700) (st : Store) (p : SrcS n L st) : ∃ d st', RN (k + 2) 65 [.ref n, .int lo, eO g] st = .ok d st' ∧ (∃ ns : List Int, d = .lst (ns.map D.int) ∧ ∀ x ∈ ns, lo ≤ x ∧ ∀ y, g = some y → x ≤ y) ∧ SrcS n L st' := by
  obtain ⟨d, st', a, ⟨ns, b, c, _⟩, e⟩ := r_some4 (k := k) h1 h2 st p
  exact ⟨d, st', a, ⟨ns, b, c⟩, e⟩
/-! ### belts and plates drawn together -/
theorem h_both {k n i : Nat} {L : Store} {env : Env} {m : Int} (hv : vget env[i]? = some (.ref n)) (hm : 0 ≤ m) (hm2 : m ≤ 4) : HE (RN (k + 3)) subT (SrcS n L) (.tup (.cons (.call 20 (.cons (.v i) .nil)) (.cons (.call 21 (.cons (.v i) (.cons (.c (.int m)) .nil))) .nil))) env fun d => ∃ (b : Be) (ps : List Pt), d = .tup [eB b, .tup (ps.map eT)] ∧ BeV b ∧ PtsV ps :=
  htup (B := fun ds => ∃ (b : Be) (ps : List Pt), ds = [eB b, .tup (ps.map eT)] ∧ BeV b ∧ PtsV ps) (gcons (A := fun d => ∃ b : Be, d = eB b ∧ BeOk b) (B := fun ds => ∃ ps : List Pt, ds = [.tup (ps.map eT)] ∧ PtsV ps) (hcall (gp (qcons (pv hv) qnil)) fun ds hd st p => by subst hd; exact r_belt (k := k) st p)
    (gcons (A := fun d => ∃ ps : List Pt, d = .tup (ps.map eT) ∧ PtsOk ps ∧ ps.length ≤ m.toNat) (B := (· = [])) (hcall (gp (qcons (pv hv) (qcons pc qnil))) fun ds hd st p => by subst hd; exact r_plates (k := k) hm (by omega) st p) gnil fun d ds a b => by
      obtain ⟨ps, rfl, h1, h2⟩ := a; subst b
      exact ⟨ps, rfl, h1.v (by omega)⟩) fun d ds u v => by
    obtain ⟨b, rfl, h⟩ := u
    obtain ⟨ps, rfl, h2⟩ := v
    exact ⟨b, ps, rfl, h.v, h2⟩) fun ds h => by
  obtain ⟨b, ps, rfl, h1, h2⟩ := h
  exact ⟨b, ps, rfl, h1, h2⟩
/-- the turns of the outer loop of a law -/
theorem h_turns {k : Nat} {ns : List Int} {env : Env} {m : Int} (hm : 0 ≤ m ∧ m ≤ 1000) (h0 : vget env[0]? = some (.ref 0)) : HI (RN k) subT (P0 ns) (.rng1 (.bin .add (.c (.int 1)) (.bi .min2 (.cons (.bi .len (.cons (.v 0) .nil)) (.cons (.c (.int m)) .nil))))) env fun ds => ∀ x ∈ ds, ∃ kk : Nat, x = .int (kk : Nat) :=
  hirng1 (A := fun d => ∃ r : Int, d = .int r ∧ 0 ≤ r ∧ r ≤ 1001) (hbin (A := (· = .int 1)) (B := fun d => ∃ r : Int, d = .int r ∧ 0 ≤ r ∧ r ≤ 1000) (hp pc) (hbi (B := fun ds => ∃ a : Int, ds = [.int a, .int m] ∧ 0 ≤ a) (gcons (A := fun d => ∃ a : Int, d = .int a ∧ 0 ≤ a) (B := (· = [.int m])) (hbi (gp (qcons (pv h0) qnil)) fun ds hd st p => by
      subst hd
      refine ⟨.int (ns.length : Nat), ?_, _, rfl, by omega⟩
      have e1 : drf st (.ref 0) = .lst (ns.map D.int) := by
        show (match st[0]? with
          | some (.lst xs) => D.lst xs
          | some (.scr ns) => .lst (ns.map D.int)
          | _ => .ref 0) = _
        rw [show st[0]? = some (.scr ns) from p]
      show lft (biP .len ([D.ref 0].map (drf st))) st = _
      simp only [List.map_cons, List.map_nil]
      rw [e1]
      show lft (some (D.int ((ns.map D.int).length : Nat))) st = _
      rw [List.length_map]; rfl) (gp (qcons pc qnil)) fun d ds a b => by
        obtain ⟨a, rfl, h⟩ := a; subst b
        exact ⟨a, rfl, h⟩) fun ds h st p => by
      obtain ⟨a, rfl, h⟩ := h
      exact ⟨.int (if m < a then m else a), rfl, _, rfl, by split <;> omega, by split <;> omega⟩) fun x y a b => by
    obtain ⟨r, rfl, h⟩ := b; subst a
    exact ⟨.int (1 + r), fun st => rfl, _, rfl, by omega, by omega⟩) fun d h => by
  obtain ⟨r, rfl, h⟩ := h
  refine ⟨_, rng0 h.1 (by omega), fun x hx => ?_⟩
  obtain ⟨n, _, rfl⟩ := List.mem_map.mp hx
  exact ⟨n, rfl⟩
/-! ### the law -/
abbrev b67c : Ss := (.cons (.forr (.n 12) (.ov (.call 65 (.cons (.v 4) (.cons (.v 9) (.cons (.v 10) .nil))))) (.cons (.iff (.cmp .ne (.call 56 (.cons (.v 8) (.cons (.v 3) (.cons (.v 12) .nil)))) (.v 11)) (.cons (.rt (.c (.bl false))) .nil) .nil) .nil)) .nil)
abbrev b67d : Ss := (.cons (.set 0 (.n 12) (.bin .add (.c (.int 10)) (.call 17 (.cons (.v 4) (.cons (.c (.int 500)) .nil))))) (.cons (.set 1 (.n 13) (.comp (.v 14) (.n 14) (.ov (.v 6)) (.cmp .le (.ix (.v 14) (.c (.int 0))) (.v 12)) [14])) (.cons (.iff (.cmp .ne (.ix (.ix (.v 13) (.neg (.c (.int 1)))) (.c (.int 2))) (.call 56 (.cons (.v 8) (.cons (.v 3) (.cons (.v 12) .nil))))) (.cons (.rt (.c (.bl false))) .nil) .nil) .nil)))
def J67a (env : Env) : Prop := ∃ j1 j2 j3 j4 j5 j6 j7 j8 j9 j10 j11 j12 j13 j14, env = [some (.ref 0), j1, j2, j3, j4, j5, j6, j7, j8, j9, j10, j11, j12, j13, j14]
def J67b (n : Nat) (env : Env) : Prop := ∃ j1 j2 j3 j5 j6 j7 j8 j9 j10 j11 j12 j13 j14, env = [some (.ref 0), j1, j2, j3, some (.ref n), j5, j6, j7, j8, j9, j10, j11, j12, j13, j14]
def J67c (n : Nat) (b : Be) (ps : List Pt) (env : Env) : Prop := ∃ j1 j2 j5 j7 j9 j10 j11 j12 j13 j14, env = [some (.ref 0), j1, j2, some (.tup (ps.map eT)), some (.ref n), j5, some (.lst ((stor b ps).map (eRw eS))), j7, some (eB b), j9, j10, j11, j12, j13, j14]
def J67d (n : Nat) (b : Be) (ps : List Pt) (r : Rw Story) (env : Env) : Prop := ∃ j1 j2 j5 j7 j12 j13 j14, env = [some (.ref 0), j1, j2, some (.tup (ps.map eT)), some (.ref n), j5, some (.lst ((stor b ps).map (eRw eS))), j7, some (eB b), some (.int r.1), some (eO r.2.1), some (eS r.2.2), j12, j13, j14]
theorem n67c {k n : Nat} {L : Store} {b : Be} {ps : List Pt} (hb : BeV b) (hp : PtsV ps) {r : Rw Story} (hr : r ∈ stor b ps) {env : Env} (J : J67d n b ps r env) : HN (RN (k + 6)) subT 100000 (SrcS n L) b67c env (J67c n b ps) := by
  obtain ⟨j1, j2, j5, j7, j12, j13, j14, rfl⟩ := J
  have cr := cov_row _ 10 none (stor_cov b ps).1 r hr
  have cs := stor_start hb hp r hr
  have ce := stor_endsB hb hp r hr
  refine jfor (Q := fun ds => ∃ ns : List Int, ds = ns.map D.int ∧ ∀ x ∈ ns, r.1 ≤ x ∧ ∀ y, r.2.1 = some y → x ≤ y) (J67d n b ps r) (hiov (A := fun d => ∃ ns : List Int, d = .lst (ns.map D.int) ∧ ∀ x ∈ ns, r.1 ≤ x ∧ ∀ y, r.2.1 = some y → x ≤ y) (hcall (gp (qcons (pv rfl) (qcons (pv rfl) (qcons (pv (vg (pl_eO r.2.1))) qnil)))) fun ds hd st p => by
      subst hd
      exact r_some (k := k + 4) ⟨cr.1, cs⟩ (fun x hx => ⟨cr.2.2 x hx, ce x hx⟩) st p) fun d hd => ?_) ⟨j1, j2, j5, j7, j12, j13, j14, rfl⟩ (fun ds hds x hx env J => ?_) fun env J => jnil ?_
  · obtain ⟨ns, rfl, h⟩ := hd
    exact ⟨_, rfl, ns, rfl, h⟩
  · obtain ⟨ns, rfl, h⟩ := hds
    obtain ⟨m, hm, rfl⟩ := List.mem_map.mp hx
    obtain ⟨j1, j2, j5, j7, j12, j13, j14, rfl⟩ := J
    have hs := h m hm
    have e : story b ps m = r.2.2 := cr.2.1 m hs.1 fun y hy => hs.2 y hy
    have c1 := c_lstory k b ps hb hp m (by omega)
    refine ⟨_, rfl, jiff (hpa (d := .bl false) fun s => acmp (acall (bcons (av rfl) (bcons (av rfl) (bcons (av rfl) bnil))) c1) (av rfl) ?_) (jnil ⟨_, _, _, _, _, _, _, rfl⟩)⟩
    have := eq_story.co_ne (by omega) (story b ps m) r.2.2 s
    rw [decide_eq_true e] at this
    exact this
  · obtain ⟨j1, j2, j5, j7, j12, j13, j14, rfl⟩ := J
    exact ⟨_, _, _, _, _, _, _, _, _, _, rfl⟩
theorem n67d {k n : Nat} {L : Store} {b : Be} {ps : List Pt} (hb : BeV b) (hq : PtsV ps) {env : Env} (J : J67c n b ps env) : HN (RN (k + 6)) subT 100000 (SrcS n L) b67d env (J67c n b ps) := by
  obtain ⟨j1, j2, j5, j7, j9, j10, j11, j12, j13, j14, rfl⟩ := J
  refine jset (A := fun d => ∃ m : Int, d = .int m ∧ 10 ≤ m) (hbin (hp pc) (hdraw (k := k + 5) (many := 500) rfl pc (by decide) (by decide)) fun x y a b => ?_) fun d hd => ⟨_, rfl, ?_⟩
  · obtain ⟨r, rfl, h⟩ := b; subst a
    exact ⟨.int (10 + r), fun st => rfl, _, rfl, by omega⟩
  obtain ⟨m, rfl, hm⟩ := hd
  obtain ⟨r, q1, q2, q3, q4, q5⟩ := cov_last _ 10 (stor_cov b ps).1 m hm
  have sl := stor_len b ps (fit_of hb hq)
  refine jset (A := (· = .lst (((stor b ps).filter fun r => decide (r.1 ≤ m)).map (eRw eS)))) (hpa fun s => ?_) fun d hd => ⟨_, rfl, ?_⟩
  · exact acomp (enc := eRw eS) (stor b ps) (fun r => decide (r.1 ≤ m)) (eRw eS) (iov (av rfl) rfl) rfl (fun r _ => ⟨_, rfl, acmp (aix (av rfl) ac rfl) (av rfl) rfl, fun _ => av rfl⟩) (by unfold szLine; omega)
  subst hd
  have c1 := c_lstory k b ps hb hq m (by omega)
  have hne : (stor b ps).filter (fun r => decide (r.1 ≤ m)) ≠ [] := by
    intro z; rw [z] at q1; cases q1
  refine jiff (hpa (d := .bl false) fun s => acmp (x := eS r.2.2) (aix (x := eRw eS r) (aix (av rfl) (aneg ac) ?_) ac rfl) (acall (bcons (av rfl) (bcons (av rfl) (bcons (av rfl) bnil))) c1) ?_) (jnil ⟨_, _, _, _, _, _, _, _, _, _, rfl⟩)
  · show lft (L2.atI (((stor b ps).filter fun r => decide (r.1 ≤ m)).map (eRw eS)) (-1)) s = _
    rw [atI_last _ (by simpa using hne), List.getLast?_map, q1]; rfl
  · have := eq_story.co_ne (by omega) r.2.2 (story b ps m) s
    rw [decide_eq_true q5] at this
    exact this
abbrev b67b : Ss := (.cons (.set 2 (.t (.cons (.n 8) (.cons (.n 3) .nil))) (.tup (.cons (.call 20 (.cons (.v 4) .nil)) (.cons (.call 21 (.cons (.v 4) (.cons (.c (.int 4)) .nil))) .nil)))) (.cons (.set 0 (.n 6) (.call 64 (.cons (.v 8) (.cons (.v 3) .nil)))) (.cons (.iff (.nt (.call 66 (.cons (.v 6) .nil))) (.cons (.rt (.c (.bl false))) .nil) .nil) (.cons (.forr (.t (.cons (.n 9) (.cons (.n 10) (.cons (.n 11) .nil)))) (.ov (.v 6)) b67c) (.cons (.forr (.n 7) (.rng1 (.c (.int 8))) b67d) .nil)))))
theorem eRw_eRg {τ : Type} (e : τ → D) : eRw e = eRg fun x => [e x] := rfl
theorem eq_one {τ : Type} [DecidableEq τ] {e : τ → D} {m : Nat} (h : EqE e m) : EqE (fun a => D.tup [e a]) (m + 1) := ⟨fun a => by simp only [D.pl, D.pls, h.pl]; rfl, fun a => by have := h.dep a; simp only [D.dep, D.deps]; omega, fun a b => by simp only [D.eqb, D.eqbs, h.eqb, Bool.and_true]⟩
theorem n67b {k n : Nat} {L : Store} {env : Env} (J : J67b n env) : HN (RN (k + 10)) subT 100000 (SrcS n L) b67b env (J67b n) := by
  obtain ⟨j1, j2, j3, j5, j6, j7, j8, j9, j10, j11, j12, j13, j14, rfl⟩ := J
  refine jset (h_both (k := k + 7) (m := 4) rfl (by omega) (by omega)) fun d hd => ?_
  obtain ⟨b, ps, rfl, hb, hp⟩ := hd
  refine ⟨_, rfl, ?_⟩
  refine jset (A := (· = .lst ((stor b ps).map (eRw eS)))) (hpa fun s => acall (bcons (av rfl) (bcons (av rfl) bnil)) (c_table (k + 1) hb hp)) fun d hd => ⟨_, rfl, ?_⟩
  subst hd
  have c1 := c_shaped (eq_one eq_story) (by omega) (k + 9) (stor_cov b ps).1 (stor_cov b ps).2
  refine jiff (hpa (d := .bl false) fun s => ant (b := true) (acall (bcons (av rfl) bnil) c1)) ?_
  refine jfor (Q := fun ds => ds = (stor b ps).map (eRw eS)) (J67c n b ps) (hiov (A := (· = .lst ((stor b ps).map (eRw eS)))) (hpa fun s => av rfl) fun d hd => by subst hd; exact ⟨_, rfl, rfl⟩) ⟨_, _, _, _, _, _, _, _, _, _, rfl⟩ (fun ds hds x hx env J => ?_) fun env J => ?_
  · subst hds
    obtain ⟨r, hr, rfl⟩ := List.mem_map.mp hx
    obtain ⟨j1, j2, j5, j7, j9, j10, j11, j12, j13, j14, rfl⟩ := J
    exact ⟨_, rfl, n67c (k := k + 4) hb hp hr ⟨_, _, _, _, _, _, _, rfl⟩⟩
  · refine jfor (Q := fun _ => True) (J67c n b ps) (hirng1 (A := (· = .int 8)) (hpa fun s => ac) fun d hd => by subst hd; exact ⟨_, rfl, trivial⟩) J (fun ds hds x hx env J => ?_) fun env J => jnil ?_
    · obtain ⟨j1, j2, j5, j7, j9, j10, j11, j12, j13, j14, rfl⟩ := J
      exact ⟨_, rfl, n67d (k := k + 4) hb hp ⟨_, _, _, _, _, _, _, _, _, _, rfl⟩⟩
    · obtain ⟨j1, j2, j5, j7, j9, j10, j11, j12, j13, j14, rfl⟩ := J
      exact ⟨_, _, _, _, _, _, _, _, _, _, _, _, _, rfl⟩
instance dStory : DecidableEq Story := inferInstance
instance dRwS : DecidableEq (Rw Story) := @instDecidableEqProd _ _ _ (@instDecidableEqProd _ _ _ dStory)
def gA : Gu := ⟨⟨true, 2⟩, "r", 5, 2⟩
def gB : Gu := ⟨⟨false, 1⟩, "gr", 12, 4⟩
def psC : List Pt := [⟨0, ⟨true, 0⟩, "r"⟩, ⟨1, ⟨true, 0⟩, "r"⟩, ⟨4, ⟨true, 3⟩, "g"⟩]
theorem law03 (k : Nat) (ns : List Int) (st : Store) (p : P0 ns st) : ∃ d st', evSs (RN (k + 11)) subT 100000 f67.body ([D.ref 0].map some ++ List.replicate 14 none) st = .ok (.rt d) st' ∧ d = .bl true ∧ P0 ns st' := by
  have bA : BeV ⟨[gA, gB], 2⟩ := beB_ok (by decide +kernel)
  have bB : BeV ⟨[gA, gB], 1⟩ := beB_ok (by decide +kernel)
  have pC : PtsV psC := ptsB_ok (by decide +kernel)
  have pN : PtsV [] := ptsB_ok (by decide +kernel)
  have t1 : (stor ⟨[gA, gB], 2⟩ psC).map (fun r => (r.1, r.2.1)) = [(10, some 11), (12, none)] := by decide +kernel
  have t2 : stor ⟨[gA, gB], 1⟩ [] = [(10, none, ([[], []], []))] := by decide +kernel
  have c1 := c_table (k + 2) bA pC
  have c2 := c_table (k + 2) bB pN
  have e3 : EqE (fun q : Int × Option Int => D.tup [.int q.1, eO q.2]) 1 := eq_int.pair eq_optI
  have H : HS (RN (k + 11)) subT 100000 (P0 ns) f67.body ([D.ref 0].map some ++ List.replicate 14 none) (· = .bl true) := by
    refine hforS J67a (h_turns (m := 8) (by omega) rfl) ⟨_, _, _, _, _, _, _, _, _, _, _, _, _, _, rfl⟩ (fun ds hds x hx env J => ?_) fun env J => ?_
    · obtain ⟨kk, rfl⟩ := hds x hx
      obtain ⟨j1, j2, j3, j4, j5, j6, j7, j8, j9, j10, j11, j12, j13, j14, rfl⟩ := J
      refine ⟨_, rfl, jsrc rfl rfl fun n L => ?_⟩
      refine jfor (Q := fun _ => True) (J67b n) (hirng1 (A := (· = .int 2)) (hpa fun s => ac) fun d hd => by subst hd; exact ⟨_, rfl, trivial⟩) ⟨_, _, _, _, _, _, _, _, _, _, _, _, _, rfl⟩ (fun ds hds x hx env J => ?_) fun env J => jnil ?_
      · obtain ⟨j1, j2, j3, j5, j6, j7, j8, j9, j10, j11, j12, j13, j14, rfl⟩ := J
        exact ⟨_, rfl, n67b (k := k + 1) ⟨_, _, _, _, _, _, _, _, _, _, _, _, _, rfl⟩⟩
      · obtain ⟨j1, j2, j3, j5, j6, j7, j8, j9, j10, j11, j12, j13, j14, rfl⟩ := J
        exact ⟨_, _, _, _, _, _, _, _, _, _, _, _, _, _, rfl⟩
    · obtain ⟨j1, j2, j3, j4, j5, j6, j7, j8, j9, j10, j11, j12, j13, j14, rfl⟩ := J
      refine hset (A := (· = .tup ([gA, gB].map eG))) (hpa fun s => ⟨rfl⟩) fun d hd => ⟨_, rfl, ?_⟩
      subst hd
      refine hset (A := (· = .tup (psC.map eT))) (hpa fun s => ⟨rfl⟩) fun d hd => ⟨_, rfl, ?_⟩
      subst hd
      refine hiffF (hpa fun s => acmp (x := .lst (((stor ⟨[gA, gB], 2⟩ psC).map fun r => (r.1, r.2.1)).map fun q => D.tup [.int q.1, eO q.2])) (y := .lst ([(10, some 11), (12, none)].map fun q : Int × Option Int => D.tup [.int q.1, eO q.2])) ?_ (alst (bcons (atup (bcons ac (bcons ac bnil))) (bcons (atup (bcons ac (bcons ac bnil))) bnil))) ?_) ?_
      · rw [List.map_map]
        exact acompA (enc := eRw eS) (stor ⟨[gA, gB], 2⟩ psC) (fun r => D.tup [.int r.1, eO r.2.1]) (iov (acall (bcons (atup (bcons (av rfl) (bcons ac bnil))) (bcons (av rfl) bnil)) c1) rfl) rfl (fun r _ => ⟨_, rfl, aslh (av rfl) ac rfl⟩) (by have := stor_len _ _ (fit_of bA pC); unfold szLine; omega)
      · have := e3.lstL.co_ne (by omega) ((stor ⟨[gA, gB], 2⟩ psC).map fun r => (r.1, r.2.1)) [(10, some 11), (12, none)] s
        rw [decide_eq_true t1] at this
        exact this
      · refine hrt (hpa fun s => acmp (x := .lst ((stor ⟨[gA, gB], 1⟩ []).map (eRw eS))) (y := .lst ([(10, none, ([[], []], []))].map (eRw eS))) (acall (bcons (atup (bcons (av rfl) (bcons ac bnil))) (bcons (atup bnil) bnil)) c2) ?_ ?_)
        · exact ⟨rfl⟩
        · rw [t2]
          have e4 : EqE (eRw eS) 6 := by
            refine ⟨fun a => pl_eRw eq_story.pl a, fun a => ?_, fun a b => ?_⟩
            · have := eq_story.dep a.2.2
              have := eq_optI.dep a.2.1
              simp only [eRw, D.dep, D.deps]; omega
            · obtain ⟨a1, a2, a3⟩ := a
              obtain ⟨b1, b2, b3⟩ := b
              simp only [eRw, D.eqb, D.eqbs, eq_optI.eqb, eq_story.eqb, Prod.mk.injEq]
              by_cases q1 : a1 = b1 <;> by_cases q2 : a2 = b2 <;> by_cases q3 : a3 = b3 <;> simp [q1, q2, q3]
          have := e4.lstL.co_eq (by omega) [(10, none, ([[], []], []))] [(10, none, ([[], []], []))] s
          rw [decide_eq_true rfl] at this
          exact this
  exact H st p
theorem run03 (ns : List Int) : ∃ st, RN 100 67 [.ref 0] [.scr ns] = .ok (.bl true) st := by
  obtain ⟨d, st', h1, rfl, _⟩ := law03 88 ns [.scr ns] rfl
  have e : RN (99 + 1) 67 [.ref 0] [.scr ns] = .ok (.bl true) (cutS (.bl true) [.scr ns] st') := by
    rw [run_s (fd := f67) rfl rfl, show f67.ns - f67.np = 14 from rfl, show (99 : Nat) = 88 + 11 from rfl, h1]
  exact ⟨_, e⟩
end AB

set_option Elab.async false
set_option linter.all false
set_option autoImplicit false
set_option maxRecDepth 100000
set_option maxHeartbeats 4000000
/-! MirBA: the law's story minute by minute, walked. -/
namespace AB
open PySem
local macro_rules | `(tactic| trivial) => `(tactic| (intro _; trivial))
local macro_rules | `(tactic| trivial) => `(tactic| (apply aisi; trivial; exact rfl))
local macro_rules | `(tactic| trivial) => `(tactic| (apply abi; trivial; first | exact rfl | assumption))
local macro_rules | `(tactic| trivial) => `(tactic| (apply asll; trivial; trivial; first | exact rfl | assumption))
local macro_rules | `(tactic| trivial) => `(tactic| (apply aslh; trivial; trivial; first | exact rfl | assumption))
local macro_rules | `(tactic| trivial) => `(tactic| (apply achn; trivial; trivial; exact rfl; trivial; (intro _; exact rfl)))
local macro_rules | `(tactic| trivial) => `(tactic| (apply aif; trivial; trivial; trivial))
local macro_rules | `(tactic| trivial) => `(tactic| (apply aor; trivial; trivial))
local macro_rules | `(tactic| trivial) => `(tactic| (apply aand; trivial; trivial))
local macro_rules | `(tactic| trivial) => `(tactic| (apply ant; trivial))
local macro_rules | `(tactic| trivial) => `(tactic| (apply aneg; trivial))
local macro_rules | `(tactic| trivial) => `(tactic| (apply acmp; trivial; trivial; first | exact rfl | assumption))
local macro_rules | `(tactic| trivial) => `(tactic| (apply aix; trivial; trivial; first | exact rfl | assumption))
local macro_rules | `(tactic| trivial) => `(tactic| (apply abin; trivial; trivial; first | exact rfl | assumption))
local macro_rules | `(tactic| trivial) => `(tactic| (apply atup; trivial))
local macro_rules | `(tactic| trivial) => `(tactic| (apply alst; trivial))
local macro_rules | `(tactic| trivial) => `(tactic| (apply acall; trivial; trivial))
local macro_rules | `(tactic| trivial) => `(tactic| (apply bcons; trivial; trivial))
local macro_rules | `(tactic| trivial) => `(tactic| exact bnil)
local macro_rules | `(tactic| trivial) => `(tactic| exact av rfl)
local macro_rules | `(tactic| trivial) => `(tactic| exact ac)
local macro_rules | `(tactic| trivial) => `(tactic| assumption)
local macro_rules | `(tactic| trivial) => `(tactic| exact c_less _ _ _ _ _)
local macro_rules | `(tactic| trivial) => `(tactic| exact c_added _ _ _ _ _)
abbrev Tk := List (Nat × Int)
def eQ (q : Nat × Int) : D := .tup [.int (q.1 : Nat), .int q.2]
def eTk (l : Tk) : D := .tup (l.map eQ)
theorem eq_q : EqE eQ 1 := eq_nat.pair eq_int
theorem eq_tk : EqE eTk 2 := eq_q.tupL
/-- who has taken what, which plates are gone, rounds -/
abbrev Sm := List Tk × List Nat × List Int
def atP (p : Pl) (n : Int) : Int := if p.b then p.i else n - p.i
def hereM (t : Pt) (n m : Int) : Int := (atP t.pl n + m - t.min) % n
def stK (b : Be) (n m : Int) (x : Sm) (t : Pt × Nat) : Sm := if t.1.min < m ∧ hereM t.1 n m = 0 ∧ t.2 ∉ x.2.1 then (x.1, x.2.1 ++ (if x.2.2.getD t.2 0 + 1 = b.ro then [t.2] else []), x.2.2.set t.2 (x.2.2.getD t.2 0 + 1)) else x
def stP (n m : Int) (g : Gu × Nat) (x : Sm × Bool) (t : Pt × Nat) : Sm × Bool := if x.2 = true ∧ ((t.1.min ≤ m ∧ t.2 ∉ x.1.2.1) ∧ hereM t.1 n m = atP g.1.seat n) ∧ inW t.1 g.1 = true then ((x.1.1.set g.2 (x.1.1.getD g.2 [] ++ [(t.2, m)]), x.1.2.1 ++ [t.2], x.1.2.2), false) else x
def freeM (g : Gu) (l : Tk) (m : Int) : Bool := decide ((l.length : Int) < g.most) && match l.getLast? with
  | none => true
  | some q => !decide (m - q.2 < g.pause)
def stG (ps : List Pt) (n m : Int) (x : Sm) (g : Gu × Nat) : Sm := ((ps.zipIdx 0).foldl (stP n m g) (x, freeM g.1 (x.1.getD g.2 []) m)).1
def stM (b : Be) (ps : List Pt) (n : Int) (x : Sm) (m : Int) : Sm := (b.gs.zipIdx 0).foldl (stG ps n m) ((ps.zipIdx 0).foldl (stK b n m) x)
/-- the cells -/
structure Mem (s : Store) (g : Nat) (x : Sm) (st : Store) : Prop where
  pre : st.take s.length = s
  len : s.length + 3 ≤ st.length
  ca : st[s.length]? = some (.lst (x.1.map eTk))
  cr : st[s.length + 2]? = some (.lst (x.2.2.map D.int))
  cg : st[g]? = some (.lst (x.2.1.map fun i => D.int (i : Nat)))
  ge : s.length < g
  gne : g ≠ s.length + 2
theorem Mem.setA {s : Store} {g : Nat} {x : Sm} {st : Store} (h : Mem s g x st) (tk : List Tk) : Mem s g (tk, x.2) (st.set s.length (.lst (tk.map eTk))) := by
  have hl := h.len
  refine ⟨?_, by simp; exact hl, ?_, ?_, ?_, h.ge, h.gne⟩
  · rw [List.take_set_of_le (Nat.le_refl _)]; exact h.pre
  · rw [List.getElem?_set_self (by omega)]
  · rw [List.getElem?_set_ne (by omega)]; exact h.cr
  · rw [List.getElem?_set_ne (by have := h.ge; omega)]; exact h.cg
theorem Mem.setR {s : Store} {g : Nat} {x : Sm} {st : Store} (h : Mem s g x st) (rd : List Int) : Mem s g (x.1, x.2.1, rd) (st.set (s.length + 2) (.lst (rd.map D.int))) := by
  have hl := h.len
  refine ⟨?_, by simp; exact hl, ?_, ?_, ?_, h.ge, h.gne⟩
  · rw [List.take_set_of_le (by omega)]; exact h.pre
  · rw [List.getElem?_set_ne (by omega)]; exact h.ca
  · rw [List.getElem?_set_self (by omega)]
  · rw [List.getElem?_set_ne (by have := h.gne; omega)]; exact h.cg
theorem Mem.setG {s : Store} {g : Nat} {x : Sm} {st : Store} (h : Mem s g x st) (gn : List Nat) : Mem s g (x.1, gn, x.2.2) (st.set g (.lst (gn.map fun i => D.int (i : Nat)))) := by
  have hl := h.len
  have h1 := h.ge
  have h2 := (List.getElem?_eq_some_iff.mp h.cg).1
  refine ⟨?_, by simp; exact hl, ?_, ?_, ?_, h.ge, h.gne⟩
  · rw [List.take_set_of_le (by omega)]; exact h.pre
  · rw [List.getElem?_set_ne (by omega)]; exact h.ca
  · rw [List.getElem?_set_ne h.gne]; exact h.cr
  · rw [List.getElem?_set_self h2]
theorem Mem.newG {s : Store} {g : Nat} {x : Sm} {st : Store} (h : Mem s g x st) (gn : List Nat) : Mem s st.length (x.1, gn, x.2.2) (st ++ [.lst (gn.map fun i => D.int (i : Nat))]) := by
  have hl := h.len
  refine ⟨?_, by simp; omega, ?_, ?_, by simp, by omega, by omega⟩
  · rw [List.take_append_of_le_length (by omega)]; exact h.pre
  · rw [List.getElem?_append_left (by omega)]; exact h.ca
  · rw [List.getElem?_append_left (by omega)]; exact h.cr
/-- sizes -/
structure SmOk (b : Be) (ps : List Pt) (c : Nat) (x : Sm) : Prop where
  tk : x.1.length = b.gs.length
  rd : x.2.2.length = ps.length
  gn : x.2.1.length ≤ c
  sm : ∀ l ∈ x.1, l.length ≤ c
theorem SmOk.mono {b : Be} {ps : List Pt} {c d : Nat} {x : Sm} (h : SmOk b ps c x) (hd : c ≤ d) : SmOk b ps d x := ⟨h.tk, h.rd, Nat.le_trans h.gn hd, fun l hl => Nat.le_trans (h.sm l hl) hd⟩
theorem SmOk.stK {b : Be} {ps : List Pt} {c : Nat} {x : Sm} {n m : Int} {t : Pt × Nat} (h : SmOk b ps c x) : SmOk b ps (c + 1) (stK b n m x t) := by
  unfold AB.stK
  split
  · refine ⟨h.tk, by simp; exact h.rd, ?_, fun l hl => Nat.le_succ_of_le (h.sm l hl)⟩
    have := h.gn
    simp only [List.length_append]
    split <;> simp <;> omega
  · exact h.mono (by omega)
theorem SmOk.stP {b : Be} {ps : List Pt} {c : Nat} {x : Sm × Bool} {n m : Int} {g : Gu × Nat} {t : Pt × Nat} (h : SmOk b ps c x.1) : SmOk b ps (c + 1) (stP n m g x t).1 := by
  unfold AB.stP
  split
  · refine ⟨by simp; exact h.tk, h.rd, by have := h.gn; simp; omega, fun l hl => ?_⟩
    rcases List.mem_or_eq_of_mem_set hl with q | q
    · exact Nat.le_succ_of_le (h.sm l q)
    · subst q
      rw [List.length_append, List.length_singleton]
      have : (x.1.1.getD g.2 []).length ≤ c := by
        rw [List.getD_eq_getElem?_getD]
        cases e : x.1.1[g.2]? with
        | none => simp
        | some l => exact h.sm l (List.mem_of_getElem? e)
      omega
  · exact h.mono (by omega)
theorem SmOk.stPs {b : Be} {ps : List Pt} {n m : Int} {g : Gu × Nat} : ∀ (ts : List (Pt × Nat)) {c : Nat} {x : Sm × Bool}, SmOk b ps c x.1 → SmOk b ps (c + ts.length) (ts.foldl (AB.stP n m g) x).1
  | [], c, x, h => h
  | t :: ts, c, x, h => by
    have := stPs (n := n) (m := m) (g := g) ts (SmOk.stP (n := n) (m := m) (g := g) (t := t) h)
    rw [List.foldl_cons, List.length_cons, show c + (ts.length + 1) = c + 1 + ts.length by omega]
    exact this
theorem SmOk.stG {b : Be} {ps : List Pt} {c : Nat} {x : Sm} {n m : Int} {g : Gu × Nat} (h : SmOk b ps c x) : SmOk b ps (c + ps.length) (stG ps n m x g) := by
  have := SmOk.stPs (n := n) (m := m) (g := g) (ps.zipIdx 0) (x := (x, freeM g.1 (x.1.getD g.2 []) m)) h
  rw [List.length_zipIdx] at this
  exact this
abbrev b57K : Ss := (.cons (.set 0 (.n 8) (.bin .mod (.bin .sub (.bin .add (.call 22 (.cons (.v 12) (.cons (.v 2) .nil))) (.v 3)) (.v 11)) (.v 2))) (.cons (.iff (.and (.cmp .gt (.v 3) (.v 11)) (.and (.cmp .eq (.v 8) (.c (.int 0))) (.cmp .nin (.v 7) (.v 5)))) (.cons (.seti (.v 6) (.v 7) (.bin .add (.ix (.v 6) (.v 7)) (.c (.int 1)))) (.cons (.set 0 (.n 5) (.new (.bin .add (.v 5) (.ite (.cmp .eq (.ix (.v 6) (.v 7)) (.ix (.v 0) (.c (.int 1)))) (.lst (.cons (.v 7) .nil)) (.lst .nil))))) .nil)) .nil) .nil))
abbrev b57P : Ss := (.cons (.set 0 (.n 8) (.bin .mod (.bin .sub (.bin .add (.call 22 (.cons (.v 12) (.cons (.v 2) .nil))) (.v 3)) (.v 11)) (.v 2))) (.cons (.set 0 (.n 18) (.and (.cmp .ge (.v 3) (.v 11)) (.cmp .nin (.v 7) (.v 5)))) (.cons (.set 0 (.n 18) (.and (.v 18) (.cmp .eq (.v 8) (.call 22 (.cons (.v 14) (.cons (.v 2) .nil)))))) (.cons (.iff (.and (.v 10) (.and (.v 18) (.cmp .inn (.v 13) (.v 15)))) (.cons (.seti (.v 4) (.v 9) (.bin .add (.ix (.v 4) (.v 9)) (.tup (.cons (.tup (.cons (.v 7) (.cons (.v 3) .nil))) .nil)))) (.cons (.set 0 (.n 10) (.c (.bl false))) (.cons (.app (.v 5) (.v 7)) .nil))) .nil) .nil))))
abbrev b57G : Ss := (.cons (.set 0 (.n 10) (.cmp .lt (.bi .len (.cons (.ix (.v 4) (.v 9)) .nil)) (.v 17))) (.cons (.iff (.and (.cmp .ne (.ix (.v 4) (.v 9)) (.tup .nil)) (.cmp .lt (.bin .sub (.v 3) (.ix (.ix (.ix (.v 4) (.v 9)) (.neg (.c (.int 1)))) (.c (.int 1)))) (.v 16))) (.cons (.set 0 (.n 10) (.c (.bl false))) .nil) .nil) (.cons (.forr (.t (.cons (.n 7) (.cons (.t (.cons (.n 11) (.cons (.n 12) (.cons (.n 13) .nil)))) .nil))) (.enm (.v 1)) b57P) .nil)))
abbrev b57M : Ss := (.cons (.forr (.t (.cons (.n 7) (.cons (.t (.cons (.n 11) (.cons (.n 12) (.cons (.n 13) .nil)))) .nil))) (.enm (.v 1)) b57K) (.cons (.forr (.t (.cons (.n 9) (.cons (.t (.cons (.n 14) (.cons (.n 15) (.cons (.n 16) (.cons (.n 17) .nil))))) .nil))) (.enm (.ix (.v 0) (.c (.int 0)))) b57G) .nil))
theorem c_lat (k : Nat) (p : Pl) (n : Int) : Cl (k + 1) 22 [eP p, .int n] (.int (atP p n)) := cl_of (fd := f22) rfl rfl fun s => by
  obtain ⟨b, i⟩ := p
  cases b <;> exact ⟨rfl⟩

def eTI (t : Pt × Nat) : D := .tup [.int (t.2 : Nat), eT t.1]
def eGI (g : Gu × Nat) : D := .tup [.int (g.2 : Nat), eG g.1]
theorem add_ref {st : Store} {n : Nat} {xs ys : List D} (h : st[n]? = some (.lst xs)) (hz : xs.length + ys.length ≤ szLine) : opM .add (.ref n) (.lst ys) st = .ok (.lst (xs ++ ys)) st := by
  show lft (opP .add (drl st (.ref n)) (drl st (.lst ys))) st = _
  have e : drl st (.ref n) = .lst xs := by
    show (match st[n]? with
      | some (.lst xs) => D.lst xs
      | _ => .ref n) = _
    rw [h]
  rw [e]
  show lft (if xs.length + ys.length ≤ szLine then some (D.lst (xs ++ ys)) else none) st = _
  rw [if_pos hz]; rfl
theorem mod_pos {i n : Int} (h : 0 < n) (st : Store) : opM .mod (.int i) (.int n) st = .ok (.int (i % n)) st := by
  show lft (if 0 < n then some (D.int (i % n)) else none) st = _
  rw [if_pos h]; rfl
theorem a_here {k : Nat} {env : Env} {st : Store} {t : Pt} {n m : Int} (hn : 0 < n) (h12 : vget env[12]? = some (eP t.pl)) (h2 : vget env[2]? = some (.int n)) (h3 : vget env[3]? = some (.int m)) (h11 : vget env[11]? = some (.int t.min)) :
    Ea (RN (k + 1)) subT (.bin .mod (.bin .sub (.bin .add (.call 22 (.cons (.v 12) (.cons (.v 2) .nil))) (.v 3)) (.v 11)) (.v 2)) env st (.int (hereM t n m)) st :=
  abin (x := .int (atP t.pl n + m - t.min)) (abin (abin (acall (bcons (av h12) (bcons (av h2) bnil)) (c_lat k t.pl n)) (av h3) rfl) (av h11) rfl) (av h2) (mod_pos hn st)
def R57K (b : Be) (ps : List Pt) (n m : Int) (s : Store) (c i : Nat) (x : Sm) (env : Env) (st : Store) : Prop := ∃ g j7 j8 j9 j10 j11 j12 j13 j14 j15 j16 j17 j18, env = [some (eB b), some (.tup (ps.map eT)), some (.int n), some (.int m), some (.ref s.length), some (.ref g), some (.ref (s.length + 2)), j7, j8, j9, j10, j11, j12, j13, j14, j15, j16, j17, j18] ∧ Mem s g x st ∧ SmOk b ps (c + i) x
theorem t57K (k : Nat) (b : Be) (ps : List Pt) {n m : Int} (hn : 0 < n) (s : Store) {c i : Nat} (hc : c + i ≤ 100000) {t : Pt × Nat} (ht : t.2 < ps.length) {x : Sm} {env : Env} {st : Store} (R : R57K b ps n m s c i x env st) :
    ∃ env' st', (match asg (.t (.cons (.n 7) (.cons (.t (.cons (.n 11) (.cons (.n 12) (.cons (.n 13) .nil)))) .nil))) (eTI t) env with
      | some env2 => evSs (RN (k + 1)) subT 100000 b57K env2
      | none => nonS) st = .ok (.nx env') st' ∧ R57K b ps n m s c (i + 1) (stK b n m x t) env' st' := by
  obtain ⟨g, j7, j8, j9, j10, j11, j12, j13, j14, j15, j16, j17, j18, rfl, M, ok⟩ := R
  have okS := ok.stK (n := n) (m := m) (t := t)
  obtain ⟨v, ev⟩ : ∃ v, x.2.2[t.2]? = some v := ⟨_, List.getElem?_eq_getElem (by have := ok.rd; omega)⟩
  have ed : x.2.2.getD t.2 0 = v := by rw [List.getD_eq_getElem?_getD, ev]; rfl
  have e1 : (x.2.2.map D.int)[t.2]? = some (.int v) := by rw [List.getElem?_map, ev]; rfl
  have hlt := (List.getElem?_eq_some_iff.mp ev).1
  have cond : ∀ env, vget env[3]? = some (.int m) → vget env[11]? = some (.int t.1.min) → vget env[8]? = some (.int (hereM t.1 n m)) → vget env[7]? = some (.int (t.2 : Nat)) → vget env[5]? = some (.ref g) →
      Ea (RN (k + 1)) subT (.and (.cmp .gt (.v 3) (.v 11)) (.and (.cmp .eq (.v 8) (.c (.int 0))) (.cmp .nin (.v 7) (.v 5)))) env st (.bl (decide (t.1.min < m) && ((hereM t.1 n m == 0) && !decide (t.2 ∈ x.2.1)))) st := fun env h3 h11 h8 h7 h5 =>
    aand (acmp (av h3) (av h11) rfl) fun _ => aand (acmp (av h8) ac rfl) fun _ => acmp (av h7) (av h5) (nin_ref t.2 x.2.1 M.cg)
  by_cases hb : t.1.min < m ∧ hereM t.1 n m = 0 ∧ t.2 ∉ x.2.1
  · have hB : (decide (t.1.min < m) && ((hereM t.1 n m == 0) && !decide (t.2 ∈ x.2.1))) = true := by simp [hb]
    have es : stK b n m x t = (x.1, x.2.1 ++ (if v + 1 = b.ro then [t.2] else []), x.2.2.set t.2 (v + 1)) := by unfold stK; rw [if_pos hb, ed]
    have M1 := M.setR (x.2.2.set t.2 (v + 1))
    have M2 := M1.newG (x.2.1 ++ (if v + 1 = b.ro then [t.2] else []))
    have e2 : ((x.2.2.set t.2 (v + 1)).map D.int)[t.2]? = some (.int (v + 1)) := by rw [List.getElem?_map, List.getElem?_set_self hlt]; rfl
    refine ⟨[some (eB b), some (.tup (ps.map eT)), some (.int n), some (.int m), some (.ref s.length), some (.ref (st.set (s.length + 2) (.lst ((x.2.2.set t.2 (v + 1)).map D.int))).length), some (.ref (s.length + 2)), some (.int (t.2 : Nat)), some (.int (hereM t.1 n m)), j9, j10, some (.int t.1.min), some (eP t.1.pl), some (.str t.1.kind), j14, j15, j16, j17, j18], (st.set (s.length + 2) (.lst ((x.2.2.set t.2 (v + 1)).map D.int))) ++ [.lst ((x.2.1 ++ (if v + 1 = b.ro then [t.2] else [])).map fun i => D.int (i : Nat))], ?_, ⟨_, _, _, _, _, _, _, _, _, _, _, _, _, rfl, by rw [es]; exact M2, by rw [es, ← Nat.add_assoc]; rw [es] at okS; exact okS⟩⟩
    refine Sa.go (r := .ok (.nx _) _) ?_
    refine tset (s1 := st) (d := .int (hereM t.1 n m)) (a_here hn rfl rfl rfl rfl) rfl ?_
    refine tifn (cond _ rfl rfl rfl rfl rfl) (fun _ => ?_) (fun h => by rw [hB] at h; cases h) tnil
    refine tseti (s1 := st) (s2 := st) (s3 := st) (d := .int (v + 1)) (n := s.length + 2) (j := t.2) (k := (t.2 : Nat)) (xs := x.2.2.map D.int) (abin (x := .int v) (aix (av rfl) (av rfl) (ix_ref M.cr e1)) ac rfl) (av rfl) (av rfl) M.cr (ixN_nat (by rw [List.length_map]; exact hlt)) rfl ?_
    have em : (x.2.2.map D.int).set t.2 (.int (v + 1)) = (x.2.2.set t.2 (v + 1)).map D.int := by rw [List.map_set]
    rw [em]
    refine tset (d := .ref (st.set (s.length + 2) (.lst ((x.2.2.set t.2 (v + 1)).map D.int))).length) (anew (s1 := st.set (s.length + 2) (.lst ((x.2.2.set t.2 (v + 1)).map D.int))) (xs := (x.2.1 ++ (if v + 1 = b.ro then [t.2] else [])).map fun i => D.int (i : Nat)) ?_ (pls_map eq_nat.pl _)) rfl tnil
    rw [List.map_append]
    refine abin (x := .ref g) (y := .lst ((if v + 1 = b.ro then [t.2] else []).map fun i => D.int (i : Nat))) (av rfl) ?_ (add_ref M1.cg ?_)
    · have e3 : D.lst ((if v + 1 = b.ro then [t.2] else []).map fun i => D.int (i : Nat)) = if (v + 1 == b.ro) = true then D.lst [.int (t.2 : Nat)] else D.lst [] := by
        by_cases h : v + 1 = b.ro <;> simp [h]
      rw [e3]
      exact aif (acmp (x := .int (v + 1)) (y := .int b.ro) (aix (av rfl) (av rfl) (ix_ref M1.cr e2)) (aix (av rfl) ac rfl) rfl) (fun _ => alst (bcons (av rfl) bnil)) fun _ => alst bnil
    · have := ok.gn
      rw [List.length_map, List.length_map]
      have : (if v + 1 = b.ro then [t.2] else []).length ≤ 1 := by split <;> simp
      unfold szLine; omega
  · have hB : (decide (t.1.min < m) && ((hereM t.1 n m == 0) && !decide (t.2 ∈ x.2.1))) = false := by
      rw [Bool.eq_false_iff]
      intro z
      simp only [Bool.and_eq_true, decide_eq_true_eq, beq_iff_eq, Bool.not_eq_true', decide_eq_false_iff_not] at z
      exact hb z
    have es : stK b n m x t = x := by unfold stK; rw [if_neg hb]
    refine ⟨[some (eB b), some (.tup (ps.map eT)), some (.int n), some (.int m), some (.ref s.length), some (.ref g), some (.ref (s.length + 2)), some (.int (t.2 : Nat)), some (.int (hereM t.1 n m)), j9, j10, some (.int t.1.min), some (eP t.1.pl), some (.str t.1.kind), j14, j15, j16, j17, j18], st, ?_, ⟨_, _, _, _, _, _, _, _, _, _, _, _, _, rfl, by rw [es]; exact M, by rw [es]; exact ok.mono (by omega)⟩⟩
    refine Sa.go (r := .ok (.nx _) _) ?_
    refine tset (s1 := st) (d := .int (hereM t.1 n m)) (a_here hn rfl rfl rfl rfl) rfl ?_
    exact tifn (s2 := st) (cond _ rfl rfl rfl rfl rfl) (fun h => by rw [hB] at h; cases h) (fun _ => tnil) tnil
def R57P (b : Be) (ps : List Pt) (n m : Int) (gu : Gu × Nat) (s : Store) (c i : Nat) (x : Sm × Bool) (env : Env) (st : Store) : Prop := ∃ g j7 j8 j11 j12 j13 j18, env = [some (eB b), some (.tup (ps.map eT)), some (.int n), some (.int m), some (.ref s.length), some (.ref g), some (.ref (s.length + 2)), j7, j8, some (.int (gu.2 : Nat)), some (.bl x.2), j11, j12, j13, some (eP gu.1.seat), some (.str gu.1.wants), some (.int gu.1.pause), some (.int gu.1.most), j18] ∧ Mem s g x.1 st ∧ SmOk b ps (c + i) x.1
theorem t57P (k : Nat) (b : Be) (ps : List Pt) {n m : Int} (hn : 0 < n) (s : Store) {c i : Nat} (hc : c + i ≤ 100000) {gu : Gu × Nat} (hg : gu.2 < b.gs.length) {t : Pt × Nat} (hk : t.1.kind.cps.size = 1) {x : Sm × Bool} {env : Env} {st : Store} (R : R57P b ps n m gu s c i x env st) :
    ∃ env' st', (match asg (.t (.cons (.n 7) (.cons (.t (.cons (.n 11) (.cons (.n 12) (.cons (.n 13) .nil)))) .nil))) (eTI t) env with
      | some env2 => evSs (RN (k + 1)) subT 100000 b57P env2
      | none => nonS) st = .ok (.nx env') st' ∧ R57P b ps n m gu s c (i + 1) (stP n m gu x t) env' st' := by
  obtain ⟨g, j7, j8, j11, j12, j13, j18, rfl, M, ok⟩ := R
  have okS := ok.stP (n := n) (m := m) (g := gu) (t := t)
  obtain ⟨l, el⟩ : ∃ l, x.1.1[gu.2]? = some l := ⟨_, List.getElem?_eq_getElem (by have := ok.tk; omega)⟩
  have ed : x.1.1.getD gu.2 [] = l := by rw [List.getD_eq_getElem?_getD, el]; rfl
  have e1 : (x.1.1.map eTk)[gu.2]? = some (eTk l) := by rw [List.getElem?_map, el]; rfl
  have hlt := (List.getElem?_eq_some_iff.mp el).1
  have hl := ok.sm l (List.mem_of_getElem? el)
  have g18 : ∀ env st2, vget env[3]? = some (.int m) → vget env[11]? = some (.int t.1.min) → vget env[7]? = some (.int (t.2 : Nat)) → vget env[5]? = some (.ref g) → st2[g]? = some (.lst (x.1.2.1.map fun i => D.int (i : Nat))) →
      Ea (RN (k + 1)) subT (.and (.cmp .ge (.v 3) (.v 11)) (.cmp .nin (.v 7) (.v 5))) env st2 (.bl (decide (t.1.min ≤ m) && !decide (t.2 ∈ x.1.2.1))) st2 := fun env st2 h3 h11 h7 h5 hm =>
    aand (acmp (av h3) (av h11) rfl) fun _ => acmp (av h7) (av h5) (nin_ref t.2 x.1.2.1 hm)
  have pre : ∀ r env2 st2 (ss : Ss), env2 = [some (eB b), some (.tup (ps.map eT)), some (.int n), some (.int m), some (.ref s.length), some (.ref g), some (.ref (s.length + 2)), some (.int (t.2 : Nat)), some (.int (hereM t.1 n m)), some (.int (gu.2 : Nat)), some (.bl x.2), some (.int t.1.min), some (eP t.1.pl), some (.str t.1.kind), some (eP gu.1.seat), some (.str gu.1.wants), some (.int gu.1.pause), some (.int gu.1.most), some (.bl ((decide (t.1.min ≤ m) && !decide (t.2 ∈ x.1.2.1)) && (hereM t.1 n m == atP gu.1.seat n)))] → st2 = st →
      Sa (RN (k + 1)) subT 100000 ss env2 st2 r → Sa (RN (k + 1)) subT 100000 (.cons (.set 0 (.n 8) (.bin .mod (.bin .sub (.bin .add (.call 22 (.cons (.v 12) (.cons (.v 2) .nil))) (.v 3)) (.v 11)) (.v 2))) (.cons (.set 0 (.n 18) (.and (.cmp .ge (.v 3) (.v 11)) (.cmp .nin (.v 7) (.v 5)))) (.cons (.set 0 (.n 18) (.and (.v 18) (.cmp .eq (.v 8) (.call 22 (.cons (.v 14) (.cons (.v 2) .nil)))))) ss)))
        [some (eB b), some (.tup (ps.map eT)), some (.int n), some (.int m), some (.ref s.length), some (.ref g), some (.ref (s.length + 2)), some (.int (t.2 : Nat)), j8, some (.int (gu.2 : Nat)), some (.bl x.2), some (.int t.1.min), some (eP t.1.pl), some (.str t.1.kind), some (eP gu.1.seat), some (.str gu.1.wants), some (.int gu.1.pause), some (.int gu.1.most), j18] st r := by
    intro r env2 st2 ss h1 h2 h
    subst h1 h2
    refine tset (s1 := st2) (d := .int (hereM t.1 n m)) (a_here hn rfl rfl rfl rfl) rfl ?_
    refine tset (s1 := st2) (d := .bl (decide (t.1.min ≤ m) && !decide (t.2 ∈ x.1.2.1))) (g18 _ _ rfl rfl rfl rfl M.cg) rfl ?_
    exact tset (s1 := st2) (d := .bl ((decide (t.1.min ≤ m) && !decide (t.2 ∈ x.1.2.1)) && (hereM t.1 n m == atP gu.1.seat n))) (aand (av rfl) fun _ => acmp (x := .int (hereM t.1 n m)) (y := .int (atP gu.1.seat n)) (av rfl) (acall (bcons (av rfl) (bcons (av rfl) bnil)) (c_lat k gu.1.seat n)) rfl) rfl h
  have cond : ∀ env st2, vget env[10]? = some (.bl x.2) → vget env[18]? = some (.bl ((decide (t.1.min ≤ m) && !decide (t.2 ∈ x.1.2.1)) && (hereM t.1 n m == atP gu.1.seat n))) → vget env[13]? = some (.str t.1.kind) → vget env[15]? = some (.str gu.1.wants) →
      Ea (RN (k + 1)) subT (.and (.v 10) (.and (.v 18) (.cmp .inn (.v 13) (.v 15)))) env st2 (.bl (x.2 && (((decide (t.1.min ≤ m) && !decide (t.2 ∈ x.1.2.1)) && (hereM t.1 n m == atP gu.1.seat n)) && inW t.1 gu.1))) st2 := fun env st2 h10 h18 h13 h15 =>
    aand (av h10) fun _ => aand (av h18) fun _ => acmp (av h13) (av h15) (in_str hk _)
  by_cases hb : x.2 = true ∧ ((t.1.min ≤ m ∧ t.2 ∉ x.1.2.1) ∧ hereM t.1 n m = atP gu.1.seat n) ∧ inW t.1 gu.1 = true
  · have hB : (x.2 && (((decide (t.1.min ≤ m) && !decide (t.2 ∈ x.1.2.1)) && (hereM t.1 n m == atP gu.1.seat n)) && inW t.1 gu.1)) = true := by simp [hb]
    have es : stP n m gu x t = ((x.1.1.set gu.2 (l ++ [(t.2, m)]), x.1.2.1 ++ [t.2], x.1.2.2), false) := by unfold stP; rw [if_pos hb, ed]
    have M1 := M.setA (x.1.1.set gu.2 (l ++ [(t.2, m)]))
    have M2 := M1.setG (x.1.2.1 ++ [t.2])
    refine ⟨[some (eB b), some (.tup (ps.map eT)), some (.int n), some (.int m), some (.ref s.length), some (.ref g), some (.ref (s.length + 2)), some (.int (t.2 : Nat)), some (.int (hereM t.1 n m)), some (.int (gu.2 : Nat)), some (.bl false), some (.int t.1.min), some (eP t.1.pl), some (.str t.1.kind), some (eP gu.1.seat), some (.str gu.1.wants), some (.int gu.1.pause), some (.int gu.1.most), some (.bl ((decide (t.1.min ≤ m) && !decide (t.2 ∈ x.1.2.1)) && (hereM t.1 n m == atP gu.1.seat n)))], _, ?_, ⟨_, _, _, _, _, _, _, by rw [es], by rw [es]; exact M2, by rw [es, ← Nat.add_assoc]; rw [es] at okS; exact okS⟩⟩
    refine Sa.go (r := .ok (.nx _) _) ?_
    refine pre _ _ _ _ rfl rfl ?_
    refine tifn (cond _ _ rfl rfl rfl rfl) (fun _ => ?_) (fun h => by rw [hB] at h; cases h) tnil
    refine tseti (s1 := st) (s2 := st) (s3 := st) (d := eTk (l ++ [(t.2, m)])) (n := s.length) (j := gu.2) (k := (gu.2 : Nat)) (xs := x.1.1.map eTk) (abin (x := eTk l) (y := .tup [eQ (t.2, m)]) (aix (av rfl) (av rfl) (ix_ref M.ca e1)) (atup (bcons (atup (bcons (av rfl) (bcons (av rfl) bnil))) bnil)) ?_) (av rfl) (av rfl) M.ca (ixN_nat (by rw [List.length_map]; exact hlt)) (eq_tk.pl _) ?_
    · show opM .add (.tup (l.map eQ)) (.tup [eQ (t.2, m)]) _ = .ok (.tup ((l ++ [(t.2, m)]).map eQ)) _
      rw [List.map_append]
      exact tup_add (by simp only [List.length_map, List.length_singleton]; unfold szLine; omega) _
    have em : (x.1.1.map eTk).set gu.2 (eTk (l ++ [(t.2, m)])) = (x.1.1.set gu.2 (l ++ [(t.2, m)])).map eTk := by rw [List.map_set]
    rw [em]
    refine tset (s1 := st.set s.length (.lst ((x.1.1.set gu.2 (l ++ [(t.2, m)])).map eTk))) (d := .bl false) ac rfl ?_
    have T := tapp (C := RN (k + 1)) (sub := subT) (W := 100000) (env := [some (eB b), some (.tup (ps.map eT)), some (.int n), some (.int m), some (.ref s.length), some (.ref g), some (.ref (s.length + 2)), some (.int (t.2 : Nat)), some (.int (hereM t.1 n m)), some (.int (gu.2 : Nat)), some (.bl false), some (.int t.1.min), some (eP t.1.pl), some (.str t.1.kind), some (eP gu.1.seat), some (.str gu.1.wants), some (.int gu.1.pause), some (.int gu.1.most), some (.bl ((decide (t.1.min ≤ m) && !decide (t.2 ∈ x.1.2.1)) && (hereM t.1 n m == atP gu.1.seat n)))]) (s := st.set s.length (.lst ((x.1.1.set gu.2 (l ++ [(t.2, m)])).map eTk))) (n := g) (xs := x.1.2.1.map fun i => D.int (i : Nat)) (d := .int (t.2 : Nat)) (o := .v 5) (e := .v 7) (ss := .nil) (av rfl) ⟨_, M1.cg⟩ (av rfl) M1.cg (by rw [List.length_map]; have := ok.gn; unfold szLine; omega) rfl tnil
    have ea : (x.1.2.1.map fun i => D.int (i : Nat)) ++ [D.int (t.2 : Nat)] = (x.1.2.1 ++ [t.2]).map fun i => D.int (i : Nat) := by rw [List.map_append]; rfl
    rw [ea] at T
    exact T
  · have hB : (x.2 && (((decide (t.1.min ≤ m) && !decide (t.2 ∈ x.1.2.1)) && (hereM t.1 n m == atP gu.1.seat n)) && inW t.1 gu.1)) = false := by
      rw [Bool.eq_false_iff]
      intro z
      simp only [Bool.and_eq_true, decide_eq_true_eq, beq_iff_eq, Bool.not_eq_true', decide_eq_false_iff_not] at z
      exact hb z
    have es : stP n m gu x t = x := by unfold stP; rw [if_neg hb]
    refine ⟨[some (eB b), some (.tup (ps.map eT)), some (.int n), some (.int m), some (.ref s.length), some (.ref g), some (.ref (s.length + 2)), some (.int (t.2 : Nat)), some (.int (hereM t.1 n m)), some (.int (gu.2 : Nat)), some (.bl x.2), some (.int t.1.min), some (eP t.1.pl), some (.str t.1.kind), some (eP gu.1.seat), some (.str gu.1.wants), some (.int gu.1.pause), some (.int gu.1.most), some (.bl ((decide (t.1.min ≤ m) && !decide (t.2 ∈ x.1.2.1)) && (hereM t.1 n m == atP gu.1.seat n)))], st, ?_, ⟨_, _, _, _, _, _, _, by rw [es], by rw [es]; exact M, by rw [es]; exact ok.mono (by omega)⟩⟩
    refine Sa.go (r := .ok (.nx _) _) ?_
    refine pre _ _ _ _ rfl rfl ?_
    exact tifn (s2 := st) (cond _ _ rfl rfl rfl rfl) (fun h => by rw [hB] at h; cases h) (fun _ => tnil) tnil
end AB

set_option Elab.async false
set_option linter.all false
set_option autoImplicit false
set_option maxRecDepth 100000
set_option maxHeartbeats 4000000
/-! MirBB: the law's story minute by minute: its loops. -/
namespace AB
open PySem
local macro_rules | `(tactic| trivial) => `(tactic| (intro _; trivial))
local macro_rules | `(tactic| trivial) => `(tactic| (apply aisi; trivial; exact rfl))
local macro_rules | `(tactic| trivial) => `(tactic| (apply abi; trivial; first | exact rfl | assumption))
local macro_rules | `(tactic| trivial) => `(tactic| (apply asll; trivial; trivial; first | exact rfl | assumption))
local macro_rules | `(tactic| trivial) => `(tactic| (apply aslh; trivial; trivial; first | exact rfl | assumption))
local macro_rules | `(tactic| trivial) => `(tactic| (apply achn; trivial; trivial; exact rfl; trivial; (intro _; exact rfl)))
local macro_rules | `(tactic| trivial) => `(tactic| (apply aif; trivial; trivial; trivial))
local macro_rules | `(tactic| trivial) => `(tactic| (apply aor; trivial; trivial))
local macro_rules | `(tactic| trivial) => `(tactic| (apply aand; trivial; trivial))
local macro_rules | `(tactic| trivial) => `(tactic| (apply ant; trivial))
local macro_rules | `(tactic| trivial) => `(tactic| (apply aneg; trivial))
local macro_rules | `(tactic| trivial) => `(tactic| (apply acmp; trivial; trivial; first | exact rfl | assumption))
local macro_rules | `(tactic| trivial) => `(tactic| (apply aix; trivial; trivial; first | exact rfl | assumption))
local macro_rules | `(tactic| trivial) => `(tactic| (apply abin; trivial; trivial; first | exact rfl | assumption))
local macro_rules | `(tactic| trivial) => `(tactic| (apply atup; trivial))
local macro_rules | `(tactic| trivial) => `(tactic| (apply alst; trivial))
local macro_rules | `(tactic| trivial) => `(tactic| (apply acall; trivial; trivial))
local macro_rules | `(tactic| trivial) => `(tactic| (apply bcons; trivial; trivial))
local macro_rules | `(tactic| trivial) => `(tactic| exact bnil)
local macro_rules | `(tactic| trivial) => `(tactic| exact av rfl)
local macro_rules | `(tactic| trivial) => `(tactic| exact ac)
local macro_rules | `(tactic| trivial) => `(tactic| assumption)
local macro_rules | `(tactic| trivial) => `(tactic| exact c_less _ _ _ _ _)
local macro_rules | `(tactic| trivial) => `(tactic| exact c_added _ _ _ _ _)
theorem SmOk.stKs {b : Be} {ps : List Pt} {n m : Int} : ∀ (ts : List (Pt × Nat)) {c : Nat} {x : Sm}, SmOk b ps c x → SmOk b ps (c + ts.length) (ts.foldl (AB.stK b n m) x)
  | [], c, x, h => h
  | t :: ts, c, x, h => by
    have := stKs (n := n) (m := m) ts (SmOk.stK (n := n) (m := m) (t := t) h)
    rw [List.foldl_cons, List.length_cons, show c + (ts.length + 1) = c + 1 + ts.length by omega]
    exact this
theorem zip_lt {α : Type} {l : List α} {p : α × Nat} (h : p ∈ l.zipIdx 0) : p.2 < l.length := by
  obtain ⟨h1, h2⟩ := List.mem_zipIdx h
  omega
theorem zip_mem {α : Type} {l : List α} {p : α × Nat} (h : p ∈ l.zipIdx 0) : p.1 ∈ l := by
  obtain ⟨h1, h2, h3⟩ := List.mem_zipIdx h
  rw [h3]; exact List.getElem_mem _
def R57G (b : Be) (ps : List Pt) (n m : Int) (s : Store) (c : Nat) (i : Nat) (x : Sm) (env : Env) (st : Store) : Prop := R57K b ps n m s (c + ps.length * i) 0 x env st
theorem free_eq (g : Gu) (l : Tk) (m : Int) : freeM g l m = if (!decide (l = []) && (match l.getLast? with
      | none => false
      | some q => decide (m - q.2 < g.pause))) = true then false else decide ((l.length : Int) < g.most) := by
  unfold freeM
  cases h : l.getLast? with
  | none =>
    have : l = [] := List.getLast?_eq_none_iff.mp h
    subst this
    simp
  | some q =>
    have : l ≠ [] := by intro z; subst z; cases h
    by_cases h2 : m - q.2 < g.pause <;> simp [this, h2]
theorem t57G (k : Nat) (b : Be) (ps : List Pt) {n m : Int} (hn : 0 < n) (s : Store) {c i : Nat} (hp : ps.length ≤ 4) (hc : c + ps.length * i ≤ 90000) {gu : Gu × Nat} (hg : gu.2 < b.gs.length) (hk : ∀ t ∈ ps, t.kind.cps.size = 1) {x : Sm} {env : Env} {st : Store} (R : R57G b ps n m s c i x env st) :
    ∃ env' st', (match asg (.t (.cons (.n 9) (.cons (.t (.cons (.n 14) (.cons (.n 15) (.cons (.n 16) (.cons (.n 17) .nil))))) .nil))) (eGI gu) env with
      | some env2 => evSs (RN (k + 1)) subT 100000 b57G env2
      | none => nonS) st = .ok (.nx env') st' ∧ R57G b ps n m s c (i + 1) (stG ps n m x gu) env' st' := by
  obtain ⟨g, j7, j8, j9, j10, j11, j12, j13, j14, j15, j16, j17, j18, rfl, M, ok⟩ := R
  have hE : enumD 0 (ps.map eT) = (ps.zipIdx 0).map eTI := enumD_map eT ps 0
  obtain ⟨l, el⟩ : ∃ l, x.1[gu.2]? = some l := ⟨_, List.getElem?_eq_getElem (by have := ok.tk; omega)⟩
  have ed : x.1.getD gu.2 [] = l := by rw [List.getD_eq_getElem?_getD, el]; rfl
  have e1 : (x.1.map eTk)[gu.2]? = some (eTk l) := by rw [List.getElem?_map, el]; rfl
  have hl := ok.sm l (List.mem_of_getElem? el)
  have X := ix_ref M.ca e1
  have hfr : freeM gu.1 (x.1.getD gu.2 []) m = freeM gu.1 l m := by rw [ed]
  obtain ⟨env2, st2, w1, R2⟩ := forA (enc := eTI) (f := fun y env1 => match asg (.t (.cons (.n 7) (.cons (.t (.cons (.n 11) (.cons (.n 12) (.cons (.n 13) .nil)))) .nil))) y env1 with
      | some env2 => evSs (RN (k + 1)) subT 100000 b57P env2
      | none => nonS) (R57P b ps n m gu s (c + ps.length * i)) (stP n m gu) (ps.zipIdx 0) 0 (x, freeM gu.1 (x.1.getD gu.2 []) m) [some (eB b), some (.tup (ps.map eT)), some (.int n), some (.int m), some (.ref s.length), some (.ref g), some (.ref (s.length + 2)), j7, j8, some (.int (gu.2 : Nat)), some (.bl (freeM gu.1 l m)), j11, j12, j13, some (eP gu.1.seat), some (.str gu.1.wants), some (.int gu.1.pause), some (.int gu.1.most), j18] st
      (fun j t ht x env st R => by
        rw [show 0 + j + 1 = 0 + j + 1 from rfl]
        have hjl : j < (ps.zipIdx 0).length := (List.getElem?_eq_some_iff.mp ht).1
        rw [List.length_zipIdx] at hjl
        exact t57P k b ps hn s (by omega) hg (hk t.1 (zip_mem (List.mem_of_getElem? ht))) R) ⟨g, _, _, _, _, _, _, by rw [hfr], M, ok⟩
  obtain ⟨g', i7, i8, i11, i12, i13, i18, rfl, M2, ok2⟩ := R2
  refine ⟨[some (eB b), some (.tup (ps.map eT)), some (.int n), some (.int m), some (.ref s.length), some (.ref g'), some (.ref (s.length + 2)), i7, i8, some (.int (gu.2 : Nat)), some (.bl ((ps.zipIdx 0).foldl (stP n m gu) (x, freeM gu.1 (x.1.getD gu.2 []) m)).2), i11, i12, i13, some (eP gu.1.seat), some (.str gu.1.wants), some (.int gu.1.pause), some (.int gu.1.most), i18], st2, ?_, ⟨g', i7, i8, some (.int (gu.2 : Nat)), some (.bl ((ps.zipIdx 0).foldl (stP n m gu) (x, freeM gu.1 (x.1.getD gu.2 []) m)).2), i11, i12, i13, some (eP gu.1.seat), some (.str gu.1.wants), some (.int gu.1.pause), some (.int gu.1.most), i18, rfl, M2, ?_⟩⟩
  · refine Sa.go (r := .ok (.nx _) _) ?_
    refine tset (s1 := st) (d := .bl (decide ((l.length : Int) < gu.1.most))) (acmp (x := .int (l.length : Nat)) (abi (bcons (aix (av rfl) (av rfl) X) bnil) ?_) (av rfl) rfl) rfl ?_
    · show lft (some (D.int ((l.map eQ).length : Nat))) _ = _
      rw [List.length_map]; rfl
    refine tifn (s1 := st) (s2 := st) (env1 := [some (eB b), some (.tup (ps.map eT)), some (.int n), some (.int m), some (.ref s.length), some (.ref g), some (.ref (s.length + 2)), j7, j8, some (.int (gu.2 : Nat)), some (.bl (freeM gu.1 l m)), j11, j12, j13, some (eP gu.1.seat), some (.str gu.1.wants), some (.int gu.1.pause), some (.int gu.1.most), j18])
      (c := !decide (l = []) && (match l.getLast? with
      | none => false
      | some q => decide (m - q.2 < gu.1.pause))) ?_ (fun h => ?_) (fun h => ?_) ?_
    · refine aand (acmp (aix (av rfl) (av rfl) X) (atup bnil) (eq_tk.co_ne (by omega) l [] _)) fun h => ?_
      have hne : l ≠ [] := by intro z; subst z; cases h
      have hq := List.getLast?_eq_some_getLast hne
      rw [hq]
      refine acmp (x := .int (m - (l.getLast hne).2)) (abin (av rfl) (aix (x := eQ (l.getLast hne)) (aix (aix (av rfl) (av rfl) X) (aneg ac) ?_) ac rfl) rfl) (av rfl) rfl
      show lft (L2.atI (l.map eQ) (-1)) _ = _
      rw [atI_last _ (by simpa using hne), List.getLast?_map, hq]; rfl
    · rw [free_eq, if_pos h]
      exact tset (s1 := st) (d := .bl false) ac rfl tnil
    · rw [free_eq, if_neg (by rw [h]; decide)]
      exact tnil
    · refine tfor (s1 := st) (ds := (ps.zipIdx 0).map eTI) (by rw [← hE]; exact ienm (av rfl) rfl) w1 tnil
  · have : (c + ps.length * (i + 1) + 0) = c + ps.length * i + (0 + (ps.zipIdx 0).length) := by rw [List.length_zipIdx, Nat.mul_succ]; omega
    rw [this]
    exact ok2
def R57M (b : Be) (ps : List Pt) (n : Int) (s : Store) (c : Nat) (x : Sm) (env : Env) (st : Store) : Prop := ∃ (j3 : Option D) (g : Nat) (j7 j8 j9 j10 j11 j12 j13 j14 j15 j16 j17 j18 : Option D), env = [some (eB b), some (.tup (ps.map eT)), some (.int n), j3, some (.ref s.length), some (.ref g), some (.ref (s.length + 2)), j7, j8, j9, j10, j11, j12, j13, j14, j15, j16, j17, j18] ∧ Mem s g x st ∧ SmOk b ps c x
theorem t57M (k : Nat) (b : Be) (ps : List Pt) {n : Int} (hn : 0 < n) (s : Store) {c : Nat} (hp : ps.length ≤ 4) (hb : b.gs.length ≤ 2) (hc : c ≤ 80000) (hk : ∀ t ∈ ps, t.kind.cps.size = 1) {m : Nat} {x : Sm} {env : Env} {st : Store} (R : R57M b ps n s c x env st) :
    ∃ env' st', (match asg (.n 3) (.int (m : Nat)) env with
      | some env2 => evSs (RN (k + 1)) subT 100000 b57M env2
      | none => nonS) st = .ok (.nx env') st' ∧ R57M b ps n s (c + 12) (stM b ps n x (m : Nat)) env' st' := by
  have hE : enumD 0 (ps.map eT) = (ps.zipIdx 0).map eTI := enumD_map eT ps 0
  have hE2 : enumD 0 (b.gs.map eG) = (b.gs.zipIdx 0).map eGI := enumD_map eG b.gs 0
  obtain ⟨j3, g, j7, j8, j9, j10, j11, j12, j13, j14, j15, j16, j17, j18, rfl, M, ok⟩ := R
  obtain ⟨env2, st2, w1, R2⟩ := forA (enc := eTI) (f := fun y env1 => match asg (.t (.cons (.n 7) (.cons (.t (.cons (.n 11) (.cons (.n 12) (.cons (.n 13) .nil)))) .nil))) y env1 with
      | some env2 => evSs (RN (k + 1)) subT 100000 b57K env2
      | none => nonS) (R57K b ps n (m : Nat) s c) (stK b n (m : Nat)) (ps.zipIdx 0) 0 x [some (eB b), some (.tup (ps.map eT)), some (.int n), some (.int (m : Nat)), some (.ref s.length), some (.ref g), some (.ref (s.length + 2)), j7, j8, j9, j10, j11, j12, j13, j14, j15, j16, j17, j18] st
      (fun j t ht x env st R => by
        have hjl : j < (ps.zipIdx 0).length := (List.getElem?_eq_some_iff.mp ht).1
        rw [List.length_zipIdx] at hjl
        exact t57K k b ps hn s (by omega) (zip_lt (List.mem_of_getElem? ht)) R) ⟨g, _, _, _, _, _, _, _, _, _, _, _, _, rfl, M, ok⟩
  have R3 : R57G b ps n (m : Nat) s (c + ps.length) 0 ((ps.zipIdx 0).foldl (stK b n (m : Nat)) x) env2 st2 := by
    obtain ⟨g', i7, i8, i9, i10, i11, i12, i13, i14, i15, i16, i17, i18, e, M2, ok2⟩ := R2
    refine ⟨g', i7, i8, i9, i10, i11, i12, i13, i14, i15, i16, i17, i18, e, M2, ?_⟩
    rw [List.length_zipIdx, Nat.zero_add] at ok2
    exact ok2
  have he2 : ∃ l, env2 = some (eB b) :: l := by
    obtain ⟨g', i7, i8, i9, i10, i11, i12, i13, i14, i15, i16, i17, i18, e, M2, ok2⟩ := R2
    exact ⟨_, e⟩
  obtain ⟨l2, he2⟩ := he2
  obtain ⟨env3, st3, w2, R4⟩ := forA (enc := eGI) (f := fun y env1 => match asg (.t (.cons (.n 9) (.cons (.t (.cons (.n 14) (.cons (.n 15) (.cons (.n 16) (.cons (.n 17) .nil))))) .nil))) y env1 with
      | some env2 => evSs (RN (k + 1)) subT 100000 b57G env2
      | none => nonS) (R57G b ps n (m : Nat) s (c + ps.length)) (stG ps n (m : Nat)) (b.gs.zipIdx 0) 0 ((ps.zipIdx 0).foldl (stK b n (m : Nat)) x) env2 st2
      (fun j gu hgu x env st R => by
        have hjl : j < (b.gs.zipIdx 0).length := (List.getElem?_eq_some_iff.mp hgu).1
        rw [List.length_zipIdx] at hjl
        have : ps.length * (0 + j) ≤ 4 * 2 := Nat.mul_le_mul hp (by omega)
        exact t57G k b ps hn s hp (by omega) (zip_lt (List.mem_of_getElem? hgu)) hk R) R3
  refine ⟨env3, st3, ?_, ?_⟩
  · refine Sa.go (r := .ok (.nx _) _) ?_
    refine tfor (s1 := st) (ds := (ps.zipIdx 0).map eTI) (by rw [← hE]; exact ienm (av rfl) rfl) w1 ?_
    subst he2
    exact tfor (s1 := st2) (ds := (b.gs.zipIdx 0).map eGI) (by rw [← hE2]; exact ienm (x := .tup (b.gs.map eG)) (aix (av rfl) ac rfl) rfl) w2 tnil
  · obtain ⟨g', i7, i8, i9, i10, i11, i12, i13, i14, i15, i16, i17, i18, e, M2, ok2⟩ := R4
    refine ⟨_, g', i7, i8, i9, i10, i11, i12, i13, i14, i15, i16, i17, i18, e, M2, ok2.mono ?_⟩
    rw [List.length_zipIdx]
    have : ps.length * (0 + b.gs.length) ≤ 4 * 2 := Nat.mul_le_mul hp (by omega)
    omega
def sm0 (b : Be) (ps : List Pt) : Sm := (List.replicate b.gs.length [], [], List.replicate ps.length 0)
def simM (b : Be) (ps : List Pt) (n : Int) (k : Nat) : Sm := (List.range' 0 k).foldl (fun x (m : Nat) => stM b ps n x (m : Nat)) (sm0 b ps)
end AB

set_option Elab.async false
set_option linter.all false
set_option autoImplicit false
set_option maxRecDepth 100000
set_option maxHeartbeats 4000000
/-! MirBC: the law's story minute by minute, as a whole; meals. -/
namespace AB
open PySem
local macro_rules | `(tactic| trivial) => `(tactic| (intro _; trivial))
local macro_rules | `(tactic| trivial) => `(tactic| (apply aisi; trivial; exact rfl))
local macro_rules | `(tactic| trivial) => `(tactic| (apply abi; trivial; first | exact rfl | assumption))
local macro_rules | `(tactic| trivial) => `(tactic| (apply asll; trivial; trivial; first | exact rfl | assumption))
local macro_rules | `(tactic| trivial) => `(tactic| (apply aslh; trivial; trivial; first | exact rfl | assumption))
local macro_rules | `(tactic| trivial) => `(tactic| (apply achn; trivial; trivial; exact rfl; trivial; (intro _; exact rfl)))
local macro_rules | `(tactic| trivial) => `(tactic| (apply aif; trivial; trivial; trivial))
local macro_rules | `(tactic| trivial) => `(tactic| (apply aor; trivial; trivial))
local macro_rules | `(tactic| trivial) => `(tactic| (apply aand; trivial; trivial))
local macro_rules | `(tactic| trivial) => `(tactic| (apply ant; trivial))
local macro_rules | `(tactic| trivial) => `(tactic| (apply aneg; trivial))
local macro_rules | `(tactic| trivial) => `(tactic| (apply acmp; trivial; trivial; first | exact rfl | assumption))
local macro_rules | `(tactic| trivial) => `(tactic| (apply aix; trivial; trivial; first | exact rfl | assumption))
local macro_rules | `(tactic| trivial) => `(tactic| (apply abin; trivial; trivial; first | exact rfl | assumption))
local macro_rules | `(tactic| trivial) => `(tactic| (apply atup; trivial))
local macro_rules | `(tactic| trivial) => `(tactic| (apply alst; trivial))
local macro_rules | `(tactic| trivial) => `(tactic| (apply acall; trivial; trivial))
local macro_rules | `(tactic| trivial) => `(tactic| (apply bcons; trivial; trivial))
local macro_rules | `(tactic| trivial) => `(tactic| exact bnil)
local macro_rules | `(tactic| trivial) => `(tactic| exact av rfl)
local macro_rules | `(tactic| trivial) => `(tactic| exact ac)
local macro_rules | `(tactic| trivial) => `(tactic| assumption)
local macro_rules | `(tactic| trivial) => `(tactic| exact c_less _ _ _ _ _)
local macro_rules | `(tactic| trivial) => `(tactic| exact c_added _ _ _ _ _)
theorem kind_one {ps : List Pt} (hp : PtsV ps) : ∀ t ∈ ps, t.kind.cps.size = 1 := fun t ht => by
  have := (hp.all t ht).kind
  simp only [List.mem_cons, List.not_mem_nil, or_false] at this
  rcases this with h | h | h <;> rw [h] <;> rfl
theorem mul_one_list {d : D} {k : Nat} (h : k < 1000) (st : Store) : opM .mul (.lst [d]) (.int (k : Nat)) st = .ok (.lst (List.replicate k d)) st := by
  show lft (if (k : Int).natAbs < 2 ^ 24 ∧ [d].length * (k : Int).toNat ≤ szLine then some (D.lst (List.replicate (k : Int).toNat [d]).flatten) else none) st = _
  rw [if_pos ⟨by omega, by simp; unfold szLine; omega⟩, Int.toNat_natCast, rep_one]; rfl
theorem pls_rep {d : D} (h : d.pl = true) : ∀ k : Nat, D.pls (List.replicate k d) = true
  | 0 => rfl
  | k + 1 => by rw [List.replicate_succ]; simp only [D.pls, h, pls_rep h k, Bool.and_self]
theorem c_minutes (k : Nat) {b : Be} {ps : List Pt} (hb : BeV b) (hp : PtsV ps) {n : Int} (hn : 0 < n) (hn2 : n ≤ 1000) : Cl (k + 2) 57 [eB b, .tup (ps.map eT), .int n] (.tup ((simM b ps n (310 + 4 * n).toNat).1.map eTk)) := cl_own (fd := f57) rfl rfl (pls_map eq_tk.pl _) fun s => by
  have hng := hb.ng
  have hnp := hp.np
  have m0 : Mem s (s.length + 1) (sm0 b ps) (s ++ [.lst (List.replicate b.gs.length (.tup []))] ++ [.lst []] ++ [.lst (List.replicate ps.length (.int 0))]) := by
    refine ⟨by simp, by simp, ?_, ?_, ?_, by omega, by omega⟩
    · simp [sm0]; exact .inr rfl
    · simp [sm0]
    · simp [sm0]
  have ok0 : SmOk b ps 0 (sm0 b ps) := ⟨by simp [sm0], by simp [sm0], by simp [sm0], fun l hl => by
    simp only [sm0] at hl
    rw [(List.mem_replicate.mp hl).2]; simp⟩
  obtain ⟨env2, st2, w1, R2⟩ := forA (enc := fun m : Nat => D.int (m : Nat)) (f := fun y env1 => match asg (.n 3) y env1 with
      | some env2 => evSs (RN (k + 1)) subT 100000 b57M env2
      | none => nonS) (fun i x env st => R57M b ps n s (12 * i) x env st) (fun x (m : Nat) => stM b ps n x (m : Nat)) (List.range' 0 (310 + 4 * n).toNat) 0 (sm0 b ps) [some (eB b), some (.tup (ps.map eT)), some (.int n), none, some (.ref s.length), some (.ref (s.length + 1)), some (.ref (s.length + 2)), none, none, none, none, none, none, none, none, none, none, none, none] (s ++ [.lst (List.replicate b.gs.length (.tup []))] ++ [.lst []] ++ [.lst (List.replicate ps.length (.int 0))])
      (fun j m hm x env st R => by
        have hjl : j < (List.range' 0 (310 + 4 * n).toNat).length := (List.getElem?_eq_some_iff.mp hm).1
        rw [List.length_range'] at hjl
        rw [show 12 * (0 + j + 1) = 12 * (0 + j) + 12 by omega]
        exact t57M k b ps hn s (c := 12 * (0 + j)) hnp hng.2 (by omega) (kind_one hp) (m := m) R) ⟨none, s.length + 1, _, _, _, _, _, _, _, _, _, _, _, _, rfl, m0, ok0⟩
  obtain ⟨j3, g, j7, j8, j9, j10, j11, j12, j13, j14, j15, j16, j17, j18, rfl, M, ok⟩ := R2
  refine ⟨st2, ?_, M.pre⟩
  refine tset (env' := [some (eB b), some (.tup (ps.map eT)), some (.int n), none, some (.ref s.length), some (.ref (s.length + 1)), some (.ref (s.length + 2)), none, none, none, none, none, none, none, none, none, none, none, none]) (s1 := s ++ [.lst (List.replicate b.gs.length (.tup []))] ++ [.lst []] ++ [.lst (List.replicate ps.length (.int 0))]) (d := .tup [.ref s.length, .ref (s.length + 1), .ref (s.length + 2)]) ?_ rfl ?_
  · have a1 := anew (C := RN (k + 1)) (sub := subT) (env := [some (eB b), some (.tup (ps.map eT)), some (.int n), none, none, none, none, none, none, none, none, none, none, none, none, none, none, none, none]) (s := s) (s1 := s) (e := .bin .mul (.lst (.cons (.tup .nil) .nil)) (.bi .len (.cons (.ix (.v 0) (.c (.int 0))) .nil))) (xs := List.replicate b.gs.length (.tup [])) (abin (x := .lst [.tup []]) (y := .int (b.gs.length : Nat)) (alst (bcons (atup bnil) bnil)) (abi (bcons (aix (av rfl) ac rfl) bnil) (by show lft (some (D.int ((b.gs.map eG).length : Nat))) _ = _; rw [List.length_map]; rfl)) (mul_one_list (by omega) _)) (pls_rep rfl _)
    have a2 := anew (C := RN (k + 1)) (sub := subT) (env := [some (eB b), some (.tup (ps.map eT)), some (.int n), none, none, none, none, none, none, none, none, none, none, none, none, none, none, none, none]) (s := s ++ [.lst (List.replicate b.gs.length (.tup []))]) (s1 := s ++ [.lst (List.replicate b.gs.length (.tup []))]) (e := .lst .nil) (xs := []) (alst bnil) rfl
    have a3 := anew (C := RN (k + 1)) (sub := subT) (env := [some (eB b), some (.tup (ps.map eT)), some (.int n), none, none, none, none, none, none, none, none, none, none, none, none, none, none, none, none]) (s := s ++ [.lst (List.replicate b.gs.length (.tup []))] ++ [.lst []]) (s1 := s ++ [Cell.lst (List.replicate b.gs.length (.tup []))] ++ [Cell.lst []]) (e := .bin .mul (.lst (.cons (.c (.int 0)) .nil)) (.bi .len (.cons (.v 1) .nil))) (xs := List.replicate ps.length (.int 0)) (abin (x := .lst [.int 0]) (y := .int (ps.length : Nat)) (alst (bcons ac bnil)) (abi (bcons (av rfl) bnil) (by show lft (some (D.int ((ps.map eT).length : Nat))) _ = _; rw [List.length_map]; rfl)) (mul_one_list (by omega) _)) (pls_rep rfl _)
    have e1 : (s ++ [Cell.lst (List.replicate b.gs.length (.tup []))]).length = s.length + 1 := by simp
    have e2 : (s ++ [Cell.lst (List.replicate b.gs.length (.tup []))] ++ [Cell.lst []]).length = s.length + 2 := by simp
    rw [e1] at a2
    rw [e2] at a3
    exact atup (bcons a1 (bcons a2 (bcons a3 bnil)))
  · have hr : rngP (.int 0) (.int (310 + 4 * n)) = some ((List.range' 0 (310 + 4 * n).toNat).map fun m : Nat => D.int (m : Nat)) := rng0 (by omega) (by omega)
    refine tfor (s1 := s ++ [.lst (List.replicate b.gs.length (.tup []))] ++ [.lst []] ++ [.lst (List.replicate ps.length (.int 0))]) (irng1 (x := .int (310 + 4 * n)) (abin ac (abin ac (av rfl) (opM_mul (.inl (by decide)) _)) rfl) hr) w1 (trt (abi (bcons (av rfl) bnil) ?_))
    show lft (biP .tuple [drf st2 (.ref s.length)]) st2 = _
    rw [drf_ref M.ca]
    rfl
end AB

set_option Elab.async false
set_option linter.all false
set_option autoImplicit false
set_option maxRecDepth 100000
set_option maxHeartbeats 4000000
/-! MathE: minute by minute is coming by coming: places, passes, the order of events. -/
namespace AB
open PySem
theorem lt_len {a c n : Int} (h1 : -9 ≤ c) (h2 : c ≤ 9) (hn : 10 ≤ n) : a * n + c < 0 ↔ a * 10 + c < 0 := by
  rcases Int.lt_trichotomy a 0 with h | h | h
  · have : a * n ≤ (-1) * n := Int.mul_le_mul_of_nonneg_right (by omega) (by omega)
    omega
  · subst h; simp
  · have : 1 * n ≤ a * n := Int.mul_le_mul_of_nonneg_right (by omega) (by omega)
    omega
theorem atP_bd {p : Pl} (hp : PlOk p) {n : Int} (hn : 10 ≤ n) : 0 ≤ atP p n ∧ atP p n < n := by
  obtain ⟨b, i⟩ := p
  obtain ⟨h1, h2⟩ := hp
  cases b <;> simp only [atP, if_true, if_false, Bool.false_eq_true] at * <;> omega
/-- how far, with a length -/
theorem far_spec {p g : Pl} (hp : PlOk p) (hg : PlOk g) {n : Int} (hn : 10 ≤ n) : (∃ z : Int, wo (furth p g) n = atP g n - atP p n + z * n) ∧ 0 ≤ wo (furth p g) n ∧ wo (furth p g) n < n := by
  rw [← lfar_eq hp hg]
  obtain ⟨pb, pi⟩ := p
  obtain ⟨gb, gi⟩ := g
  obtain ⟨p1, p2⟩ := hp
  obtain ⟨g1, g2⟩ := hg
  unfold lfar
  cases pb <;> cases gb <;> simp only [pf, minus, plus, wo, atP, if_true, if_false, Bool.false_eq_true] at * <;> split <;> refine ⟨?_, by omega, by omega⟩
  · exact ⟨0, by omega⟩
  · exact ⟨1, by omega⟩
  · exact ⟨0, by omega⟩
  · exact ⟨1, by omega⟩
  · exact ⟨0, by omega⟩
  · exact ⟨1, by omega⟩
  · exact ⟨0, by omega⟩
  · exact ⟨1, by omega⟩
theorem home_spec {p : Pl} (hp : PlOk p) {n : Int} (hn : 10 ≤ n) : wo (home p) n = n - atP p n := by
  rw [← lhome_eq hp]
  unfold lhome
  rw [← lfar_eq hp kit_ok]
  obtain ⟨pb, pi⟩ := p
  obtain ⟨p1, p2⟩ := hp
  unfold lfar
  cases pb <;> split <;> split <;> simp only [pf, minus, plus, wo, atP, if_true, if_false, Bool.false_eq_true, Bool.true_and, Bool.and_true, beq_iff_eq, Bool.false_and] at * <;> omega
theorem off_spec {t : Pt} (ht : PlOk t.pl) {n ro : Int} (hn : 10 ≤ n) : wo (offF t ro) n = t.min + (n - atP t.pl n) + (ro - 1) * n := by
  have := home_spec ht hn
  simp only [wo, offF, plus, Int.add_mul] at *
  omega
theorem here_iff {t : Pt} {g : Pl} (ht : PlOk t.pl) (hg : PlOk g) {n m : Int} (hn : 10 ≤ n) : hereM t n m = atP g n ↔ ∃ q : Int, m = t.min + wo (furth t.pl g) n + q * n := by
  obtain ⟨⟨z, hz⟩, h0, h1⟩ := far_spec ht hg hn
  obtain ⟨g0, g1⟩ := atP_bd hg hn
  unfold hereM
  constructor
  · intro h
    have e := Int.mul_ediv_add_emod (atP t.pl n + m - t.min) n
    rw [h] at e
    refine ⟨(atP t.pl n + m - t.min) / n - z, ?_⟩
    rw [Int.sub_mul, Int.mul_comm _ n, hz]
    omega
  · rintro ⟨q, hq⟩
    have e : atP t.pl n + m - t.min = atP g n + (z + q) * n := by rw [Int.add_mul]; omega
    rw [e, Int.add_mul_emod_self_right, Int.emod_eq_of_lt g0 g1]
theorem kit_iff {t : Pt} (ht : PlOk t.pl) {n m : Int} (hn : 10 ≤ n) : hereM t n m = 0 ↔ (m - (t.min + (n - atP t.pl n)) + n) % n = 0 := by
  unfold hereM
  rw [show m - (t.min + (n - atP t.pl n)) + n = atP t.pl n + m - t.min by omega]
theorem good_n {g : Gu} {t : Pt} {ro : Int} (u : Nat) (hg : PlOk g.seat) (ht : PlOk t.pl) {n : Int} (hn : 10 ≤ n) : wo (fm t g u) n < wo (offF t ro) n ↔ sg (minus (fm t g u) (offF t ro)) 10 < 0 := by
  have key : wo (minus (fm t g u) (offF t ro)) n < 0 ↔ wo (minus (fm t g u) (offF t ro)) 10 < 0 := by
    have hc : -9 ≤ (minus (fm t g u) (offF t ro)).2 ∧ (minus (fm t g u) (offF t ro)).2 ≤ 9 := by
      have hf := lfar_eq ht hg
      have hh := lhome_eq ht
      have hk := lfar_eq ht kit_ok
      simp only [fm, offF, ← hf, ← hh, lhome, ← hk]
      obtain ⟨⟨gb, gi⟩, w, pa, mo⟩ := g
      obtain ⟨mi, ⟨tb, ti⟩, kd⟩ := t
      obtain ⟨p1, p2⟩ := ht
      obtain ⟨g1, g2⟩ := hg
      simp only [lfar]
      split <;> split <;> split <;> cases tb <;> cases gb <;> simp only [pf, minus, plus, wo, if_true, if_false, Bool.false_eq_true, Bool.true_and, Bool.and_true, beq_iff_eq, Bool.false_and] at * <;> omega
    exact lt_len hc.1 hc.2 hn
  have e1 := wo_minus (fm t g u) (offF t ro) n
  have e3 : sg (minus (fm t g u) (offF t ro)) 10 < 0 ↔ wo (minus (fm t g u) (offF t ro)) 10 < 0 := by
    rcases sg_cases (minus (fm t g u) (offF t ro)) 10 with c | c | c <;> omega
  rw [e3, ← key]
  omega
/-- a coming, told by the minute -/
def ComM (ro n m : Int) (g : Gu) (t : Pt) : Prop := (((t.min ≤ m ∧ m < wo (offF t ro) n) ∧ hereM t n m = atP g.seat n) ∧ inW t g = true)
instance (ro n m : Int) (g : Gu) (t : Pt) : Decidable (ComM ro n m g t) := by unfold ComM; exact inferInstance
theorem com_iff {g : Gu} {t : Pt} {ro n m : Int} (hg : PlOk g.seat) (ht : PlOk t.pl) (hn : 10 ≤ n) : ComM ro n m g t ↔ ∃ u : Nat, u < (ro + 1).toNat ∧ good g t ro (fm t g u) = true ∧ m = wo (fm t g u) n := by
  have hf := (far_spec ht hg hn).2
  have hab := atP_bd ht hn
  unfold ComM good
  constructor
  · rintro ⟨⟨⟨h1, h2⟩, h3⟩, h4⟩
    obtain ⟨q, hq⟩ := (here_iff ht hg hn).mp h3
    have hq0 : 0 ≤ q := by
      rcases Int.lt_or_le q 0 with z | z
      · have : q * n ≤ (-1) * n := Int.mul_le_mul_of_nonneg_right (by omega) (by omega)
        omega
      · exact z
    obtain ⟨u, rfl⟩ := Int.eq_ofNat_of_zero_le hq0
    have em : m = wo (fm t g u) n := by rw [wo_fm]; exact hq
    have ho := off_spec (t := t) (ro := ro) ht hn
    refine ⟨u, ?_, ?_, em⟩
    · have : (u : Int) < ro := by
        rcases Int.lt_or_le (u : Int) ro with z | z
        · exact z
        · have : ro * n ≤ (u : Int) * n := Int.mul_le_mul_of_nonneg_right z (by omega)
          rw [Int.sub_mul] at ho
          omega
      omega
    · rw [h4, Bool.true_and, decide_eq_true_eq, ← good_n u hg ht hn, ← em]
      exact h2
  · rintro ⟨u, hu, h, em⟩
    rw [Bool.and_eq_true, decide_eq_true_eq, ← good_n u hg ht hn, ← em] at h
    have e2 : m = t.min + wo (furth t.pl g.seat) n + (u : Int) * n := by rw [em, wo_fm]
    have : 0 ≤ (u : Int) * n := Int.mul_nonneg (by omega) (by omega)
    exact ⟨⟨⟨by omega, h.2⟩, (here_iff ht hg hn).mpr ⟨u, e2⟩⟩, h.1⟩
/-! ### the order of events -/
abbrev Ev := Int × Nat × Nat
def ltE (x y : Ev) : Prop := x.1 < y.1 ∨ (x.1 = y.1 ∧ (x.2.1 < y.2.1 ∨ (x.2.1 = y.2.1 ∧ x.2.2 < y.2.2)))
theorem ltE_asymm {x y : Ev} (h : ltE x y) : ¬ ltE y x := by unfold ltE at *; omega
theorem ltE_irr (x : Ev) : ¬ ltE x x := by unfold ltE; omega
theorem uniq3 : ∀ (l k : List Ev), l.Pairwise ltE → k.Pairwise ltE → (∀ x, x ∈ l ↔ x ∈ k) → l = k
  | [], [], _, _, _ => rfl
  | [], y :: k, _, _, h => absurd ((h y).mpr List.mem_cons_self) (by simp)
  | x :: l, [], _, _, h => absurd ((h x).mp List.mem_cons_self) (by simp)
  | x :: l, y :: k, h1, h2, h => by
    obtain ⟨a1, b1⟩ := List.pairwise_cons.mp h1
    obtain ⟨a2, b2⟩ := List.pairwise_cons.mp h2
    have e : x = y := by
      rcases List.mem_cons.mp ((h x).mp List.mem_cons_self) with q | q
      · exact q
      · rcases List.mem_cons.mp ((h y).mpr List.mem_cons_self) with r | r
        · exact r.symm
        · exact absurd (a1 y r) (ltE_asymm (a2 x q))
    subst e
    rw [uniq3 l k b1 b2 fun z => ?_]
    constructor
    · intro hz
      rcases List.mem_cons.mp ((h z).mp (List.mem_cons_of_mem _ hz)) with q | q
      · subst q; exact absurd (a1 z hz) (ltE_irr z)
      · exact q
    · intro hz
      rcases List.mem_cons.mp ((h z).mpr (List.mem_cons_of_mem _ hz)) with q | q
      · subst q; exact absurd (a2 z hz) (ltE_irr z)
      · exact q
section
variable {α : Type} (key : α → Int × Int × Int)
theorem insC_pw (x : α) : ∀ l : List α, l.Pairwise (fun a b => le3 (key a) (key b) = true) → (insC key x l).Pairwise fun a b => le3 (key a) (key b) = true
  | [], _ => by simp [insC]
  | y :: ys, h => by
    obtain ⟨h1, h2⟩ := List.pairwise_cons.mp h
    simp only [insC]
    split
    · rename_i hx
      refine List.pairwise_cons.mpr ⟨fun z hz => ?_, h⟩
      rcases List.mem_cons.mp hz with q | q
      · subst q; exact hx
      · exact le3_trans hx (h1 z q)
    · rename_i hx
      refine List.pairwise_cons.mpr ⟨fun z hz => ?_, insC_pw x ys h2⟩
      rcases List.mem_cons.mp ((insC_perm key x ys).mem_iff.mp hz) with q | q
      · subst q; exact le3_total hx
      · exact h1 z q
theorem srtC_pw : ∀ l : List α, (srtC key l).Pairwise fun a b => le3 (key a) (key b) = true
  | [] => List.Pairwise.nil
  | x :: xs => insC_pw key x _ (srtC_pw xs)
end
def keyN (n : Int) (c : Cm) : Ev := (wo c.1 n, c.2.1, c.2.2)
theorem order_pw (b : Be) (ps : List Pt) {n : Int} (hn : 0 < n) : ((order n (cms b ps)).map (keyN n)).Pairwise ltE := by
  rw [List.pairwise_map]
  have h1 := srtC_pw (keyC n) (cms b ps)
  have h2 : (srtC (keyC n) (cms b ps)).Pairwise fun a c => keyC n a ≠ keyC n c := (List.Perm.pairwise_iff (fun h => Ne.symm h) (srtC_perm (keyC n) (cms b ps))).mpr (cms_pw b ps n hn)
  refine (h1.and h2).imp fun {a c} h => ?_
  obtain ⟨h, ne⟩ := h
  unfold le3 keyC at h
  have h := of_decide_eq_true h
  have ne' : ¬ (wo a.1 n = wo c.1 n ∧ a.2.1 = c.2.1 ∧ a.2.2 = c.2.2) := fun z => ne (by unfold keyC; rw [z.1, z.2.1, z.2.2])
  show wo a.1 n < wo c.1 n ∨ (wo a.1 n = wo c.1 n ∧ (a.2.1 < c.2.1 ∨ (a.2.1 = c.2.1 ∧ a.2.2 < c.2.2)))
  dsimp only at h
  omega
end AB

set_option Elab.async false
set_option linter.all false
set_option autoImplicit false
set_option maxRecDepth 100000
set_option maxHeartbeats 4000000
/-! MathF: minute by minute is coming by coming: the whole. -/
namespace AB
open PySem
def ev3 (b : Be) (n m : Int) (g : Gu × Nat) (t : Pt × Nat) : List Ev := if ComM b.ro n m g.1 t.1 then [(m, g.2, t.2)] else []
def ev2 (b : Be) (ps : List Pt) (n m : Int) (g : Gu × Nat) : List Ev := (ps.zipIdx 0).flatMap (ev3 b n m g)
def ev1 (b : Be) (ps : List Pt) (n m : Int) : List Ev := (b.gs.zipIdx 0).flatMap (ev2 b ps n m)
def evs0 (b : Be) (ps : List Pt) (n : Int) (k : Nat) : List Ev := (List.range' 0 k).flatMap fun m : Nat => ev1 b ps n (m : Nat)
theorem zip_pw {α : Type} (l : List α) : (l.zipIdx 0).Pairwise fun a b => a.2 < b.2 := by
  rw [List.pairwise_iff_getElem]
  intro i j hi hj hij
  simp only [List.getElem_zipIdx]
  omega
theorem mem_ev3 {b : Be} {n m : Int} {g : Gu × Nat} {t : Pt × Nat} {x : Ev} : x ∈ ev3 b n m g t ↔ ComM b.ro n m g.1 t.1 ∧ x = (m, g.2, t.2) := by
  unfold ev3
  split
  · rename_i h; simp [h]
  · rename_i h; simp [h]
theorem mem_ev2 {b : Be} {ps : List Pt} {n m : Int} {g : Gu × Nat} {x : Ev} : x ∈ ev2 b ps n m g ↔ ∃ t ∈ ps.zipIdx 0, ComM b.ro n m g.1 t.1 ∧ x = (m, g.2, t.2) := by
  unfold ev2; simp only [List.mem_flatMap, mem_ev3]
theorem mem_ev1 {b : Be} {ps : List Pt} {n m : Int} {x : Ev} : x ∈ ev1 b ps n m ↔ ∃ g ∈ b.gs.zipIdx 0, ∃ t ∈ ps.zipIdx 0, ComM b.ro n m g.1 t.1 ∧ x = (m, g.2, t.2) := by
  unfold ev1; simp only [List.mem_flatMap, mem_ev2]
theorem evs_pw (b : Be) (ps : List Pt) (n : Int) (k : Nat) : (evs0 b ps n k).Pairwise ltE := by
  unfold evs0
  rw [List.pairwise_flatMap]
  refine ⟨fun m _ => ?_, (List.pairwise_lt_range' (s := 0) (n := k) (step := 1)).imp fun {m m'} h x hx y hy => ?_⟩
  · unfold ev1
    rw [List.pairwise_flatMap]
    refine ⟨fun g _ => ?_, (zip_pw b.gs).imp fun {g g'} h x hx y hy => ?_⟩
    · unfold ev2
      rw [List.pairwise_flatMap]
      refine ⟨fun t _ => ?_, (zip_pw ps).imp fun {t t'} h x hx y hy => ?_⟩
      · unfold ev3; split <;> simp
      · obtain ⟨_, rfl⟩ := mem_ev3.mp hx
        obtain ⟨_, rfl⟩ := mem_ev3.mp hy
        exact .inr ⟨rfl, .inr ⟨rfl, h⟩⟩
    · obtain ⟨_, _, _, rfl⟩ := mem_ev2.mp hx
      obtain ⟨_, _, _, rfl⟩ := mem_ev2.mp hy
      exact .inr ⟨rfl, .inl h⟩
  · obtain ⟨_, _, _, _, _, rfl⟩ := mem_ev1.mp hx
    obtain ⟨_, _, _, _, _, rfl⟩ := mem_ev1.mp hy
    exact .inl (by show (m : Int) < (m' : Int); omega)
theorem off_le {t : Pt} (ht : PtV t) {n ro : Int} (hn : 10 ≤ n) (hr : ro ≤ 3) : wo (offF t ro) n ≤ 300 + 3 * n := by
  have := off_spec (t := t) (ro := ro) ht.pl hn
  have := atP_bd ht.pl hn
  have := ht.min
  have : (ro - 1) * n ≤ 2 * n := Int.mul_le_mul_of_nonneg_right (by omega) (by omega)
  omega
theorem ord_evs {b : Be} {ps : List Pt} (hb : BeV b) (hp : PtsV ps) {n : Int} (hn : 10 ≤ n) : (order n (cms b ps)).map (keyN n) = evs0 b ps n (310 + 4 * n).toNat := by
  refine uniq3 _ _ (order_pw b ps (by omega)) (evs_pw b ps n _) fun x => ?_
  unfold evs0
  simp only [List.mem_map, order_mem, List.mem_flatMap, mem_ev1, cms, cms1, List.mem_filter, List.mem_range'_1]
  constructor
  · rintro ⟨c, ⟨g, hg, t, ht, u, ⟨hu, hgd⟩, rfl⟩, rfl⟩
    have hgv := hb.gs g.1 (zip_mem hg)
    have htv := hp.all t.1 (zip_mem ht)
    have C := (com_iff hgv.seat htv.pl hn).mpr ⟨u, by omega, hgd, rfl⟩
    have ho := off_le htv (n := n) hn hb.ro.2
    have hm := htv.min
    obtain ⟨m, hm⟩ := Int.eq_ofNat_of_zero_le (show 0 ≤ wo (fm t.1 g.1 u) n by have := C.1.1.1; omega)
    refine ⟨m, ⟨by omega, ?_⟩, g, hg, t, ht, by rw [← hm]; exact C, by unfold keyN; rw [← hm]⟩
    have := C.1.1.2
    omega
  · rintro ⟨m, hm, g, hg, t, ht, C, rfl⟩
    have hgv := hb.gs g.1 (zip_mem hg)
    have htv := hp.all t.1 (zip_mem ht)
    obtain ⟨u, hu, hgd, e⟩ := (com_iff hgv.seat htv.pl hn).mp C
    exact ⟨(fm t.1 g.1 u, g.2, t.2), ⟨g, hg, t, ht, u, ⟨by omega, hgd⟩, rfl⟩, by unfold keyN; rw [← e]⟩
/-! ### the fold over events -/
abbrev Sx := List Tk × List Nat
def stE (b : Be) (x : Sx) (e : Ev) : Sx := match b.gs[e.2.1]?, x.1[e.2.1]? with
  | some g, some l => if !decide (e.2.2 ∈ x.2) && freeM g l e.1 then (x.1.set e.2.1 (l ++ [(e.2.2, e.1)]), x.2 ++ [e.2.2]) else x
  | _, _ => x
def wk (n : Int) (l : List Me) : Tk := l.map fun q => (q.1, wo q.2 n)
theorem free_take (g : Gu) (l : List Me) (f : Fo) (n : Int) : freeM g (wk n l) (wo f n) = take g l f n := by
  rw [take_eq]
  unfold freeM wk
  rw [List.length_map, List.getLast?_map, Bool.and_comm]
  congr 1
  cases l.getLast? with
  | none => rfl
  | some q =>
    show (!decide (wo f n - wo q.2 n < g.pause)) = decide (g.pause ≤ wo f n - wo q.2 n)
    by_cases h : wo f n - wo q.2 n < g.pause
    · rw [decide_eq_true h, decide_eq_false (by omega)]; rfl
    · rw [decide_eq_false h, decide_eq_true (by omega)]; rfl
def toX (n : Int) (s : Sto) : Sx := (s.1.map (wk n), s.2)
theorem stE_stepM (b : Be) (n : Int) (s : Sto) (c : Cm) : toX n (stepM b n s c) = stE b (toX n s) (keyN n c) := by
  unfold stepM stE toX keyN
  dsimp only
  rw [List.getElem?_map]
  cases h1 : b.gs[c.2.1]? with
  | none => rfl
  | some g =>
    cases h2 : s.1[c.2.1]? with
    | none => rfl
    | some l =>
      show (List.map (wk n) (if (!decide (c.2.2 ∈ s.2) && take g l c.1 n) = true then (s.1.set c.2.1 (l ++ [(c.2.2, c.1)]), s.2 ++ [c.2.2]) else s).1, (if (!decide (c.2.2 ∈ s.2) && take g l c.1 n) = true then (s.1.set c.2.1 (l ++ [(c.2.2, c.1)]), s.2 ++ [c.2.2]) else s).2) = if (!decide (c.2.2 ∈ s.2) && freeM g (wk n l) (wo c.1 n)) = true then ((s.1.map (wk n)).set c.2.1 (wk n l ++ [(c.2.2, wo c.1 n)]), s.2 ++ [c.2.2]) else (s.1.map (wk n), s.2)
      rw [free_take]
      split
      · rw [List.map_set]; simp [wk]
      · rfl
theorem fold_stE (b : Be) (n : Int) : ∀ (l : List Cm) (s : Sto), toX n (l.foldl (stepM b n) s) = (l.map (keyN n)).foldl (stE b) (toX n s)
  | [], s => rfl
  | c :: l, s => by
    rw [List.foldl_cons, List.map_cons, List.foldl_cons, fold_stE b n l, stE_stepM]
theorem meals_evs {b : Be} {ps : List Pt} (hb : BeV b) (hp : PtsV ps) {n : Int} (hn : 10 ≤ n) : (meals b ps n).map (wk n) = ((evs0 b ps n (310 + 4 * n).toNat).foldl (stE b) (List.replicate b.gs.length [], [])).1 := by
  rw [← ord_evs hb hp hn]
  have := fold_stE b n (order n (cms b ps)) (List.replicate b.gs.length [], [])
  have e : toX n (List.replicate b.gs.length [], []) = (List.replicate b.gs.length [], []) := by unfold toX; rw [List.map_replicate]; rfl
  rw [e] at this
  rw [← this]
  rfl
/-! ### minute by minute -/
def kp (t : Pt) (n m : Int) : Int := if m < t.min then 0 else (m - (t.min + (n - atP t.pl n)) + n) / n
/-- what is known of a plate in a minute -/
def KI (ro n m : Int) (gone : List Nat) (t : Pt × Nat) (x : Sm) : Prop := (t.2 ∈ x.2.1 ↔ t.2 ∈ gone ∨ wo (offF t.1 ro) n ≤ m) ∧ (t.2 ∉ x.2.1 → x.2.2[t.2]? = some (kp t.1 n m))
theorem kp_step {t : Pt} (ht : PlOk t.pl) {n m : Int} (hn : 10 ≤ n) : kp t n m = if t.min < m ∧ hereM t n m = 0 then kp t n (m - 1) + 1 else kp t n (m - 1) := by
  have hab := atP_bd ht hn
  simp only [kit_iff ht hn]
  unfold kp
  generalize hA : m - (t.min + (n - atP t.pl n)) + n = a
  have hA1 : m - 1 - (t.min + (n - atP t.pl n)) + n = a - 1 := by omega
  rw [hA1]
  have h1 := Int.mul_ediv_add_emod a n
  have h2 := Int.emod_nonneg a (show n ≠ 0 by omega)
  have h3 := Int.emod_lt_of_pos a (show 0 < n by omega)
  by_cases c1 : m < t.min
  · rw [if_pos c1, if_neg (by omega), if_pos (by omega)]
  · rw [if_neg c1]
    by_cases c2 : m = t.min
    · rw [if_neg (by omega), if_pos (by omega)]
      exact Int.ediv_eq_zero_of_lt (by omega) (by omega)
    · rw [if_neg (by omega : ¬ m - 1 < t.min)]
      by_cases c3 : a % n = 0
      · rw [if_pos ⟨by omega, c3⟩]
        have e : a - 1 = (n - 1) + (a / n - 1) * n := by rw [Int.sub_mul, Int.mul_comm (a / n) n]; omega
        have e2 : (a - 1) / n = 0 + (a / n - 1) := by
          rw [e, Int.add_mul_ediv_right _ _ (by omega), Int.ediv_eq_zero_of_lt (by omega) (by omega)]
        omega
      · rw [if_neg (by rintro ⟨_, z⟩; exact c3 z)]
        have e : a - 1 = (a % n - 1) + (a / n) * n := by rw [Int.mul_comm (a / n) n]; omega
        have e2 : (a - 1) / n = 0 + a / n := by
          generalize a / n = q at *
          generalize a % n = r at *
          rw [e, Int.add_mul_ediv_right _ _ (by omega), Int.ediv_eq_zero_of_lt (by omega) (by omega)]
        omega
theorem off_kp {t : Pt} (ht : PlOk t.pl) {n ro m : Int} (hn : 10 ≤ n) (hr : 1 ≤ ro) : wo (offF t ro) n ≤ m ↔ ro ≤ kp t n m := by
  have hab := atP_bd ht hn
  rw [off_spec ht hn]
  have hm : 0 ≤ (ro - 1) * n := Int.mul_nonneg (by omega) (by omega)
  unfold kp
  split
  · constructor <;> intro h <;> omega
  · rw [Int.le_ediv_iff_mul_le (by omega)]
    rw [Int.sub_mul]
    omega
end AB

set_option Elab.async false
set_option linter.all false
set_option autoImplicit false
set_option maxRecDepth 100000
set_option maxHeartbeats 4000000
/-! MathG: minute by minute is coming by coming: the loops. -/
namespace AB
open PySem
theorem ki_other {b : Be} {n m q : Int} {gone : List Nat} {x : Sm} {t t' : Pt × Nat} (ne : t.2 ≠ t'.2) (h : KI b.ro n q gone t' x) : KI b.ro n q gone t' (stK b n m x t) := by
  unfold stK
  split
  · obtain ⟨h1, h2⟩ := h
    have hm : t'.2 ∈ x.2.1 ++ (if x.2.2.getD t.2 0 + 1 = b.ro then [t.2] else []) ↔ t'.2 ∈ x.2.1 := by
      rw [List.mem_append]
      constructor
      · rintro (z | z)
        · exact z
        · split at z
          · rw [List.mem_singleton] at z; exact absurd z.symm ne
          · cases z
      · exact .inl
    refine ⟨hm.trans h1, fun z => ?_⟩
    show (x.2.2.set t.2 _)[t'.2]? = _
    rw [List.getElem?_set_ne ne]
    exact h2 fun w => z (hm.mpr w)
  · exact h
theorem ki_self {b : Be} {n m : Int} {gone : List Nat} {x : Sm} {t : Pt × Nat} (ht : PlOk t.1.pl) (hn : 10 ≤ n) (hr : 1 ≤ b.ro) (h : KI b.ro n (m - 1) gone t x) : KI b.ro n m gone t (stK b n m x t) := by
  obtain ⟨h1, h2⟩ := h
  have o1 := off_kp (m := m) ht hn hr
  have o0 := off_kp (m := m - 1) ht hn hr
  have ks := kp_step (m := m) ht hn
  by_cases hg : t.2 ∈ x.2.1
  · have e : stK b n m x t = x := by unfold stK; rw [if_neg (fun z => z.2.2 hg)]
    rw [e]
    refine ⟨⟨fun _ => ?_, fun _ => hg⟩, fun z => absurd hg z⟩
    rcases h1.mp hg with z | z
    · exact .inl z
    · exact .inr (by omega)
  · have hng : ¬ (t.2 ∈ gone ∨ wo (offF t.1 b.ro) n ≤ m - 1) := fun z => hg (h1.mpr z)
    have hrd := h2 hg
    have hlt := (List.getElem?_eq_some_iff.mp hrd).1
    have hge : x.2.2.getD t.2 0 = kp t.1 n (m - 1) := by rw [List.getD_eq_getElem?_getD, hrd]; rfl
    have hk : kp t.1 n (m - 1) < b.ro := by
      have : ¬ b.ro ≤ kp t.1 n (m - 1) := fun z => hng (.inr (o0.mpr z))
      omega
    by_cases hp : t.1.min < m ∧ hereM t.1 n m = 0
    · rw [if_pos hp] at ks
      have e : stK b n m x t = (x.1, x.2.1 ++ (if kp t.1 n (m - 1) + 1 = b.ro then [t.2] else []), x.2.2.set t.2 (kp t.1 n (m - 1) + 1)) := by
        unfold stK; rw [if_pos ⟨hp.1, hp.2, hg⟩, hge]
      rw [e]
      refine ⟨?_, fun _ => ?_⟩
      · show t.2 ∈ x.2.1 ++ _ ↔ _
        rw [List.mem_append, o1, ks]
        by_cases hq : kp t.1 n (m - 1) + 1 = b.ro
        · rw [if_pos hq]
          exact ⟨fun _ => .inr (by omega), fun _ => .inr (by simp)⟩
        · rw [if_neg hq]
          constructor
          · rintro (z | z)
            · exact absurd z hg
            · cases z
          · rintro (z | z)
            · exact absurd (.inl z) hng
            · omega
      · show (x.2.2.set t.2 _)[t.2]? = _
        rw [List.getElem?_set_self hlt, ks]
    · rw [if_neg hp] at ks
      have e : stK b n m x t = x := by unfold stK; rw [if_neg (fun z => hp ⟨z.1, z.2.1⟩)]
      rw [e]
      refine ⟨⟨fun z => absurd z hg, ?_⟩, fun _ => by rw [ks]; exact hrd⟩
      rintro (z | z)
      · exact absurd (.inl z) hng
      · rw [o1, ks] at z; omega
theorem k_fold {b : Be} {n m : Int} {gone : List Nat} (hn : 10 ≤ n) (hr : 1 ≤ b.ro) : ∀ (ts : List (Pt × Nat)) (x : Sm), ts.Pairwise (fun a c => a.2 < c.2) → (∀ t ∈ ts, PlOk t.1.pl) → (∀ t ∈ ts, KI b.ro n (m - 1) gone t x) →
    (∀ t ∈ ts, KI b.ro n m gone t (ts.foldl (stK b n m) x)) ∧ (ts.foldl (stK b n m) x).1 = x.1 ∧ ∀ (t' : Pt × Nat) (q : Int), (∀ t ∈ ts, t.2 ≠ t'.2) → KI b.ro n q gone t' x → KI b.ro n q gone t' (ts.foldl (stK b n m) x)
  | [], x, _, _, _ => ⟨fun t ht => absurd ht (by simp), rfl, fun _ _ _ h => h⟩
  | t :: ts, x, hp, ho, hk => by
    obtain ⟨p1, p2⟩ := List.pairwise_cons.mp hp
    have ih := k_fold hn hr ts (stK b n m x t) p2 (fun s hs => ho s (List.mem_cons_of_mem _ hs)) fun s hs => ki_other (by have := p1 s hs; omega) (hk s (List.mem_cons_of_mem _ hs))
    obtain ⟨i1, i2, i3⟩ := ih
    refine ⟨fun s hs => ?_, ?_, fun t' q hne h => ?_⟩
    · rcases List.mem_cons.mp hs with e | e
      · subst e
        exact i3 s m (fun u hu => by have := p1 u hu; omega) (ki_self (ho s List.mem_cons_self) hn hr (hk s List.mem_cons_self))
      · exact i1 s e
    · rw [List.foldl_cons, i2]
      unfold stK; split <;> rfl
    · exact i3 t' q (fun u hu => hne u (List.mem_cons_of_mem _ hu)) (ki_other (hne t List.mem_cons_self) h)
structure RI (b : Be) (ps : List Pt) (n m : Int) (x : Sm) (X : Sx) : Prop where
  tk : x.1 = X.1
  len : X.1.length = b.gs.length
  ki : ∀ t ∈ ps.zipIdx 0, KI b.ro n m X.2 t x
theorem ri_kit {b : Be} {ps : List Pt} (hb : BeV b) (hp : PtsV ps) {n m : Int} (hn : 10 ≤ n) {x : Sm} {X : Sx} (h : RI b ps n (m - 1) x X) : RI b ps n m ((ps.zipIdx 0).foldl (stK b n m) x) X := by
  obtain ⟨i1, i2, _⟩ := k_fold hn hb.ro.1 (ps.zipIdx 0) x (zip_pw ps) (fun t ht => (hp.all t.1 (zip_mem ht)).pl) h.ki
  exact ⟨i2.trans h.tk, h.len, i1⟩
def RP (b : Be) (ps : List Pt) (n m : Int) (g : Gu × Nat) (y : Sm × Bool) (X : Sx) : Prop := RI b ps n m y.1 X ∧ y.2 = freeM g.1 (X.1.getD g.2 []) m
theorem rp_step {b : Be} {ps : List Pt} {n m : Int} {g : Gu × Nat} (hg : b.gs[g.2]? = some g.1) (hpa : 1 ≤ g.1.pause) {t : Pt × Nat} (ht : t ∈ ps.zipIdx 0) {y : Sm × Bool} {X : Sx} (h : RP b ps n m g y X) : RP b ps n m g (stP n m g y t) ((ev3 b n m g t).foldl (stE b) X) := by
  obtain ⟨hri, hfr⟩ := h
  have hlt := (List.getElem?_eq_some_iff.mp hg).1
  obtain ⟨l, el⟩ : ∃ l, X.1[g.2]? = some l := ⟨_, List.getElem?_eq_getElem (by have := hri.len; omega)⟩
  have ed : X.1.getD g.2 [] = l := by rw [List.getD_eq_getElem?_getD, el]; rfl
  have hll := (List.getElem?_eq_some_iff.mp el).1
  obtain ⟨k1, k2⟩ := hri.ki t ht
  rw [ed] at hfr
  by_cases hc : y.2 = true ∧ ((t.1.min ≤ m ∧ t.2 ∉ y.1.2.1) ∧ hereM t.1 n m = atP g.1.seat n) ∧ inW t.1 g.1 = true
  · have hng : ¬ (t.2 ∈ X.2 ∨ wo (offF t.1 b.ro) n ≤ m) := fun z => hc.2.1.1.2 (k1.mpr z)
    have C : ComM b.ro n m g.1 t.1 := ⟨⟨⟨hc.2.1.1.1, by
      rcases Int.lt_or_le m (wo (offF t.1 b.ro) n) with z | z
      · exact z
      · exact absurd (.inr z) hng⟩, hc.2.1.2⟩, hc.2.2⟩
    have e1 : stP n m g y t = ((y.1.1.set g.2 (l ++ [(t.2, m)]), y.1.2.1 ++ [t.2], y.1.2.2), false) := by unfold stP; rw [if_pos hc, hri.tk, ed]
    have e2 : (ev3 b n m g t).foldl (stE b) X = (X.1.set g.2 (l ++ [(t.2, m)]), X.2 ++ [t.2]) := by
      unfold ev3
      rw [if_pos C]
      show stE b X (m, g.2, t.2) = _
      unfold stE
      rw [hg, el]
      show (if (!decide (t.2 ∈ X.2) && freeM g.1 l m) = true then _ else _) = _
      rw [if_pos]
      rw [← hfr, hc.1, decide_eq_false (fun z => hng (.inl z))]; rfl
    rw [e1, e2]
    refine ⟨⟨?_, ?_, fun t' ht' => ?_⟩, ?_⟩
    · show y.1.1.set _ _ = X.1.set _ _
      rw [hri.tk]
    · simp [hri.len]
    · obtain ⟨j1, j2⟩ := hri.ki t' ht'
      refine ⟨?_, fun z => ?_⟩
      · show t'.2 ∈ y.1.2.1 ++ [t.2] ↔ t'.2 ∈ X.2 ++ [t.2] ∨ _
        rw [List.mem_append, List.mem_append, j1]
        constructor
        · rintro ((z | z) | z)
          · exact .inl (.inl z)
          · exact .inr z
          · exact .inl (.inr z)
        · rintro ((z | z) | z)
          · exact .inl (.inl z)
          · exact .inr z
          · exact .inl (.inr z)
      · exact j2 fun w => z (List.mem_append.mpr (.inl w))
    · show false = freeM g.1 ((X.1.set g.2 (l ++ [(t.2, m)])).getD g.2 []) m
      rw [List.getD_eq_getElem?_getD, List.getElem?_set_self hll]
      unfold freeM
      simp only [Option.getD_some, List.getLast?_append, List.getLast?_singleton, Option.some_or]
      rw [decide_eq_true (show m - m < g.1.pause by omega)]
      simp
  · have e1 : stP n m g y t = y := by unfold stP; rw [if_neg hc]
    have e2 : (ev3 b n m g t).foldl (stE b) X = X := by
      unfold ev3
      split
      · rename_i C
        show stE b X (m, g.2, t.2) = _
        unfold stE
        rw [hg, el]
        show (if (!decide (t.2 ∈ X.2) && freeM g.1 l m) = true then _ else X) = _
        rw [if_neg]
        intro z
        simp only [Bool.and_eq_true, Bool.not_eq_true', decide_eq_false_iff_not] at z
        refine hc ⟨by rw [hfr]; exact z.2, ⟨⟨C.1.1.1, fun w => ?_⟩, C.1.2⟩, C.2⟩
        rcases k1.mp w with q | q
        · exact z.1 q
        · have := C.1.1.2; omega
      · rfl
    rw [e1, e2]
    exact ⟨hri, by rw [ed]; exact hfr⟩
theorem rp_fold {b : Be} {ps : List Pt} {n m : Int} {g : Gu × Nat} (hg : b.gs[g.2]? = some g.1) (hpa : 1 ≤ g.1.pause) : ∀ (ts : List (Pt × Nat)), (∀ t ∈ ts, t ∈ ps.zipIdx 0) → ∀ {y : Sm × Bool} {X : Sx}, RP b ps n m g y X → RP b ps n m g (ts.foldl (stP n m g) y) ((ts.flatMap (ev3 b n m g)).foldl (stE b) X)
  | [], _, y, X, h => h
  | t :: ts, hs, y, X, h => by
    rw [List.foldl_cons, List.flatMap_cons, List.foldl_append]
    exact rp_fold hg hpa ts (fun s hs' => hs s (List.mem_cons_of_mem _ hs')) (rp_step hg hpa (hs t List.mem_cons_self) h)
theorem ri_guest {b : Be} {ps : List Pt} (hb : BeV b) {n m : Int} {g : Gu × Nat} (hg : g ∈ b.gs.zipIdx 0) {x : Sm} {X : Sx} (h : RI b ps n m x X) : RI b ps n m (stG ps n m x g) ((ev2 b ps n m g).foldl (stE b) X) := by
  have hgv := hb.gs g.1 (zip_mem hg)
  have hge : b.gs[g.2]? = some g.1 := List.mem_zipIdx_iff_getElem?.mp hg
  exact (rp_fold hge hgv.pause.1 (ps.zipIdx 0) (fun t ht => ht) (y := (x, freeM g.1 (x.1.getD g.2 []) m)) ⟨h, by rw [h.tk]⟩).1
theorem ri_guests {b : Be} {ps : List Pt} (hb : BeV b) {n m : Int} : ∀ (gs : List (Gu × Nat)), (∀ g ∈ gs, g ∈ b.gs.zipIdx 0) → ∀ {x : Sm} {X : Sx}, RI b ps n m x X → RI b ps n m (gs.foldl (stG ps n m) x) ((gs.flatMap (ev2 b ps n m)).foldl (stE b) X)
  | [], _, x, X, h => h
  | g :: gs, hs, x, X, h => by
    rw [List.foldl_cons, List.flatMap_cons, List.foldl_append]
    exact ri_guests hb gs (fun s hs' => hs s (List.mem_cons_of_mem _ hs')) (ri_guest hb (hs g List.mem_cons_self) h)
theorem ri_minute {b : Be} {ps : List Pt} (hb : BeV b) (hp : PtsV ps) {n m : Int} (hn : 10 ≤ n) {x : Sm} {X : Sx} (h : RI b ps n (m - 1) x X) : RI b ps n m (stM b ps n x m) ((ev1 b ps n m).foldl (stE b) X) :=
  ri_guests hb (b.gs.zipIdx 0) (fun g hg => hg) (ri_kit hb hp hn h)
theorem ri_all {b : Be} {ps : List Pt} (hb : BeV b) (hp : PtsV ps) {n : Int} (hn : 10 ≤ n) : ∀ k : Nat, RI b ps n ((k : Int) - 1) (simM b ps n k) ((evs0 b ps n k).foldl (stE b) (List.replicate b.gs.length [], []))
  | 0 => by
    refine ⟨rfl, by simp [evs0], fun t ht => ?_⟩
    have htv := hp.all t.1 (zip_mem ht)
    have hm := htv.min
    have hk : kp t.1 n (((0 : Nat) : Int) - 1) = 0 := by unfold kp; rw [if_pos (by omega)]
    refine ⟨?_, fun _ => ?_⟩
    · rw [off_kp htv.pl hn hb.ro.1, hk]
      have := hb.ro.1
      simp [simM, sm0, evs0]
      omega
    · rw [hk]
      show (List.replicate ps.length (0 : Int))[t.2]? = some 0
      rw [List.getElem?_replicate, if_pos (zip_lt ht)]
  | k + 1 => by
    have ih := ri_all hb hp hn k
    have e1 : simM b ps n (k + 1) = stM b ps n (simM b ps n k) (k : Nat) := by
      unfold simM
      rw [List.range'_1_concat, List.foldl_append]
      simp
    have e2 : evs0 b ps n (k + 1) = evs0 b ps n k ++ ev1 b ps n (k : Nat) := by
      unfold evs0
      rw [List.range'_1_concat, List.flatMap_append]
      simp
    rw [e1, e2, List.foldl_append]
    have := ri_minute hb hp hn (m := (k : Int)) ih
    rw [show ((k + 1 : Nat) : Int) - 1 = (k : Int) by omega]
    exact this
/-- minute by minute is coming by coming -/
theorem sim_meals {b : Be} {ps : List Pt} (hb : BeV b) (hp : PtsV ps) {n : Int} (hn : 10 ≤ n) : (simM b ps n (310 + 4 * n).toNat).1 = (meals b ps n).map (wk n) := by
  rw [meals_evs hb hp hn]
  exact (ri_all hb hp hn _).tk
end AB

set_option Elab.async false
set_option linter.all false
set_option autoImplicit false
set_option maxRecDepth 100000
set_option maxHeartbeats 4000000
/-! K02: the law k02. -/
namespace AB
open PySem
local macro_rules | `(tactic| trivial) => `(tactic| (intro _; trivial))
local macro_rules | `(tactic| trivial) => `(tactic| (apply aisi; trivial; exact rfl))
local macro_rules | `(tactic| trivial) => `(tactic| (apply abi; trivial; first | exact rfl | assumption))
local macro_rules | `(tactic| trivial) => `(tactic| (apply asll; trivial; trivial; first | exact rfl | assumption))
local macro_rules | `(tactic| trivial) => `(tactic| (apply aslh; trivial; trivial; first | exact rfl | assumption))
local macro_rules | `(tactic| trivial) => `(tactic| (apply achn; trivial; trivial; exact rfl; trivial; (intro _; exact rfl)))
local macro_rules | `(tactic| trivial) => `(tactic| (apply aif; trivial; trivial; trivial))
local macro_rules | `(tactic| trivial) => `(tactic| (apply aor; trivial; trivial))
local macro_rules | `(tactic| trivial) => `(tactic| (apply aand; trivial; trivial))
local macro_rules | `(tactic| trivial) => `(tactic| (apply ant; trivial))
local macro_rules | `(tactic| trivial) => `(tactic| (apply aneg; trivial))
local macro_rules | `(tactic| trivial) => `(tactic| (apply acmp; trivial; trivial; first | exact rfl | assumption))
local macro_rules | `(tactic| trivial) => `(tactic| (apply aix; trivial; trivial; first | exact rfl | assumption))
local macro_rules | `(tactic| trivial) => `(tactic| (apply abin; trivial; trivial; first | exact rfl | assumption))
local macro_rules | `(tactic| trivial) => `(tactic| (apply atup; trivial))
local macro_rules | `(tactic| trivial) => `(tactic| (apply alst; trivial))
local macro_rules | `(tactic| trivial) => `(tactic| (apply acall; trivial; trivial))
local macro_rules | `(tactic| trivial) => `(tactic| (apply bcons; trivial; trivial))
local macro_rules | `(tactic| trivial) => `(tactic| exact bnil)
local macro_rules | `(tactic| trivial) => `(tactic| exact av rfl)
local macro_rules | `(tactic| trivial) => `(tactic| exact ac)
local macro_rules | `(tactic| trivial) => `(tactic| assumption)
local macro_rules | `(tactic| trivial) => `(tactic| exact c_less _ _ _ _ _)
local macro_rules | `(tactic| trivial) => `(tactic| exact c_added _ _ _ _ _)
/-! ### story, meals -/
theorem c_story2 (k : Nat) {b : Be} {ps : List Pt} (hb : BeV b) (hp : PtsV ps) {n : Int} (hn : 10 ≤ n ∧ n ≤ 1000000000000000000000000000000) : Cl (k + 8) 47 [eB b, .tup (ps.map eT), .int n] (eS (story b ps n)) := cl_of (fd := f47) rfl rfl fun s =>
  tex (acall (bcons (av rfl) (bcons (av rfl) bnil)) (c_need_order (k + 1) hb hp)) (tex (acall (bcons (av rfl) bnil) (c_need_n (k + 5) hn)) (trt (acall (bcons (av rfl) (bcons (av rfl) (bcons (av rfl) bnil))) (c_story k b ps (fit_of hb hp) hb.ng.1 n (by omega)))))
theorem c_rowN {C : Nat → List D → M D} {sub : Nat → Nat → Bool} {env : Env} {s : Store} {l : List Me} {n : Int} {i j a b : Nat} {f : Nat} {it : I} {own : List Nat} {tg : T} {elt : E} (hi : Ia C sub it env s (l.map eM) s) (hl : l.length < szLine)
    (h : ∀ q ∈ l, ∃ env', asg tg (eM q) (wipeE env own) = some env' ∧ Ea C sub elt env' s (eQ (q.1, wo q.2 n)) s) : Ea C sub (.bi .tuple (.cons (.comp elt tg it (.c (.bl true)) own) .nil)) env s (eTk (wk n l)) s := by
  have P := acompA (C := C) (sub := sub) (env := env) (s := s) (s1 := s) (enc := eM) (elt := elt) (tg := tg) (it := it) (own := own) l (fun q => eQ (q.1, wo q.2 n)) hi rfl h hl
  refine abi (bcons P bnil) ?_
  show lft (some (D.tup (l.map fun q => eQ (q.1, wo q.2 n)))) s = _
  have : (l.map fun q => eQ (q.1, wo q.2 n)) = (wk n l).map eQ := by unfold wk; rw [List.map_map]; rfl
  rw [this]; rfl
theorem c_meals_of (k : Nat) {b : Be} {ps : List Pt} (hb : BeV b) (hp : PtsV ps) {n : Int} (hn : 0 < n) : Cl (k + 6) 44 [eB b, .tup (ps.map eT), .int n] (.tup ((meals b ps n).map eMs)) := ⟨r_meals k b ps (fit_of hb hp) hb.ng.1 n hn⟩
theorem c_minutes_of (k : Nat) {b : Be} {ps : List Pt} (hb : BeV b) (hp : PtsV ps) {n : Int} (hn : 0 < n) : Cl (k + 7) 46 [eB b, .tup (ps.map eT), .int n] (.tup (((meals b ps n).map (wk n)).map eTk)) := cl_of (fd := f46) rfl rfl fun s => by
  have ok := meals_ok b ps (fit_of hb hp) n
  have c0 := c_meals_of k hb hp hn
  have hng := hb.ng
  have hlen : (meals b ps n).length = b.gs.length := ok.len
  refine trt ?_
  have P := acompA (C := RN (k + 6)) (sub := subT) (env := [some (eB b), some (.tup (ps.map eT)), some (.int n), none, none, none]) (s := s) (s1 := s) (enc := eMs) (elt := .bi .tuple (.cons (.comp (.tup (.cons (.v 4) (.cons (.call 10 (.cons (.v 5) (.cons (.v 2) .nil))) .nil))) (.t (.cons (.n 4) (.cons (.n 5) .nil))) (.ov (.v 3)) (.c (.bl true)) [4, 5]) .nil)) (tg := .n 3) (it := .ov (.call 44 (.cons (.v 0) (.cons (.v 1) (.cons (.v 2) .nil))))) (own := [3]) (meals b ps n) (fun l => eTk (wk n l)) (iov (acall (bcons (av rfl) (bcons (av rfl) (bcons (av rfl) bnil))) c0) rfl) rfl
    (fun l hl => ⟨_, rfl, by
      have hs := ok.sm l hl
      exact c_rowN (i := 0) (j := 0) (a := 0) (b := 0) (f := 0) (iov (av rfl) rfl) (by unfold szLine; omega) fun q hq => ⟨_, rfl, atup (bcons (av rfl) (bcons (acall (bcons (av rfl) (bcons (av rfl) bnil)) (c_worth (k + 5) q.2 n (by have := hs.2 q hq; omega))) bnil))⟩⟩) (by unfold szLine; omega)
  refine abi (bcons P bnil) ?_
  show lft (some (D.tup ((meals b ps n).map fun l => eTk (wk n l)))) s = _
  rw [List.map_map]; rfl
theorem c_meals (k : Nat) {b : Be} {ps : List Pt} (hb : BeV b) (hp : PtsV ps) {n : Int} (hn : 10 ≤ n ∧ n ≤ 1000000000000000000000000000000) : Cl (k + 8) 48 [eB b, .tup (ps.map eT), .int n] (.tup (((meals b ps n).map (wk n)).map eTk)) := cl_of (fd := f48) rfl rfl fun s =>
  tex (acall (bcons (av rfl) (bcons (av rfl) bnil)) (c_need_order (k + 1) hb hp)) (tex (acall (bcons (av rfl) bnil) (c_need_n (k + 5) hn)) (trt (acall (bcons (av rfl) (bcons (av rfl) (bcons (av rfl) bnil))) (c_minutes_of k hb hp (by omega)))))
theorem eq_tks : EqE (fun l : List Tk => D.tup (l.map eTk)) 3 := eq_tk.tupL
/-! ### the law -/
abbrev b58s : Ss := (.cons (.set 1 (.n 13) (.comp (.tup (.cons (.ix (.v 14) (.c (.int 0))) (.cons (.call 50 (.cons (.ix (.v 14) (.c (.int 1))) (.cons (.v 4) .nil))) .nil))) (.n 14) (.ov (.v 11)) (.c (.bl true)) [14])) (.cons (.set 0 (.n 10) (.bin .add (.v 10) (.tup (.cons (.bi .tuple (.cons (.v 13) .nil)) .nil)))) .nil))
abbrev b58t : Ss := (.cons (.set 2 (.t (.cons (.n 12) (.cons (.n 6) .nil))) (.tup (.cons (.call 20 (.cons (.v 2) .nil)) (.cons (.call 21 (.cons (.v 2) (.cons (.c (.int 4)) .nil))) .nil)))) (.cons (.set 0 (.n 4) (.bin .add (.c (.int 10)) (.call 17 (.cons (.v 2) (.cons (.call 18 (.cons (.v 2) (.cons (.lst (.cons (.c (.int 4)) (.cons (.c (.int 30)) (.cons (.c (.int 300)) (.cons (.bin .sub (.bin .pow (.c (.int 10)) (.c (.int 30))) (.c (.int 9))) .nil))))) .nil))) .nil))))) (.cons (.set 0 (.n 9) (.call 56 (.cons (.v 12) (.cons (.v 6) (.cons (.v 4) .nil))))) (.cons (.iff (.cmp .ne (.call 47 (.cons (.v 12) (.cons (.v 6) (.cons (.v 4) .nil)))) (.v 9)) (.cons (.rt (.c (.bl false))) .nil) .nil) (.cons (.set 0 (.n 10) (.tup .nil)) (.cons (.forr (.n 11) (.ov (.ix (.v 9) (.c (.int 0)))) b58s) (.cons (.iff (.cmp .ne (.call 48 (.cons (.v 12) (.cons (.v 6) (.cons (.v 4) .nil)))) (.v 10)) (.cons (.rt (.c (.bl false))) .nil) .nil) .nil)))))))
abbrev b58e : Ss := (.cons (.set 0 (.n 4) (.bin .add (.c (.int 10)) (.call 17 (.cons (.v 2) (.cons (.c (.int 12)) .nil))))) (.cons (.iff (.cmp .ne (.call 48 (.cons (.v 12) (.cons (.v 6) (.cons (.v 4) .nil)))) (.call 57 (.cons (.v 12) (.cons (.v 6) (.cons (.v 4) .nil))))) (.cons (.rt (.c (.bl false))) .nil) .nil) .nil))
/-- a part that walks alike at each store -/
theorem jpre9 {C : Nat → List D → M D} {sub : Nat → Nat → Bool} {W : Nat} {env : Env} {P : Store → Prop} {ss ss2 : Ss} {J : Env → Prop} (A : Env → Prop) (h : ∀ st, P st → ∃ env2, A env2 ∧ ∀ r, Sa C sub W ss2 env2 st r → Sa C sub W ss env st r) (k : ∀ env2, A env2 → HN C sub W P ss2 env2 J) : HN C sub W P ss env J := fun st p => by
  obtain ⟨env2, a, h2⟩ := h st p
  obtain ⟨env3, st3, q1, q2, q3⟩ := k env2 a st p
  exact ⟨env3, st3, (h2 _ ⟨q1⟩).go, q2, q3⟩
def J58 (n : Nat) (env : Env) : Prop := ∃ j1 j3 j4 j5 j6 j7 j8 j9 j10 j11 j12 j13 j14, env = [some (.ref 0), j1, some (.ref n), j3, j4, j5, j6, j7, j8, j9, j10, j11, j12, j13, j14]
def J58b (n : Nat) (env : Env) : Prop := ∃ (b : Be) (ps : List Pt), (BeV b ∧ PtsV ps) ∧ ∃ j1 j3 j4 j5 j7 j8 j9 j10 j11 j13 j14, env = [some (.ref 0), j1, some (.ref n), j3, j4, j5, some (.tup (ps.map eT)), j7, j8, j9, j10, j11, some (eB b), j13, j14]
def R58 (s : Store) (b : Be) (ps : List Pt) (n : Int) (j0 j1 j2 j3 j5 j7 j8 : Option D) (i : Nat) (acc : List Tk) (env : Env) (st : Store) : Prop := ∃ j11 j13 j14, env = [j0, j1, j2, j3, some (.int n), j5, some (.tup (ps.map eT)), j7, j8, some (eS (story b ps n)), some (.tup (acc.map eTk)), j11, some (eB b), j13, j14] ∧ acc.length ≤ i ∧ st = s
theorem t58s (k : Nat) (s : Store) (b : Be) (ps : List Pt) (n : Int) (j0 j1 j2 j3 j5 j7 j8 : Option D) {l : List Me} (hl : l.length ≤ 32) (hs : ∀ q ∈ l, q.2.1.natAbs ≤ 1000) {i : Nat} (hi : i ≤ 1000) {acc : List Tk} {env : Env} {st : Store} (R : R58 s b ps n j0 j1 j2 j3 j5 j7 j8 i acc env st) :
    ∃ env' st', (match asg (.n 11) (eMs l) env with
      | some env2 => evSs (RN (k + 1)) subT 100000 b58s env2
      | none => nonS) st = .ok (.nx env') st' ∧ R58 s b ps n j0 j1 j2 j3 j5 j7 j8 (i + 1) (acc ++ [wk n l]) env' st' := by
  obtain ⟨j11, j13, j14, rfl, hacc, rfl⟩ := R
  refine ⟨[j0, j1, j2, j3, some (.int n), j5, some (.tup (ps.map eT)), j7, j8, some (eS (story b ps n)), some (.tup ((acc ++ [wk n l]).map eTk)), some (eMs l), some (eB b), some (.lst (l.map fun q => eQ (q.1, wo q.2 n))), j14], st, ?_, _, _, _, rfl, by simp; omega, rfl⟩
  refine Sa.go (r := .ok (.nx _) _) ?_
  have P := acompA (C := RN (k + 1)) (sub := subT) (env := [j0, j1, j2, j3, some (.int n), j5, some (.tup (ps.map eT)), j7, j8, some (eS (story b ps n)), some (.tup (acc.map eTk)), some (eMs l), some (eB b), j13, j14]) (s := st) (s1 := st) (enc := eM) (elt := .tup (.cons (.ix (.v 14) (.c (.int 0))) (.cons (.call 50 (.cons (.ix (.v 14) (.c (.int 1))) (.cons (.v 4) .nil))) .nil))) (tg := .n 14) (it := .ov (.v 11)) (own := [14]) l (fun q => eQ (q.1, wo q.2 n)) (iov (av rfl) rfl) rfl
    (fun q hq => ⟨_, rfl, atup (bcons (aix (av rfl) ac rfl) (bcons (acall (bcons (aix (av rfl) ac rfl) (bcons (av rfl) bnil)) (c_lworth k q.2 n (by have := hs q hq; omega))) bnil))⟩) (by unfold szLine; omega)
  refine tset (s1 := st) (d := .lst (l.map fun q : Me => eQ (q.1, wo q.2 n))) P rfl ?_
  refine tset (s1 := st) (d := .tup ((acc ++ [wk n l]).map eTk)) (abin (x := .tup (acc.map eTk)) (y := .tup [eTk (wk n l)]) (av rfl) (atup (bcons (abi (bcons (av rfl) bnil) ?_) bnil)) ?_) rfl tnil
  · show lft (some (D.tup (l.map fun q => eQ (q.1, wo q.2 n)))) st = _
    have : (l.map fun q => eQ (q.1, wo q.2 n)) = (wk n l).map eQ := by unfold wk; rw [List.map_map]; rfl
    rw [this]; rfl
  · rw [List.map_append]
    exact tup_add (by rw [List.length_map]; simp; unfold szLine; omega) _
theorem acc_map {α β : Type} (f : α → β) : ∀ (l : List α) (acc : List β), l.foldl (fun a x => a ++ [f x]) acc = acc ++ l.map f
  | [], acc => by simp
  | x :: l, acc => by rw [List.foldl_cons, acc_map f l]; simp
theorem hdraw2 {k n i : Nat} {L : Store} {env : Env} {e : E} {B : Int} (hv : vget env[i]? = some (.ref n)) (he : HE (RN (k + 1)) subT (SrcS n L) e env fun d => ∃ m : Int, d = .int m ∧ 0 < m ∧ m ≤ B) (hB : B < 803469022129495137770981046170581301261101496891396417650688) : HE (RN (k + 1)) subT (SrcS n L) (.call 17 (.cons (.v i) (.cons e .nil))) env fun d => ∃ r : Int, d = .int r ∧ 0 ≤ r ∧ r < B :=
  hcall (B := fun ds => ∃ m : Int, ds = .ref n :: [.int m] ∧ 0 < m ∧ m ≤ B) (gpre (pv hv) (gone (G := fun m => 0 < m ∧ m ≤ B) he)) fun ds hd st p => by
    obtain ⟨m, rfl, h1, h2⟩ := hd
    obtain ⟨r, st', a, b, c⟩ := r_draw (k := k) h1 (by omega) p
    exact ⟨_, st', a, ⟨r, rfl, b.1, by omega⟩, c⟩
theorem n58t {k n : Nat} {L : Store} {env : Env} (J : J58 n env) : HN (RN (k + 9)) subT 100000 (SrcS n L) b58t env (J58b n) := by
  obtain ⟨j1, j3, j4, j5, j6, j7, j8, j9, j10, j11, j12, j13, j14, rfl⟩ := J
  refine jset (h_both (k := k + 6) (m := 4) rfl (by omega) (by omega)) fun d hd => ?_
  obtain ⟨b, ps, rfl, hb, hp⟩ := hd
  refine ⟨_, rfl, ?_⟩
  refine jset (A := fun d => ∃ m : Int, d = .int m ∧ 10 ≤ m ∧ m ≤ 1000000000000000000000000000000) (hbin (A := (· = .int 10)) (B := fun d => ∃ r : Int, d = .int r ∧ 0 ≤ r ∧ r < 999999999999999999999999999991) (AB.hp pc) (hdraw2 (k := k + 8) rfl (hofc (k := k + 7) (ds := [.int 4, .int 30, .int 300, .int (10 ^ (30 : Int).toNat - 9)]) rfl (qcons pc (qcons pc (qcons pc (qcons (pbin (pbin pc pc fun _ => rfl) pc fun _ => rfl) qnil)))) (by decide) (by decide) fun d hd => ?_) (by decide)) fun x y a b => ?_) fun d hd => ⟨_, rfl, ?_⟩
  · simp only [List.mem_cons, List.not_mem_nil, or_false] at hd
    rcases hd with rfl | rfl | rfl | rfl
    · exact ⟨_, rfl, by decide, by decide⟩
    · exact ⟨_, rfl, by decide, by decide⟩
    · exact ⟨_, rfl, by decide, by decide⟩
    · exact ⟨_, rfl, by decide, by decide⟩
  · obtain ⟨r, rfl, h⟩ := b; subst a
    exact ⟨.int (10 + r), fun st => rfl, _, rfl, by omega, by omega⟩
  obtain ⟨m, rfl, hm⟩ := hd
  have F := fit_of hb hp
  have ok := meals_ok b ps F m
  refine jset (A := (· = eS (story b ps m))) (hpa fun s => acall (bcons (av rfl) (bcons (av rfl) (bcons (av rfl) bnil))) (c_lstory (k + 3) b ps hb hp m (by omega))) fun d hd => ⟨_, by subst hd; rfl, ?_⟩
  subst hd
  refine jiff (hpa (d := .bl false) fun s => acmp (acall (bcons (av rfl) (bcons (av rfl) (bcons (av rfl) bnil))) (c_story2 (k + 1) hb hp hm)) (av rfl) ?_) ?_
  · have := eq_story.co_ne (by omega) (story b ps m) (story b ps m) s
    rw [decide_eq_true rfl] at this
    exact this
  refine jset (A := (· = .tup [])) (hpa fun s => atup bnil) fun d hd => ⟨_, by subst hd; rfl, ?_⟩
  subst hd
  refine jpre9 (fun env2 => ∃ j11 j13 j14, env2 = [some (.ref 0), j1, some (.ref n), j3, some (.int m), j5, some (.tup (ps.map eT)), j7, j8, some (eS (story b ps m)), some (.tup (((meals b ps m).map (wk m)).map eTk)), j11, some (eB b), j13, j14]) (ss2 := .cons (.iff (.cmp .ne (.call 48 (.cons (.v 12) (.cons (.v 6) (.cons (.v 4) .nil)))) (.v 10)) (.cons (.rt (.c (.bl false))) .nil) .nil) .nil) (fun st p => ?_) fun env2 h => ?_
  · obtain ⟨env2, st2, w1, i11, i13, i14, rfl, w3, rfl⟩ := forA (enc := eMs) (f := fun x env1 => match asg (.n 11) x env1 with
        | some env2 => evSs (RN (k + 9)) subT 100000 b58s env2
        | none => nonS) (R58 st b ps m (some (.ref 0)) j1 (some (.ref n)) j3 j5 j7 j8) (fun acc l => acc ++ [wk m l]) (meals b ps m) 0 []
        [some (.ref 0), j1, some (.ref n), j3, some (.int m), j5, some (.tup (ps.map eT)), j7, j8, some (eS (story b ps m)), some (.tup []), j11, some (eB b), j13, j14] st
        (fun j l hl acc env st2 R => by
          have hs := ok.sm l (List.mem_of_getElem? hl)
          have hj := (List.getElem?_eq_some_iff.mp hl).1
          have hlen : (meals b ps m).length = b.gs.length := ok.len
          have hng := hb.ng
          exact t58s (k + 8) st b ps m _ _ _ _ _ _ _ hs.1 hs.2 (by omega) R) ⟨_, _, _, rfl, by simp, rfl⟩
    rw [acc_map, List.nil_append] at w1
    exact ⟨_, ⟨i11, i13, i14, rfl⟩, fun r hr => tfor (s1 := st2) (ds := (meals b ps m).map eMs) (iov (x := .tup ((meals b ps m).map eMs)) (aix (av rfl) ac rfl) rfl) w1 hr⟩
  obtain ⟨i11, i13, i14, rfl⟩ := h
  refine jiff (hpa (d := .bl false) fun s => acmp (acall (bcons (av rfl) (bcons (av rfl) (bcons (av rfl) bnil))) (c_meals (k + 1) hb hp hm)) (av rfl) ?_) (jnil ⟨b, ps, ⟨hb, hp⟩, _, _, _, _, _, _, _, _, _, _, _, rfl⟩)
  have := eq_tks.co_ne (by omega) ((meals b ps m).map (wk m)) ((meals b ps m).map (wk m)) s
  rw [decide_eq_true rfl] at this
  exact this
theorem jweak {C : Nat → List D → M D} {sub : Nat → Nat → Bool} {W : Nat} {env : Env} {P : Store → Prop} {ss : Ss} {J J2 : Env → Prop} (h : HN C sub W P ss env J) (k : ∀ env, J env → J2 env) : HN C sub W P ss env J2 := fun st p => by
  obtain ⟨env2, st2, a, b, c⟩ := h st p
  exact ⟨env2, st2, a, k env2 b, c⟩
theorem forS_cons {f : D → Env → MS} {x : D} {xs : List D} {env env1 : Env} {st st1 : Store} {r : RS} (h : f x env st = .ok (.nx env1) st1) (t : forS f xs env1 st1 = r) : forS f (x :: xs) env st = r := by
  rw [← t]
  show (match f x env st with
    | .ok (.nx env') st' => forS f xs env' st'
    | .ok (.ct env') st' => forS f xs env' st'
    | .ok (.bk env') st' => .ok (.nx env') st'
    | .ok (.rt d) st' => .ok (.rt d) st'
    | .ex e env' st' => .ex e env' st'
    | .no => .no) = _
  rw [h]
/-- a loop that runs at least once -/
theorem jfor1 {C : Nat → List D → M D} {sub : Nat → Nat → Bool} {W : Nat} {env : Env} {P : Store → Prop} {tg : T} {it : I} {b ss : Ss} {J2 : Env → Prop} (J0 J : Env → Prop) (hw : ∀ env, J env → J0 env) (hi : HI C sub P it env (· ≠ [])) (h0 : J0 env) (step : ∀ x env, J0 env → ∃ env1, asg tg x env = some env1 ∧ HN C sub W P b env1 J) (rest : ∀ env, J env → HN C sub W P ss env J2) : HN C sub W P (.cons (.forr tg it b) ss) env J2 := fun st p => by
  obtain ⟨ds, st1, a1, a2, a3⟩ := hi st p
  cases ds with
  | nil => exact absurd rfl a2
  | cons d ds =>
    obtain ⟨env1, s1, s2⟩ := step d env h0
    obtain ⟨env2, st2, s3, s4, s5⟩ := s2 st1 a3
    obtain ⟨env3, st3, k1, k2, k3⟩ := forJL (P := P) (f := fun x env1 => match asg tg x env1 with
      | some env2 => evSs C sub W b env2
      | none => nonS) J ds (fun x hx env j st p => by
        obtain ⟨env1, s1, s2⟩ := step x env (hw env j)
        obtain ⟨env2, st2, s3, s4, s5⟩ := s2 st p
        exact ⟨env2, st2, by simp only [s1]; exact s3, s4, s5⟩) env2 st2 s4 s5
    obtain ⟨env4, st4, r1, r2, r3⟩ := rest env3 k2 st3 k3
    refine ⟨env4, st4, ?_, r2, r3⟩
    refine (tfor (s1 := st1) (s2 := st3) (ds := d :: ds) ⟨a1⟩ ?_ ⟨r1⟩).go
    exact forS_cons (by simp only [s1]; exact s3) k1
theorem n58k {k n : Nat} {L : Store} {env : Env} (J : J58 n env) : HN (RN (k + 9)) subT 100000 (SrcS n L) (.cons (.forr (.n 3) (.rng1 (.c (.int 4))) b58t) b58e) env (J58 n) := by
  refine jfor1 (J58 n) (J58b n) (fun env J => ?_) (hirng1 (A := (· = .int 4)) (hpa fun s => ac) fun d hd => by subst hd; exact ⟨_, rfl, by decide⟩) J (fun x env J => ?_) fun env J => ?_
  · obtain ⟨b, ps, _, j1, j3, j4, j5, j7, j8, j9, j10, j11, j13, j14, rfl⟩ := J
    exact ⟨_, _, _, _, _, _, _, _, _, _, _, _, _, rfl⟩
  · obtain ⟨j1, j3, j4, j5, j6, j7, j8, j9, j10, j11, j12, j13, j14, rfl⟩ := J
    exact ⟨_, rfl, n58t ⟨_, _, _, _, _, _, _, _, _, _, _, _, _, rfl⟩⟩
  · obtain ⟨b, ps, ⟨hb, hp⟩, j1, j3, j4, j5, j7, j8, j9, j10, j11, j13, j14, rfl⟩ := J
    refine jset (A := fun d => ∃ m : Int, d = .int m ∧ 10 ≤ m ∧ m ≤ 21) (hbin (A := (· = .int 10)) (B := fun d => ∃ r : Int, d = .int r ∧ 0 ≤ r ∧ r < 12) (AB.hp pc) (hdraw (k := k + 8) (many := 12) rfl pc (by decide) (by decide)) fun x y a b => ?_) fun d hd => ⟨_, rfl, ?_⟩
    · obtain ⟨r, rfl, h⟩ := b; subst a
      exact ⟨.int (10 + r), fun st => rfl, _, rfl, by omega, by omega⟩
    obtain ⟨m, rfl, hm⟩ := hd
    have c1 := c_minutes (k + 7) hb hp (n := m) (by omega) (by omega)
    rw [sim_meals hb hp hm.1] at c1
    refine jiff (hpa (d := .bl false) fun s => acmp (acall (bcons (av rfl) (bcons (av rfl) (bcons (av rfl) bnil))) (c_meals (k + 1) hb hp ⟨hm.1, by omega⟩)) (acall (bcons (av rfl) (bcons (av rfl) (bcons (av rfl) bnil))) c1) ?_) (jnil ⟨_, _, _, _, _, _, _, _, _, _, _, _, _, rfl⟩)
    have := eq_tks.co_ne (by omega) ((meals b ps m).map (wk m)) ((meals b ps m).map (wk m)) s
    rw [decide_eq_true rfl] at this
    exact this
def J58a (env : Env) : Prop := ∃ j1 j2 j3 j4 j5 j6 j7 j8 j9 j10 j11 j12 j13 j14, env = [some (.ref 0), j1, j2, j3, j4, j5, j6, j7, j8, j9, j10, j11, j12, j13, j14]
def psB : List Pt := [⟨0, ⟨true, 0⟩, "r"⟩, ⟨1, ⟨true, 0⟩, "r"⟩]
theorem law02 (k : Nat) (ns : List Int) (st : Store) (p : P0 ns st) : ∃ d st', evSs (RN (k + 9)) subT 100000 f58.body ([D.ref 0].map some ++ List.replicate 14 none) st = .ok (.rt d) st' ∧ d = .bl true ∧ P0 ns st' := by
  have bA : BeV ⟨[gA, gB], 2⟩ := beB_ok (by decide +kernel)
  have bB : BeV ⟨[gA], 1⟩ := beB_ok (by decide +kernel)
  have pC : PtsV psC := ptsB_ok (by decide +kernel)
  have pB : PtsV psB := ptsB_ok (by decide +kernel)
  have t1 : story ⟨[gA], 1⟩ psB 10 = ([[(0, (0, 2))]], [(1, (1, 1))]) := by decide +kernel
  have t2 : (meals ⟨[gA, gB], 2⟩ psC 10).map (wk 10) = [[(0, 2)], [(1, 10)]] := by decide +kernel
  have t3 : (meals ⟨[gA, gB], 2⟩ psC 12).map (wk 12) = [[(0, 2)], [(1, 12), (2, 24)]] := by decide +kernel
  have H : HS (RN (k + 9)) subT 100000 (P0 ns) f58.body ([D.ref 0].map some ++ List.replicate 14 none) (· = .bl true) := by
    refine hforS J58a (h_turns (m := 10) (by omega) rfl) ⟨_, _, _, _, _, _, _, _, _, _, _, _, _, _, rfl⟩ (fun ds hds x hx env J => ?_) fun env J => ?_
    · obtain ⟨kk, rfl⟩ := hds x hx
      obtain ⟨j1, j2, j3, j4, j5, j6, j7, j8, j9, j10, j11, j12, j13, j14, rfl⟩ := J
      refine ⟨_, rfl, jsrc rfl rfl fun n L => ?_⟩
      refine jweak (n58k (k := k) ⟨_, _, _, _, _, _, _, _, _, _, _, _, _, rfl⟩) fun env J => ?_
      obtain ⟨j1, j3, j4, j5, j6, j7, j8, j9, j10, j11, j12, j13, j14, rfl⟩ := J
      exact ⟨_, _, _, _, _, _, _, _, _, _, _, _, _, _, rfl⟩
    · obtain ⟨j1, j2, j3, j4, j5, j6, j7, j8, j9, j10, j11, j12, j13, j14, rfl⟩ := J
      refine hset (A := (· = .tup [eG gA, .tup (psB.map eT)])) (hpa fun s => ⟨rfl⟩) fun d hd => ⟨_, by subst hd; rfl, ?_⟩
      subst hd
      refine hiffF (hpa fun s => acmp (x := eS (story ⟨[gA], 1⟩ psB 10)) (y := eS ([[(0, (0, 2))]], [(1, (1, 1))])) (acall (bcons (atup (bcons (atup (bcons (av rfl) bnil)) (bcons ac bnil))) (bcons (av rfl) (bcons ac bnil))) (c_story2 (k + 1) bB pB (by omega))) ⟨rfl⟩ ?_) ?_
      · have := eq_story.co_ne (by omega) (story ⟨[gA], 1⟩ psB 10) ([[(0, (0, 2))]], [(1, (1, 1))]) s
        rw [decide_eq_true t1] at this
        exact this
      refine hset (A := (· = .tup [.tup ([gA, gB].map eG), .tup (psC.map eT)])) (hpa fun s => ⟨rfl⟩) fun d hd => ⟨_, by subst hd; rfl, ?_⟩
      subst hd
      refine hiffF (hpa fun s => acmp (x := .tup (((meals ⟨[gA, gB], 2⟩ psC 10).map (wk 10)).map eTk)) (y := .tup (([[(0, 2)], [(1, 10)]] : List Tk).map eTk)) (acall (bcons (atup (bcons (av rfl) (bcons ac bnil))) (bcons (av rfl) (bcons ac bnil))) (c_meals (k + 1) bA pC (by omega))) ⟨rfl⟩ ?_) ?_
      · have := eq_tks.co_ne (by omega) ((meals ⟨[gA, gB], 2⟩ psC 10).map (wk 10)) [[(0, 2)], [(1, 10)]] s
        rw [decide_eq_true t2] at this
        exact this
      refine hrt (hpa fun s => acmp (x := .tup (((meals ⟨[gA, gB], 2⟩ psC 12).map (wk 12)).map eTk)) (y := .tup (([[(0, 2)], [(1, 12), (2, 24)]] : List Tk).map eTk)) (acall (bcons (atup (bcons (av rfl) (bcons ac bnil))) (bcons (av rfl) (bcons ac bnil))) (c_meals (k + 1) bA pC (by omega))) ⟨rfl⟩ ?_)
      have := eq_tks.co_eq (by omega) ((meals ⟨[gA, gB], 2⟩ psC 12).map (wk 12)) [[(0, 2)], [(1, 12), (2, 24)]] s
      rw [decide_eq_true t3] at this
      exact this
  exact H st p
theorem run02 (ns : List Int) : ∃ st, RN 100 58 [.ref 0] [.scr ns] = .ok (.bl true) st := by
  obtain ⟨d, st', h1, rfl, _⟩ := law02 90 ns [.scr ns] rfl
  have e : RN (99 + 1) 58 [.ref 0] [.scr ns] = .ok (.bl true) (cutS (.bl true) [.scr ns] st') := by
    rw [run_s (fd := f58) rfl rfl, show f58.ns - f58.np = 14 from rfl, show (99 : Nat) = 90 + 9 from rfl, h1]
  exact ⟨_, e⟩
end AB

set_option Elab.async false
set_option maxRecDepth 100000
set_option maxHeartbeats 0
namespace AnyL0
open PySem PySem.Spec PyProof.Rows L2 AB
def top (i : Nat) : Stmt := PySem.Challenge.pw_anybelt_k02_stories_with_told_lengths.main.body.getD i (.Pass ⟨0, 0, 0, 0⟩)
def fd_is_number : FD := ⟨3, 3, (.cons (.rt (.and (.isi (.v 0) .int) (.and (.nt (.isi (.v 0) .bool)) (.chn .le .le (.v 1) (.v 0) (.v 2))))) .nil)⟩
def di_is_number : DI := ⟨"is_number", 0, fd_is_number, ["value", "least", "most"], ["value", "least", "most"], 9⟩
def fd_is_tuple : FD := ⟨3, 3, (.cons (.rt (.and (.isi (.v 0) .tup) (.chn .le .le (.v 1) (.bi .len (.cons (.v 0) .nil)) (.v 2)))) .nil)⟩
def di_is_tuple : DI := ⟨"is_tuple", 1, fd_is_tuple, ["value", "least", "most"], ["value", "least", "most"], 10⟩
def fd_is_kind : FD := ⟨1, 1, (.cons (.rt (.and (.isi (.v 0) .str) (.cmp .inn (.v 0) (.c (.tup [(.str "g"), (.str "r"), (.str "y")]))))) .nil)⟩
def di_is_kind : DI := ⟨"is_kind", 2, fd_is_kind, ["value"], ["value"], 11⟩
def fd_is_place : FD := ⟨1, 1, (.cons (.iff (.or (.nt (.call 1 (.cons (.v 0) (.cons (.c (.int 2)) (.cons (.c (.int 2)) .nil))))) (.or (.nt (.isi (.ix (.v 0) (.c (.int 0))) .str)) (.cmp .nin (.ix (.v 0) (.c (.int 0))) (.tup (.cons (.c (.str "b")) (.cons (.c (.str "t")) .nil)))))) (.cons (.rt (.c (.bl false))) .nil) .nil) (.cons (.rt (.call 0 (.cons (.ix (.v 0) (.c (.int 1))) (.cons (.ite (.cmp .eq (.ix (.v 0) (.c (.int 0))) (.c (.str "b"))) (.c (.int 0)) (.c (.int 1))) (.cons (.c (.int 4)) .nil))))) .nil))⟩
def di_is_place : DI := ⟨"is_place", 3, fd_is_place, ["value"], ["value"], 12⟩
def fd_are_wants : FD := ⟨1, 4, (.cons (.iff (.or (.nt (.isi (.v 0) .str)) (.or (.nt (.chn .le .le (.c (.int 1)) (.bi .len (.cons (.v 0) .nil)) (.c (.int 3)))) (.nt (.bi .all (.cons (.comp (.call 2 (.cons (.v 3) .nil)) (.n 3) (.ov (.v 0)) (.c (.bl true)) [3]) .nil))))) (.cons (.rt (.c (.bl false))) .nil) .nil) (.cons (.rt (.bi .all (.cons (.comp (.cmp .lt (.v 1) (.v 2)) (.t (.cons (.n 1) (.cons (.n 2) .nil))) (.zip (.v 0) (.sll (.v 0) (.c (.int 1)))) (.c (.bl true)) [1, 2]) .nil))) .nil))⟩
def di_are_wants : DI := ⟨"are_wants", 4, fd_are_wants, ["value"], ["value", "one", "other", "sign"], 13⟩
def fd_is_good_guest : FD := ⟨1, 1, (.cons (.iff (.or (.nt (.call 1 (.cons (.v 0) (.cons (.c (.int 4)) (.cons (.c (.int 4)) .nil))))) (.or (.nt (.call 3 (.cons (.ix (.v 0) (.c (.int 0))) .nil))) (.or (.cmp .eq (.ix (.v 0) (.c (.int 0))) (.tup (.cons (.c (.str "b")) (.cons (.c (.int 0)) .nil)))) (.nt (.call 4 (.cons (.ix (.v 0) (.c (.int 1))) .nil)))))) (.cons (.rt (.c (.bl false))) .nil) .nil) (.cons (.rt (.and (.call 0 (.cons (.ix (.v 0) (.c (.int 2))) (.cons (.c (.int 1)) (.cons (.c (.int 60)) .nil)))) (.call 0 (.cons (.ix (.v 0) (.c (.int 3))) (.cons (.c (.int 1)) (.cons (.c (.int 4)) .nil)))))) .nil))⟩
def di_is_good_guest : DI := ⟨"is_good_guest", 5, fd_is_good_guest, ["value"], ["value"], 14⟩
def fd_is_good_belt : FD := ⟨1, 2, (.cons (.iff (.or (.nt (.call 1 (.cons (.v 0) (.cons (.c (.int 2)) (.cons (.c (.int 2)) .nil))))) (.or (.nt (.call 1 (.cons (.ix (.v 0) (.c (.int 0))) (.cons (.c (.int 1)) (.cons (.c (.int 2)) .nil))))) (.nt (.call 0 (.cons (.ix (.v 0) (.c (.int 1))) (.cons (.c (.int 1)) (.cons (.c (.int 3)) .nil))))))) (.cons (.rt (.c (.bl false))) .nil) .nil) (.cons (.rt (.bi .all (.cons (.comp (.call 5 (.cons (.v 1) .nil)) (.n 1) (.ov (.ix (.v 0) (.c (.int 0)))) (.c (.bl true)) [1]) .nil))) .nil))⟩
def di_is_good_belt : DI := ⟨"is_good_belt", 6, fd_is_good_belt, ["value"], ["value", "guest"], 15⟩
def fd_is_good_plate : FD := ⟨1, 1, (.cons (.iff (.or (.nt (.call 1 (.cons (.v 0) (.cons (.c (.int 3)) (.cons (.c (.int 3)) .nil))))) (.nt (.call 0 (.cons (.ix (.v 0) (.c (.int 0))) (.cons (.c (.int 0)) (.cons (.c (.int 300)) .nil)))))) (.cons (.rt (.c (.bl false))) .nil) .nil) (.cons (.rt (.and (.call 3 (.cons (.ix (.v 0) (.c (.int 1))) .nil)) (.call 2 (.cons (.ix (.v 0) (.c (.int 2))) .nil)))) .nil))⟩
def di_is_good_plate : DI := ⟨"is_good_plate", 7, fd_is_good_plate, ["value"], ["value"], 16⟩
def fd_are_good_plates : FD := ⟨1, 4, (.cons (.iff (.or (.nt (.call 1 (.cons (.v 0) (.cons (.c (.int 0)) (.cons (.c (.int 4)) .nil))))) (.nt (.bi .all (.cons (.comp (.call 7 (.cons (.v 3) .nil)) (.n 3) (.ov (.v 0)) (.c (.bl true)) [3]) .nil)))) (.cons (.rt (.c (.bl false))) .nil) .nil) (.cons (.rt (.bi .all (.cons (.comp (.cmp .le (.ix (.v 1) (.c (.int 0))) (.ix (.v 2) (.c (.int 0)))) (.t (.cons (.n 1) (.cons (.n 2) .nil))) (.zip (.v 0) (.sll (.v 0) (.c (.int 1)))) (.c (.bl true)) [1, 2]) .nil))) .nil))⟩
def di_are_good_plates : DI := ⟨"are_good_plates", 8, fd_are_good_plates, ["value"], ["value", "one", "other", "plate"], 17⟩
def fd_place_form : FD := ⟨1, 1, (.cons (.rt (.ite (.cmp .eq (.ix (.v 0) (.c (.int 0))) (.c (.str "b"))) (.tup (.cons (.c (.int 0)) (.cons (.ix (.v 0) (.c (.int 1))) .nil))) (.tup (.cons (.c (.int 1)) (.cons (.neg (.ix (.v 0) (.c (.int 1)))) .nil))))) .nil)⟩
def di_place_form : DI := ⟨"place_form", 9, fd_place_form, ["place"], ["place"], 18⟩
def fd_worth : FD := ⟨2, 2, (.cons (.rt (.bin .add (.bin .mul (.ix (.v 0) (.c (.int 0))) (.v 1)) (.ix (.v 0) (.c (.int 1))))) .nil)⟩
def di_worth : DI := ⟨"worth", 10, fd_worth, ["form", "n"], ["form", "n"], 19⟩
def fd_added : FD := ⟨2, 2, (.cons (.rt (.tup (.cons (.bin .add (.ix (.v 0) (.c (.int 0))) (.ix (.v 1) (.c (.int 0)))) (.cons (.bin .add (.ix (.v 0) (.c (.int 1))) (.ix (.v 1) (.c (.int 1)))) .nil)))) .nil)⟩
def di_added : DI := ⟨"added", 33, fd_added, ["one", "other"], ["one", "other"], 20⟩
def fd_less : FD := ⟨2, 2, (.cons (.rt (.tup (.cons (.bin .sub (.ix (.v 0) (.c (.int 0))) (.ix (.v 1) (.c (.int 0)))) (.cons (.bin .sub (.ix (.v 0) (.c (.int 1))) (.ix (.v 1) (.c (.int 1)))) .nil)))) .nil)⟩
def di_less : DI := ⟨"less", 34, fd_less, ["one", "other"], ["one", "other"], 21⟩
def fd_sign_of : FD := ⟨2, 3, (.cons (.set 0 (.n 2) (.call 10 (.cons (.v 0) (.cons (.v 1) .nil)))) (.cons (.rt (.ite (.cmp .gt (.v 2) (.c (.int 0))) (.c (.int 1)) (.ite (.cmp .lt (.v 2) (.c (.int 0))) (.neg (.c (.int 1))) (.c (.int 0))))) .nil))⟩
def di_sign_of : DI := ⟨"sign_of", 35, fd_sign_of, ["form", "n"], ["form", "n", "found"], 22⟩
def fd_further : FD := ⟨2, 3, (.cons (.set 0 (.n 2) (.call 34 (.cons (.call 9 (.cons (.v 1) .nil)) (.cons (.call 9 (.cons (.v 0) .nil)) .nil)))) (.cons (.rt (.ite (.cmp .lt (.call 35 (.cons (.v 2) (.cons (.c (.int 10)) .nil))) (.c (.int 0))) (.call 33 (.cons (.v 2) (.cons (.tup (.cons (.c (.int 1)) (.cons (.c (.int 0)) .nil))) .nil))) (.v 2))) .nil))⟩
def di_further : DI := ⟨"further", 36, fd_further, ["place", "goal"], ["place", "goal", "far"], 23⟩
def fd_need_belt : FD := ⟨1, 1, (.cons (.iff (.nt (.call 6 (.cons (.v 0) .nil))) (.cons (.raise 1) .nil) .nil) .nil)⟩
def di_need_belt : DI := ⟨"need_belt", 37, fd_need_belt, ["value"], ["value"], 24⟩
def fd_need_plates : FD := ⟨1, 1, (.cons (.iff (.nt (.call 8 (.cons (.v 0) .nil))) (.cons (.raise 2) .nil) .nil) .nil)⟩
def di_need_plates : DI := ⟨"need_plates", 38, fd_need_plates, ["value"], ["value"], 25⟩
def fd_need_order : FD := ⟨2, 2, (.cons (.ex (.call 37 (.cons (.v 0) .nil))) (.cons (.ex (.call 38 (.cons (.v 1) .nil))) .nil))⟩
def di_need_order : DI := ⟨"need_order", 39, fd_need_order, ["belt", "plates"], ["belt", "plates"], 26⟩
def fd_need_n : FD := ⟨1, 1, (.cons (.iff (.nt (.call 0 (.cons (.v 0) (.cons (.c (.int 10)) (.cons (.c (.int 1000000000000000000000000000000)) .nil))))) (.cons (.raise 3) .nil) .nil) .nil)⟩
def di_need_n : DI := ⟨"need_n", 11, fd_need_n, ["value"], ["value"], 27⟩
def fd_off_form : FD := ⟨2, 3, (.cons (.set 0 (.n 2) (.call 36 (.cons (.ix (.v 0) (.c (.int 1))) (.cons (.tup (.cons (.c (.str "b")) (.cons (.c (.int 0)) .nil))) .nil)))) (.cons (.set 0 (.n 2) (.ite (.cmp .eq (.v 2) (.tup (.cons (.c (.int 0)) (.cons (.c (.int 0)) .nil)))) (.tup (.cons (.c (.int 1)) (.cons (.c (.int 0)) .nil))) (.v 2))) (.cons (.rt (.call 33 (.cons (.call 33 (.cons (.tup (.cons (.c (.int 0)) (.cons (.ix (.v 0) (.c (.int 0))) .nil))) (.cons (.v 2) .nil))) (.cons (.tup (.cons (.bin .sub (.v 1) (.c (.int 1))) (.cons (.c (.int 0)) .nil))) .nil)))) .nil)))⟩
def di_off_form : DI := ⟨"off_form", 40, fd_off_form, ["plate", "rounds"], ["plate", "rounds", "far"], 29⟩
def fd_comings_of : FD := ⟨2, 11, (.cons (.set 0 (.n 2) (.lst .nil)) (.cons (.forr (.t (.cons (.n 3) (.cons (.n 4) .nil))) (.enm (.ix (.v 0) (.c (.int 0)))) (.cons (.forr (.t (.cons (.n 5) (.cons (.n 6) .nil))) (.enm (.v 1)) (.cons (.set 0 (.n 7) (.call 33 (.cons (.tup (.cons (.c (.int 0)) (.cons (.ix (.v 6) (.c (.int 0))) .nil))) (.cons (.call 36 (.cons (.ix (.v 6) (.c (.int 1))) (.cons (.ix (.v 4) (.c (.int 0))) .nil))) .nil)))) (.cons (.set 0 (.n 8) (.call 40 (.cons (.v 6) (.cons (.ix (.v 0) (.c (.int 1))) .nil)))) (.cons (.forr (.n 9) (.rng1 (.bin .add (.ix (.v 0) (.c (.int 1))) (.c (.int 1)))) (.cons (.set 0 (.n 10) (.call 33 (.cons (.v 7) (.cons (.tup (.cons (.v 9) (.cons (.c (.int 0)) .nil))) .nil)))) (.cons (.iff (.and (.cmp .inn (.ix (.v 6) (.c (.int 2))) (.ix (.v 4) (.c (.int 1)))) (.cmp .lt (.call 35 (.cons (.call 34 (.cons (.v 10) (.cons (.v 8) .nil))) (.cons (.c (.int 10)) .nil))) (.c (.int 0)))) (.cons (.set 0 (.n 2) (.bin .add (.v 2) (.lst (.cons (.tup (.cons (.v 10) (.cons (.v 3) (.cons (.v 5) .nil)))) .nil)))) .nil) .nil) .nil))) .nil)))) .nil)) (.cons (.rt (.v 2)) .nil)))⟩
def di_comings_of : DI := ⟨"comings_of", 41, fd_comings_of, ["belt", "plates"], ["belt", "plates", "found", "number", "guest", "index", "plate", "first", "off", "turn", "form"], 30⟩
def fd_in_order : FD := ⟨2, 7, (.cons (.set 0 (.n 2) (.bi .sorted (.cons (.comp (.tup (.cons (.call 10 (.cons (.v 6) (.cons (.v 1) .nil))) (.cons (.v 4) (.cons (.v 5) (.cons (.v 6) .nil))))) (.t (.cons (.n 6) (.cons (.n 4) (.cons (.n 5) .nil)))) (.ov (.v 0)) (.c (.bl true)) [6, 4, 5]) .nil))) (.cons (.rt (.comp (.tup (.cons (.v 6) (.cons (.v 4) (.cons (.v 5) .nil)))) (.t (.cons (.n 3) (.cons (.n 4) (.cons (.n 5) (.cons (.n 6) .nil))))) (.ov (.v 2)) (.c (.bl true)) [3, 4, 5, 6])) .nil))⟩
def di_in_order : DI := ⟨"in_order", 42, fd_in_order, ["comings", "n"], ["comings", "n", "rows", "minute", "guest", "plate", "form"], 31⟩
def fd_can_take : FD := ⟨4, 4, (.cons (.iff (.cmp .ge (.bi .len (.cons (.v 1) .nil)) (.ix (.v 0) (.c (.int 3)))) (.cons (.rt (.c (.bl false))) .nil) .nil) (.cons (.rt (.or (.cmp .eq (.v 1) (.tup .nil)) (.cmp .ge (.call 35 (.cons (.call 34 (.cons (.v 2) (.cons (.call 33 (.cons (.ix (.ix (.v 1) (.neg (.c (.int 1)))) (.c (.int 1))) (.cons (.tup (.cons (.c (.int 0)) (.cons (.ix (.v 0) (.c (.int 2))) .nil))) .nil))) .nil))) (.cons (.v 3) .nil))) (.c (.int 0))))) .nil))⟩
def di_can_take : DI := ⟨"can_take", 43, fd_can_take, ["guest", "taken", "form", "n"], ["guest", "taken", "form", "n"], 32⟩
def fd_meals_of : FD := ⟨3, 8, (.cons (.set 2 (.t (.cons (.n 3) (.cons (.n 4) .nil))) (.tup (.cons (.bin .mul (.tup (.cons (.tup .nil) .nil)) (.bi .len (.cons (.ix (.v 0) (.c (.int 0))) .nil))) (.cons (.tup .nil) .nil)))) (.cons (.forr (.t (.cons (.n 5) (.cons (.n 6) (.cons (.n 7) .nil)))) (.ov (.call 42 (.cons (.call 41 (.cons (.v 0) (.cons (.v 1) .nil))) (.cons (.v 2) .nil)))) (.cons (.iff (.and (.cmp .nin (.v 7) (.v 4)) (.call 43 (.cons (.ix (.ix (.v 0) (.c (.int 0))) (.v 6)) (.cons (.ix (.v 3) (.v 6)) (.cons (.v 5) (.cons (.v 2) .nil)))))) (.cons (.set 0 (.n 3) (.bin .add (.bin .add (.slh (.v 3) (.v 6)) (.tup (.cons (.bin .add (.ix (.v 3) (.v 6)) (.tup (.cons (.tup (.cons (.v 7) (.cons (.v 5) .nil))) .nil))) .nil))) (.sll (.v 3) (.bin .add (.v 6) (.c (.int 1)))))) (.cons (.set 0 (.n 4) (.bin .add (.v 4) (.tup (.cons (.v 7) .nil)))) .nil)) .nil) .nil)) (.cons (.rt (.v 3)) .nil)))⟩
def di_meals_of : DI := ⟨"meals_of", 44, fd_meals_of, ["belt", "plates", "n"], ["belt", "plates", "n", "found", "gone", "form", "guest", "plate"], 33⟩
def fd_story_of : FD := ⟨3, 10, (.cons (.set 0 (.n 3) (.call 44 (.cons (.v 0) (.cons (.v 1) (.cons (.v 2) .nil))))) (.cons (.set 0 (.n 4) (.comp2 (.v 8) (.n 6) (.ov (.v 3)) (.c (.bl true)) (.t (.cons (.n 8) (.cons (.n 9) .nil))) (.ov (.v 6)) (.c (.bl true)) [6, 8, 9] [8, 9])) (.cons (.set 1 (.n 5) (.comp (.v 7) (.n 7) (.rng1 (.bi .len (.cons (.v 1) .nil))) (.cmp .nin (.v 7) (.v 4)) [7])) (.cons (.rt (.tup (.cons (.v 3) (.cons (.bi .tuple (.cons (.comp (.tup (.cons (.v 7) (.cons (.call 40 (.cons (.ix (.v 1) (.v 7)) (.cons (.ix (.v 0) (.c (.int 1))) .nil))) .nil))) (.n 7) (.ov (.v 5)) (.c (.bl true)) [7]) .nil)) .nil)))) .nil))))⟩
def di_story_of : DI := ⟨"story_of", 45, fd_story_of, ["belt", "plates", "n"], ["belt", "plates", "n", "meals", "gone", "rest", "some", "index", "plate", "form"], 34⟩
def fd_minutes_of : FD := ⟨3, 6, (.cons (.rt (.bi .tuple (.cons (.comp (.bi .tuple (.cons (.comp (.tup (.cons (.v 4) (.cons (.call 10 (.cons (.v 5) (.cons (.v 2) .nil))) .nil))) (.t (.cons (.n 4) (.cons (.n 5) .nil))) (.ov (.v 3)) (.c (.bl true)) [4, 5]) .nil)) (.n 3) (.ov (.call 44 (.cons (.v 0) (.cons (.v 1) (.cons (.v 2) .nil))))) (.c (.bl true)) [3]) .nil))) .nil)⟩
def di_minutes_of : DI := ⟨"minutes_of", 46, fd_minutes_of, ["belt", "plates", "n"], ["belt", "plates", "n", "some", "plate", "form"], 35⟩
def fd_story : FD := ⟨3, 3, (.cons (.ex (.call 39 (.cons (.v 0) (.cons (.v 1) .nil)))) (.cons (.ex (.call 11 (.cons (.v 2) .nil))) (.cons (.rt (.call 45 (.cons (.v 0) (.cons (.v 1) (.cons (.v 2) .nil))))) .nil)))⟩
def di_story : DI := ⟨"story", 47, fd_story, ["belt", "plates", "n"], ["belt", "plates", "n"], 36⟩
def fd_meals : FD := ⟨3, 3, (.cons (.ex (.call 39 (.cons (.v 0) (.cons (.v 1) .nil)))) (.cons (.ex (.call 11 (.cons (.v 2) .nil))) (.cons (.rt (.call 46 (.cons (.v 0) (.cons (.v 1) (.cons (.v 2) .nil))))) .nil)))⟩
def di_meals : DI := ⟨"meals", 48, fd_meals, ["belt", "plates", "n"], ["belt", "plates", "n"], 37⟩
def fd_law_source : FD := ⟨2, 3, (.cons (.set 0 (.n 2) (.c (.int 0))) (.cons (.iff (.cmp .lt (.v 1) (.bi .len (.cons (.v 0) .nil))) (.cons (.set 0 (.n 2) (.bi .abs (.cons (.bi .int (.cons (.ix (.v 0) (.v 1)) .nil)) .nil))) .nil) .nil) (.cons (.iff (.cmp .lt (.v 2) (.bin .pow (.c (.int 10)) (.c (.int 18)))) (.cons (.rt (.new (.lst (.cons (.c (.int 0)) (.cons (.bin .add (.c (.int 1)) (.bin .mod (.bi .int (.cons (.bin .add (.bin .mul (.v 2) (.c (.int 7919))) (.bin .mul (.c (.int 104729)) (.v 1))) .nil)) (.c (.int 2147483646)))) .nil))))) .nil) .nil) (.cons (.rt (.new (.lst (.cons (.v 2) (.cons (.bin .add (.c (.int 1)) (.bin .mod (.bi .int (.cons (.bin .add (.v 2) (.v 1)) .nil)) (.c (.int 2147483646)))) .nil))))) .nil))))⟩
def di_law_source : DI := ⟨"_law_source", 16, fd_law_source, ["script", "k"], ["script", "k", "cell"], 39⟩
def fd_law_draw : FD := ⟨2, 3, (.cons (.iff (.cmp .gt (.ix (.v 0) (.c (.int 0))) (.c (.int 0))) (.cons (.set 0 (.n 2) (.bin .mod (.bi .int (.cons (.ix (.v 0) (.c (.int 0))) .nil)) (.v 1))) (.cons (.seti (.v 0) (.c (.int 0)) (.bin .fdiv (.ix (.v 0) (.c (.int 0))) (.v 1))) (.cons (.rt (.v 2)) .nil))) .nil) (.cons (.seti (.v 0) (.c (.int 1)) (.bin .mod (.bi .int (.cons (.bin .mul (.ix (.v 0) (.c (.int 1))) (.c (.int 48271))) .nil)) (.c (.int 2147483647)))) (.cons (.rt (.bin .mod (.bi .int (.cons (.bin .fdiv (.bin .mod (.bi .int (.cons (.bin .mul (.ix (.v 0) (.c (.int 1))) (.ix (.v 0) (.c (.int 1)))) .nil)) (.c (.int 2147483629))) (.c (.int 64))) .nil)) (.v 1))) .nil)))⟩
def di_law_draw : DI := ⟨"_law_draw", 17, fd_law_draw, ["source", "many"], ["source", "many", "found"], 40⟩
def fd_law_of : FD := ⟨2, 2, (.cons (.rt (.ix (.v 1) (.call 17 (.cons (.v 0) (.cons (.bi .len (.cons (.v 1) .nil)) .nil))))) .nil)⟩
def di_law_of : DI := ⟨"_law_of", 18, fd_law_of, ["source", "items"], ["source", "items"], 41⟩
def fd_law_place : FD := ⟨1, 1, (.cons (.iff (.cmp .eq (.call 17 (.cons (.v 0) (.cons (.c (.int 2)) .nil))) (.c (.int 0))) (.cons (.rt (.tup (.cons (.c (.str "b")) (.cons (.call 17 (.cons (.v 0) (.cons (.c (.int 5)) .nil))) .nil)))) .nil) .nil) (.cons (.rt (.tup (.cons (.c (.str "t")) (.cons (.bin .add (.c (.int 1)) (.call 17 (.cons (.v 0) (.cons (.c (.int 4)) .nil)))) .nil)))) .nil))⟩
def di_law_place : DI := ⟨"_law_place", 19, fd_law_place, ["source"], ["source"], 42⟩
def fd_law_belt : FD := ⟨1, 6, (.cons (.set 0 (.n 1) (.tup .nil)) (.cons (.forr (.n 2) (.rng1 (.bin .add (.c (.int 1)) (.call 17 (.cons (.v 0) (.cons (.c (.int 2)) .nil))))) (.cons (.set 0 (.n 3) (.call 19 (.cons (.v 0) .nil))) (.cons (.set 0 (.n 3) (.ite (.cmp .eq (.v 3) (.tup (.cons (.c (.str "b")) (.cons (.c (.int 0)) .nil)))) (.tup (.cons (.c (.str "b")) (.cons (.bin .add (.c (.int 1)) (.call 17 (.cons (.v 0) (.cons (.c (.int 3)) .nil)))) .nil))) (.v 3))) (.cons (.set 0 (.n 4) (.call 18 (.cons (.v 0) (.cons (.lst (.cons (.c (.str "g")) (.cons (.c (.str "r")) (.cons (.c (.str "gr")) (.cons (.c (.str "gr")) (.cons (.c (.str "gry")) (.cons (.c (.str "ry")) .nil))))))) .nil)))) (.cons (.set 0 (.n 5) (.call 18 (.cons (.v 0) (.cons (.lst (.cons (.c (.int 1)) (.cons (.c (.int 2)) (.cons (.c (.int 5)) (.cons (.c (.int 12)) (.cons (.bin .add (.c (.int 1)) (.call 17 (.cons (.v 0) (.cons (.c (.int 60)) .nil)))) .nil)))))) .nil)))) (.cons (.set 0 (.n 1) (.bin .add (.v 1) (.tup (.cons (.tup (.cons (.v 3) (.cons (.v 4) (.cons (.v 5) (.cons (.call 18 (.cons (.v 0) (.cons (.lst (.cons (.c (.int 1)) (.cons (.c (.int 2)) (.cons (.c (.int 2)) (.cons (.c (.int 3)) (.cons (.c (.int 4)) .nil)))))) .nil))) .nil))))) .nil)))) .nil)))))) (.cons (.rt (.tup (.cons (.v 1) (.cons (.call 18 (.cons (.v 0) (.cons (.lst (.cons (.c (.int 1)) (.cons (.c (.int 2)) (.cons (.c (.int 2)) (.cons (.c (.int 3)) .nil))))) .nil))) .nil)))) .nil)))⟩
def di_law_belt : DI := ⟨"_law_belt", 20, fd_law_belt, ["source"], ["source", "guests", "turn", "seat", "wants", "pause"], 43⟩
def fd_law_plates : FD := ⟨2, 7, (.cons (.set 0 (.t (.cons (.n 3) (.cons (.n 4) .nil))) (.tup (.cons (.tup .nil) (.cons (.c (.int 0)) .nil)))) (.cons (.forr (.n 2) (.rng1 (.call 17 (.cons (.v 0) (.cons (.bin .add (.v 1) (.c (.int 1))) .nil)))) (.cons (.set 0 (.n 4) (.bin .add (.v 4) (.call 18 (.cons (.v 0) (.cons (.lst (.cons (.c (.int 0)) (.cons (.c (.int 0)) (.cons (.c (.int 1)) (.cons (.c (.int 1)) (.cons (.c (.int 3)) (.cons (.c (.int 9)) (.cons (.call 17 (.cons (.v 0) (.cons (.c (.int 70)) .nil))) .nil)))))))) .nil))))) (.cons (.set 0 (.n 5) (.ite (.cmp .eq (.call 17 (.cons (.v 0) (.cons (.c (.int 2)) .nil))) (.c (.int 0))) (.call 19 (.cons (.v 0) .nil)) (.tup (.cons (.c (.str "b")) (.cons (.c (.int 0)) .nil))))) (.cons (.set 0 (.n 6) (.call 18 (.cons (.v 0) (.cons (.lst (.cons (.c (.str "g")) (.cons (.c (.str "r")) (.cons (.c (.str "r")) (.cons (.c (.str "y")) .nil))))) .nil)))) (.cons (.set 0 (.n 3) (.bin .add (.v 3) (.tup (.cons (.tup (.cons (.bi .min2 (.cons (.v 4) (.cons (.c (.int 300)) .nil))) (.cons (.v 5) (.cons (.v 6) .nil)))) .nil)))) .nil))))) (.cons (.rt (.v 3)) .nil)))⟩
def di_law_plates : DI := ⟨"_law_plates", 21, fd_law_plates, ["source", "most"], ["source", "most", "turn", "found", "minute", "place", "kind"], 44⟩
def fd_law_at : FD := ⟨2, 2, (.cons (.rt (.ite (.cmp .eq (.ix (.v 0) (.c (.int 0))) (.c (.str "b"))) (.ix (.v 0) (.c (.int 1))) (.bin .sub (.v 1) (.ix (.v 0) (.c (.int 1)))))) .nil)⟩
def di_law_at : DI := ⟨"_law_at", 22, fd_law_at, ["place", "n"], ["place", "n"], 45⟩
def fd_law_form : FD := ⟨1, 1, (.cons (.rt (.ite (.cmp .eq (.ix (.v 0) (.c (.int 0))) (.c (.str "b"))) (.tup (.cons (.c (.int 0)) (.cons (.ix (.v 0) (.c (.int 1))) .nil))) (.tup (.cons (.c (.int 1)) (.cons (.neg (.ix (.v 0) (.c (.int 1)))) .nil))))) .nil)⟩
def di_law_form : DI := ⟨"_law_form", 49, fd_law_form, ["place"], ["place"], 46⟩
def fd_law_worth : FD := ⟨2, 2, (.cons (.rt (.bin .add (.bin .mul (.ix (.v 0) (.c (.int 0))) (.v 1)) (.ix (.v 0) (.c (.int 1))))) .nil)⟩
def di_law_worth : DI := ⟨"_law_worth", 50, fd_law_worth, ["form", "n"], ["form", "n"], 47⟩
def fd_law_plus : FD := ⟨3, 3, (.cons (.rt (.tup (.cons (.bin .add (.ix (.v 0) (.c (.int 0))) (.bin .mul (.v 2) (.ix (.v 1) (.c (.int 0))))) (.cons (.bin .add (.ix (.v 0) (.c (.int 1))) (.bin .mul (.v 2) (.ix (.v 1) (.c (.int 1))))) .nil)))) .nil)⟩
def di_law_plus : DI := ⟨"_law_plus", 51, fd_law_plus, ["form", "other", "times"], ["form", "other", "times"], 48⟩
def fd_law_far : FD := ⟨2, 3, (.cons (.set 0 (.n 2) (.call 51 (.cons (.call 49 (.cons (.v 1) .nil)) (.cons (.call 49 (.cons (.v 0) .nil)) (.cons (.neg (.c (.int 1))) .nil))))) (.cons (.rt (.ite (.cmp .ge (.call 50 (.cons (.v 2) (.cons (.c (.int 100)) .nil))) (.c (.int 0))) (.v 2) (.call 51 (.cons (.v 2) (.cons (.tup (.cons (.c (.int 1)) (.cons (.c (.int 0)) .nil))) (.cons (.c (.int 1)) .nil)))))) .nil))⟩
def di_law_far : DI := ⟨"_law_far", 52, fd_law_far, ["place", "goal"], ["place", "goal", "far"], 49⟩
def fd_law_passes : FD := ⟨2, 15, (.cons (.set 2 (.t (.cons (.n 3) (.cons (.n 4) .nil))) (.tup (.cons (.tup (.cons (.c (.int 0)) (.cons (.ix (.v 1) (.c (.int 0))) .nil))) (.cons (.ix (.v 1) (.c (.int 1))) .nil)))) (.cons (.set 0 (.n 2) (.call 51 (.cons (.v 3) (.cons (.call 52 (.cons (.v 4) (.cons (.tup (.cons (.c (.str "b")) (.cons (.c (.int 0)) .nil))) .nil))) (.cons (.c (.int 1)) .nil))))) (.cons (.set 0 (.n 2) (.ite (.cmp .eq (.v 4) (.tup (.cons (.c (.str "b")) (.cons (.c (.int 0)) .nil)))) (.call 51 (.cons (.v 2) (.cons (.tup (.cons (.c (.int 1)) (.cons (.c (.int 0)) .nil))) (.cons (.c (.int 1)) .nil)))) (.v 2))) (.cons (.set 2 (.t (.cons (.n 5) (.cons (.n 6) .nil))) (.tup (.cons (.call 51 (.cons (.v 2) (.cons (.tup (.cons (.c (.int 1)) (.cons (.c (.int 0)) .nil))) (.cons (.bin .sub (.ix (.v 0) (.c (.int 1))) (.c (.int 1))) .nil)))) (.cons (.new (.lst .nil)) .nil)))) (.cons (.forr (.t (.cons (.n 7) (.cons (.n 8) (.cons (.n 9) (.cons (.n 10) .nil))))) (.ov (.ix (.v 0) (.c (.int 0)))) (.cons (.set 2 (.t (.cons (.n 12) (.cons (.n 13) .nil))) (.tup (.cons (.call 51 (.cons (.v 3) (.cons (.call 52 (.cons (.v 4) (.cons (.v 7) .nil))) (.cons (.c (.int 1)) .nil)))) (.cons (.new (.lst .nil)) .nil)))) (.cons (.forr (.n 11) (.rng1 (.bin .add (.ix (.v 0) (.c (.int 1))) (.c (.int 1)))) (.cons (.set 0 (.n 14) (.call 51 (.cons (.v 12) (.cons (.tup (.cons (.c (.int 1)) (.cons (.c (.int 0)) .nil))) (.cons (.v 11) .nil))))) (.cons (.iff (.and (.cmp .inn (.ix (.v 1) (.c (.int 2))) (.v 8)) (.cmp .lt (.call 50 (.cons (.v 14) (.cons (.c (.int 100)) .nil))) (.call 50 (.cons (.v 5) (.cons (.c (.int 100)) .nil))))) (.cons (.app (.v 13) (.v 14)) .nil) .nil) .nil))) (.cons (.frz 13 (.app (.v 6) (.v 13))) .nil)))) (.cons (.frz 6 (.rt (.tup (.cons (.v 6) (.cons (.v 5) .nil))))) .nil))))))⟩
def di_law_passes : DI := ⟨"_law_passes", 53, fd_law_passes, ["belt", "plate"], ["belt", "plate", "home", "start", "place", "off", "rows", "seat", "wants", "pause", "most", "turn", "first", "forms", "form"], 50⟩
def fd_law_comings : FD := ⟨2, 10, (.cons (.set 0 (.n 2) (.lst .nil)) (.cons (.forr (.t (.cons (.n 3) (.cons (.n 4) .nil))) (.enm (.v 1)) (.cons (.set 0 (.t (.cons (.n 5) (.cons (.n 6) .nil))) (.call 53 (.cons (.v 0) (.cons (.v 4) .nil)))) (.cons (.forr (.t (.cons (.n 7) (.cons (.n 8) .nil))) (.enm (.v 5)) (.cons (.set 0 (.n 2) (.bin .add (.v 2) (.comp (.tup (.cons (.v 9) (.cons (.v 7) (.cons (.v 3) .nil)))) (.n 9) (.ov (.v 8)) (.c (.bl true)) [9]))) .nil)) .nil))) (.cons (.rt (.v 2)) .nil)))⟩
def di_law_comings : DI := ⟨"_law_comings", 54, fd_law_comings, ["belt", "plates"], ["belt", "plates", "found", "number", "plate", "rows", "off", "guest", "forms", "form"], 51⟩
def fd_law_lined : FD := ⟨2, 6, (.cons (.set 0 (.n 2) (.new (.lst .nil))) (.cons (.forr (.t (.cons (.n 3) (.cons (.n 4) (.cons (.n 5) .nil)))) (.ov (.v 0)) (.cons (.app (.v 2) (.tup (.cons (.call 50 (.cons (.v 3) (.cons (.v 1) .nil))) (.cons (.v 4) (.cons (.v 5) (.cons (.ix (.v 3) (.c (.int 0))) (.cons (.ix (.v 3) (.c (.int 1))) .nil))))))) .nil)) (.cons (.rt (.bi .sorted (.cons (.v 2) .nil))) .nil)))⟩
def di_law_lined : DI := ⟨"_law_lined", 55, fd_law_lined, ["comings", "n"], ["comings", "n", "rows", "form", "guest", "plate"], 52⟩
def fd_law_story : FD := ⟨3, 19, (.cons (.set 3 (.t (.cons (.n 4) (.cons (.n 5) (.cons (.n 6) .nil)))) (.tup (.cons (.call 54 (.cons (.v 0) (.cons (.v 1) .nil))) (.cons (.new (.bin .mul (.lst (.cons (.tup .nil) .nil)) (.bi .len (.cons (.ix (.v 0) (.c (.int 0))) .nil)))) (.cons (.new (.lst .nil)) .nil))))) (.cons (.forr (.t (.cons (.n 7) (.cons (.n 8) (.cons (.n 9) (.cons (.n 10) (.cons (.n 11) .nil)))))) (.ov (.call 55 (.cons (.v 4) (.cons (.v 2) .nil)))) (.cons (.set 0 (.t (.cons (.n 15) (.cons (.n 16) (.cons (.n 17) (.cons (.n 18) .nil))))) (.ix (.ix (.v 0) (.c (.int 0))) (.v 8))) (.cons (.set 0 (.n 12) (.ite (.cmp .ne (.ix (.v 5) (.v 8)) (.tup .nil)) (.ix (.ix (.ix (.v 5) (.v 8)) (.neg (.c (.int 1)))) (.c (.int 1))) (.c .non))) (.cons (.set 0 (.n 13) (.or (.cmp .isn (.v 12) (.c .non)) (.cmp .ge (.bin .sub (.v 7) (.call 50 (.cons (.v 12) (.cons (.v 2) .nil)))) (.v 17)))) (.cons (.iff (.and (.cmp .nin (.v 9) (.v 6)) (.and (.v 13) (.cmp .lt (.bi .len (.cons (.ix (.v 5) (.v 8)) .nil)) (.v 18)))) (.cons (.seti (.v 5) (.v 8) (.bin .add (.ix (.v 5) (.v 8)) (.tup (.cons (.tup (.cons (.v 9) (.cons (.tup (.cons (.v 10) (.cons (.v 11) .nil))) .nil))) .nil)))) (.cons (.app (.v 6) (.v 9)) .nil)) .nil) .nil))))) (.cons (.set 0 (.n 3) (.tup .nil)) (.cons (.forr (.t (.cons (.n 14) (.cons (.n 9) .nil))) (.enm (.v 1)) (.cons (.iff (.cmp .nin (.v 14) (.v 6)) (.cons (.set 0 (.n 3) (.bin .add (.v 3) (.tup (.cons (.tup (.cons (.v 14) (.cons (.ix (.call 53 (.cons (.v 0) (.cons (.v 9) .nil))) (.c (.int 1))) .nil))) .nil)))) .nil) .nil) .nil)) (.cons (.rt (.tup (.cons (.bi .tuple (.cons (.v 5) .nil)) (.cons (.v 3) .nil)))) .nil)))))⟩
def di_law_story : DI := ⟨"_law_story", 56, fd_law_story, ["belt", "plates", "n"], ["belt", "plates", "n", "thrown", "waiting", "had", "gone", "minute", "guest", "plate", "a", "b", "last", "free", "number", "seat", "wants", "pause", "most"], 53⟩
def fd_law_minutes : FD := ⟨3, 19, (.cons (.set 3 (.t (.cons (.n 4) (.cons (.n 5) (.cons (.n 6) .nil)))) (.tup (.cons (.new (.bin .mul (.lst (.cons (.tup .nil) .nil)) (.bi .len (.cons (.ix (.v 0) (.c (.int 0))) .nil)))) (.cons (.new (.lst .nil)) (.cons (.new (.bin .mul (.lst (.cons (.c (.int 0)) .nil)) (.bi .len (.cons (.v 1) .nil)))) .nil))))) (.cons (.forr (.n 3) (.rng1 (.bin .add (.c (.int 310)) (.bin .mul (.c (.int 4)) (.v 2)))) (.cons (.forr (.t (.cons (.n 7) (.cons (.t (.cons (.n 11) (.cons (.n 12) (.cons (.n 13) .nil)))) .nil))) (.enm (.v 1)) (.cons (.set 0 (.n 8) (.bin .mod (.bin .sub (.bin .add (.call 22 (.cons (.v 12) (.cons (.v 2) .nil))) (.v 3)) (.v 11)) (.v 2))) (.cons (.iff (.and (.cmp .gt (.v 3) (.v 11)) (.and (.cmp .eq (.v 8) (.c (.int 0))) (.cmp .nin (.v 7) (.v 5)))) (.cons (.seti (.v 6) (.v 7) (.bin .add (.ix (.v 6) (.v 7)) (.c (.int 1)))) (.cons (.set 0 (.n 5) (.new (.bin .add (.v 5) (.ite (.cmp .eq (.ix (.v 6) (.v 7)) (.ix (.v 0) (.c (.int 1)))) (.lst (.cons (.v 7) .nil)) (.lst .nil))))) .nil)) .nil) .nil))) (.cons (.forr (.t (.cons (.n 9) (.cons (.t (.cons (.n 14) (.cons (.n 15) (.cons (.n 16) (.cons (.n 17) .nil))))) .nil))) (.enm (.ix (.v 0) (.c (.int 0)))) (.cons (.set 0 (.n 10) (.cmp .lt (.bi .len (.cons (.ix (.v 4) (.v 9)) .nil)) (.v 17))) (.cons (.iff (.and (.cmp .ne (.ix (.v 4) (.v 9)) (.tup .nil)) (.cmp .lt (.bin .sub (.v 3) (.ix (.ix (.ix (.v 4) (.v 9)) (.neg (.c (.int 1)))) (.c (.int 1)))) (.v 16))) (.cons (.set 0 (.n 10) (.c (.bl false))) .nil) .nil) (.cons (.forr (.t (.cons (.n 7) (.cons (.t (.cons (.n 11) (.cons (.n 12) (.cons (.n 13) .nil)))) .nil))) (.enm (.v 1)) (.cons (.set 0 (.n 8) (.bin .mod (.bin .sub (.bin .add (.call 22 (.cons (.v 12) (.cons (.v 2) .nil))) (.v 3)) (.v 11)) (.v 2))) (.cons (.set 0 (.n 18) (.and (.cmp .ge (.v 3) (.v 11)) (.cmp .nin (.v 7) (.v 5)))) (.cons (.set 0 (.n 18) (.and (.v 18) (.cmp .eq (.v 8) (.call 22 (.cons (.v 14) (.cons (.v 2) .nil)))))) (.cons (.iff (.and (.v 10) (.and (.v 18) (.cmp .inn (.v 13) (.v 15)))) (.cons (.seti (.v 4) (.v 9) (.bin .add (.ix (.v 4) (.v 9)) (.tup (.cons (.tup (.cons (.v 7) (.cons (.v 3) .nil))) .nil)))) (.cons (.set 0 (.n 10) (.c (.bl false))) (.cons (.app (.v 5) (.v 7)) .nil))) .nil) .nil))))) .nil)))) .nil))) (.cons (.rt (.bi .tuple (.cons (.v 4) .nil))) .nil)))⟩
def di_law_minutes : DI := ⟨"_law_minutes", 57, fd_law_minutes, ["belt", "plates", "n"], ["belt", "plates", "n", "minute", "taken", "gone", "rounds", "number", "here", "guest", "free", "when", "place", "kind", "seat", "wants", "pause", "most", "good"], 54⟩
def fd_law : FD := ⟨1, 15, (.cons (.forr (.n 1) (.rng1 (.bin .add (.c (.int 1)) (.bi .min2 (.cons (.bi .len (.cons (.v 0) .nil)) (.cons (.c (.int 10)) .nil))))) (.cons (.set 0 (.n 2) (.call 16 (.cons (.v 0) (.cons (.v 1) .nil)))) (.cons (.forr (.n 3) (.rng1 (.c (.int 4))) (.cons (.set 2 (.t (.cons (.n 12) (.cons (.n 6) .nil))) (.tup (.cons (.call 20 (.cons (.v 2) .nil)) (.cons (.call 21 (.cons (.v 2) (.cons (.c (.int 4)) .nil))) .nil)))) (.cons (.set 0 (.n 4) (.bin .add (.c (.int 10)) (.call 17 (.cons (.v 2) (.cons (.call 18 (.cons (.v 2) (.cons (.lst (.cons (.c (.int 4)) (.cons (.c (.int 30)) (.cons (.c (.int 300)) (.cons (.bin .sub (.bin .pow (.c (.int 10)) (.c (.int 30))) (.c (.int 9))) .nil))))) .nil))) .nil))))) (.cons (.set 0 (.n 9) (.call 56 (.cons (.v 12) (.cons (.v 6) (.cons (.v 4) .nil))))) (.cons (.iff (.cmp .ne (.call 47 (.cons (.v 12) (.cons (.v 6) (.cons (.v 4) .nil)))) (.v 9)) (.cons (.rt (.c (.bl false))) .nil) .nil) (.cons (.set 0 (.n 10) (.tup .nil)) (.cons (.forr (.n 11) (.ov (.ix (.v 9) (.c (.int 0)))) (.cons (.set 1 (.n 13) (.comp (.tup (.cons (.ix (.v 14) (.c (.int 0))) (.cons (.call 50 (.cons (.ix (.v 14) (.c (.int 1))) (.cons (.v 4) .nil))) .nil))) (.n 14) (.ov (.v 11)) (.c (.bl true)) [14])) (.cons (.set 0 (.n 10) (.bin .add (.v 10) (.tup (.cons (.bi .tuple (.cons (.v 13) .nil)) .nil)))) .nil))) (.cons (.iff (.cmp .ne (.call 48 (.cons (.v 12) (.cons (.v 6) (.cons (.v 4) .nil)))) (.v 10)) (.cons (.rt (.c (.bl false))) .nil) .nil) .nil)))))))) (.cons (.set 0 (.n 4) (.bin .add (.c (.int 10)) (.call 17 (.cons (.v 2) (.cons (.c (.int 12)) .nil))))) (.cons (.iff (.cmp .ne (.call 48 (.cons (.v 12) (.cons (.v 6) (.cons (.v 4) .nil)))) (.call 57 (.cons (.v 12) (.cons (.v 6) (.cons (.v 4) .nil))))) (.cons (.rt (.c (.bl false))) .nil) .nil) .nil))))) (.cons (.set 0 (.t (.cons (.n 5) (.cons (.n 6) .nil))) (.tup (.cons (.tup (.cons (.tup (.cons (.c (.str "b")) (.cons (.c (.int 2)) .nil))) (.cons (.c (.str "r")) (.cons (.c (.int 5)) (.cons (.c (.int 2)) .nil))))) (.cons (.tup (.cons (.tup (.cons (.c (.int 0)) (.cons (.tup (.cons (.c (.str "b")) (.cons (.c (.int 0)) .nil))) (.cons (.c (.str "r")) .nil)))) (.cons (.tup (.cons (.c (.int 1)) (.cons (.tup (.cons (.c (.str "b")) (.cons (.c (.int 0)) .nil))) (.cons (.c (.str "r")) .nil)))) .nil))) .nil)))) (.cons (.iff (.cmp .ne (.call 47 (.cons (.tup (.cons (.tup (.cons (.v 5) .nil)) (.cons (.c (.int 1)) .nil))) (.cons (.v 6) (.cons (.c (.int 10)) .nil)))) (.tup (.cons (.tup (.cons (.tup (.cons (.tup (.cons (.c (.int 0)) (.cons (.tup (.cons (.c (.int 0)) (.cons (.c (.int 2)) .nil))) .nil))) .nil)) .nil)) (.cons (.tup (.cons (.tup (.cons (.c (.int 1)) (.cons (.tup (.cons (.c (.int 1)) (.cons (.c (.int 1)) .nil))) .nil))) .nil)) .nil)))) (.cons (.rt (.c (.bl false))) .nil) .nil) (.cons (.set 2 (.t (.cons (.n 7) (.cons (.n 8) .nil))) (.tup (.cons (.tup (.cons (.v 5) (.cons (.tup (.cons (.tup (.cons (.c (.str "t")) (.cons (.c (.int 1)) .nil))) (.cons (.c (.str "gr")) (.cons (.c (.int 12)) (.cons (.c (.int 4)) .nil))))) .nil))) (.cons (.bin .add (.v 6) (.tup (.cons (.tup (.cons (.c (.int 4)) (.cons (.tup (.cons (.c (.str "b")) (.cons (.c (.int 3)) .nil))) (.cons (.c (.str "g")) .nil)))) .nil))) .nil)))) (.cons (.iff (.cmp .ne (.call 48 (.cons (.tup (.cons (.v 7) (.cons (.c (.int 2)) .nil))) (.cons (.v 8) (.cons (.c (.int 10)) .nil)))) (.tup (.cons (.tup (.cons (.tup (.cons (.c (.int 0)) (.cons (.c (.int 2)) .nil))) .nil)) (.cons (.tup (.cons (.tup (.cons (.c (.int 1)) (.cons (.c (.int 10)) .nil))) .nil)) .nil)))) (.cons (.rt (.c (.bl false))) .nil) .nil) (.cons (.rt (.cmp .eq (.call 48 (.cons (.tup (.cons (.v 7) (.cons (.c (.int 2)) .nil))) (.cons (.v 8) (.cons (.c (.int 12)) .nil)))) (.tup (.cons (.tup (.cons (.tup (.cons (.c (.int 0)) (.cons (.c (.int 2)) .nil))) .nil)) (.cons (.tup (.cons (.tup (.cons (.c (.int 1)) (.cons (.c (.int 12)) .nil))) (.cons (.tup (.cons (.c (.int 2)) (.cons (.c (.int 24)) .nil))) .nil))) .nil))))) .nil))))))⟩
def di_law : DI := ⟨"law", 58, fd_law, ["script"], ["script", "k", "source", "turn", "n", "guest", "plates", "both", "longer", "told", "due", "some", "belt", "row", "one"], 55⟩
def gp (x : Str) (g : G) : Str × G := (x, g)
def gt : List (Str × G) := [gp "is_number" (.fn 0 3), gp "is_tuple" (.fn 1 3), gp "is_kind" (.fn 2 1), gp "is_place" (.fn 3 1), gp "are_wants" (.fn 4 1), gp "is_good_guest" (.fn 5 1), gp "is_good_belt" (.fn 6 1), gp "is_good_plate" (.fn 7 1), gp "are_good_plates" (.fn 8 1), gp "place_form" (.fn 9 1), gp "worth" (.fn 10 2), gp "added" (.fn 33 2), gp "less" (.fn 34 2), gp "sign_of" (.fn 35 2), gp "further" (.fn 36 2), gp "need_belt" (.fn 37 1), gp "need_plates" (.fn 38 1), gp "need_order" (.fn 39 2), gp "need_n" (.fn 11 1), gp "off_form" (.fn 40 2), gp "comings_of" (.fn 41 2), gp "in_order" (.fn 42 2), gp "can_take" (.fn 43 4), gp "meals_of" (.fn 44 3), gp "story_of" (.fn 45 3), gp "minutes_of" (.fn 46 3), gp "story" (.fn 47 3), gp "meals" (.fn 48 3), gp "_law_source" (.fn 16 2), gp "_law_draw" (.fn 17 2), gp "_law_of" (.fn 18 2), gp "_law_place" (.fn 19 1), gp "_law_belt" (.fn 20 1), gp "_law_plates" (.fn 21 2), gp "_law_at" (.fn 22 2), gp "_law_form" (.fn 49 1), gp "_law_worth" (.fn 50 2), gp "_law_plus" (.fn 51 3), gp "_law_far" (.fn 52 2), gp "_law_passes" (.fn 53 2), gp "_law_comings" (.fn 54 2), gp "_law_lined" (.fn 55 2), gp "_law_story" (.fn 56 3), gp "_law_minutes" (.fn 57 3), gp "law" (.fn 58 1), gp "isinstance" .blt, gp "int" .blt, gp "bool" .blt, gp "str" .blt, gp "tuple" .blt, gp "len" .blt, gp "all" .blt, gp "zip" .blt, gp "range" .blt, gp "enumerate" .blt, gp "sorted" .blt, gp "min" .blt, gp "abs" .blt, gp "ValueError" .blt, gp "KINDS" (.cst (.tup [(.str "g"), (.str "r"), (.str "y")])), gp "LEAST" (.cst (.int 10)), gp "MOST" (.cst (.int 1000000000000000000000000000000)), gp "InvalidBelt" (.cls 1), gp "InvalidPlates" (.cls 2), gp "InvalidNumber" (.cls 3)]
theorem ok_is_number : DI.ok top gt di_is_number = true := by kernel_rfl
theorem ok_is_tuple : DI.ok top gt di_is_tuple = true := by kernel_rfl
theorem ok_is_kind : DI.ok top gt di_is_kind = true := by kernel_rfl
theorem ok_is_place : DI.ok top gt di_is_place = true := by kernel_rfl
theorem ok_are_wants : DI.ok top gt di_are_wants = true := by kernel_rfl
theorem ok_is_good_guest : DI.ok top gt di_is_good_guest = true := by kernel_rfl
theorem ok_is_good_belt : DI.ok top gt di_is_good_belt = true := by kernel_rfl
theorem ok_is_good_plate : DI.ok top gt di_is_good_plate = true := by kernel_rfl
theorem ok_are_good_plates : DI.ok top gt di_are_good_plates = true := by kernel_rfl
theorem ok_place_form : DI.ok top gt di_place_form = true := by kernel_rfl
theorem ok_worth : DI.ok top gt di_worth = true := by kernel_rfl
theorem ok_added : DI.ok top gt di_added = true := by kernel_rfl
theorem ok_less : DI.ok top gt di_less = true := by kernel_rfl
theorem ok_sign_of : DI.ok top gt di_sign_of = true := by kernel_rfl
theorem ok_further : DI.ok top gt di_further = true := by kernel_rfl
theorem ok_need_belt : DI.ok top gt di_need_belt = true := by kernel_rfl
theorem ok_need_plates : DI.ok top gt di_need_plates = true := by kernel_rfl
theorem ok_need_order : DI.ok top gt di_need_order = true := by kernel_rfl
theorem ok_need_n : DI.ok top gt di_need_n = true := by kernel_rfl
theorem ok_off_form : DI.ok top gt di_off_form = true := by kernel_rfl
theorem ok_comings_of : DI.ok top gt di_comings_of = true := by kernel_rfl
theorem ok_in_order : DI.ok top gt di_in_order = true := by kernel_rfl
theorem ok_can_take : DI.ok top gt di_can_take = true := by kernel_rfl
theorem ok_meals_of : DI.ok top gt di_meals_of = true := by kernel_rfl
theorem ok_story_of : DI.ok top gt di_story_of = true := by kernel_rfl
theorem ok_minutes_of : DI.ok top gt di_minutes_of = true := by kernel_rfl
theorem ok_story : DI.ok top gt di_story = true := by kernel_rfl
theorem ok_meals : DI.ok top gt di_meals = true := by kernel_rfl
theorem ok_law_source : DI.ok top gt di_law_source = true := by kernel_rfl
theorem ok_law_draw : DI.ok top gt di_law_draw = true := by kernel_rfl
theorem ok_law_of : DI.ok top gt di_law_of = true := by kernel_rfl
theorem ok_law_place : DI.ok top gt di_law_place = true := by kernel_rfl
theorem ok_law_belt : DI.ok top gt di_law_belt = true := by kernel_rfl
theorem ok_law_plates : DI.ok top gt di_law_plates = true := by kernel_rfl
theorem ok_law_at : DI.ok top gt di_law_at = true := by kernel_rfl
theorem ok_law_form : DI.ok top gt di_law_form = true := by kernel_rfl
theorem ok_law_worth : DI.ok top gt di_law_worth = true := by kernel_rfl
theorem ok_law_plus : DI.ok top gt di_law_plus = true := by kernel_rfl
theorem ok_law_far : DI.ok top gt di_law_far = true := by kernel_rfl
theorem ok_law_passes : DI.ok top gt di_law_passes = true := by kernel_rfl
theorem ok_law_comings : DI.ok top gt di_law_comings = true := by kernel_rfl
theorem ok_law_lined : DI.ok top gt di_law_lined = true := by kernel_rfl
theorem ok_law_story : DI.ok top gt di_law_story = true := by kernel_rfl
theorem ok_law_minutes : DI.ok top gt di_law_minutes = true := by kernel_rfl
theorem ok_law : DI.ok top gt di_law = true := by kernel_rfl
def LL : List DI := [di_is_number, di_is_tuple, di_is_kind, di_is_place, di_are_wants, di_is_good_guest, di_is_good_belt, di_is_good_plate, di_are_good_plates, di_place_form, di_worth, di_added, di_less, di_sign_of, di_further, di_need_belt, di_need_plates, di_need_order, di_need_n, di_off_form, di_comings_of, di_in_order, di_can_take, di_meals_of, di_story_of, di_minutes_of, di_story, di_meals, di_law_source, di_law_draw, di_law_of, di_law_place, di_law_belt, di_law_plates, di_law_at, di_law_form, di_law_worth, di_law_plus, di_law_far, di_law_passes, di_law_comings, di_law_lined, di_law_story, di_law_minutes, di_law]
def fa : List He.Fa := [He.Fa.glo "is_number", He.Fa.glo "is_tuple", He.Fa.glo "is_kind", He.Fa.glo "is_place", He.Fa.glo "are_wants", He.Fa.glo "is_good_guest", He.Fa.glo "is_good_belt", He.Fa.glo "is_good_plate", He.Fa.glo "are_good_plates", He.Fa.glo "place_form", He.Fa.glo "worth", He.Fa.glo "added", He.Fa.glo "less", He.Fa.glo "sign_of", He.Fa.glo "further", He.Fa.glo "need_belt", He.Fa.glo "need_plates", He.Fa.glo "need_order", He.Fa.glo "need_n", He.Fa.glo "off_form", He.Fa.glo "comings_of", He.Fa.glo "in_order", He.Fa.glo "can_take", He.Fa.glo "meals_of", He.Fa.glo "story_of", He.Fa.glo "minutes_of", He.Fa.glo "story", He.Fa.glo "meals", He.Fa.glo "_law_source", He.Fa.glo "_law_draw", He.Fa.glo "_law_of", He.Fa.glo "_law_place", He.Fa.glo "_law_belt", He.Fa.glo "_law_plates", He.Fa.glo "_law_at", He.Fa.glo "_law_form", He.Fa.glo "_law_worth", He.Fa.glo "_law_plus", He.Fa.glo "_law_far", He.Fa.glo "_law_passes", He.Fa.glo "_law_comings", He.Fa.glo "_law_lined", He.Fa.glo "_law_story", He.Fa.glo "_law_minutes", He.Fa.glo "law", He.Fa.free "isinstance", He.Fa.free "int", He.Fa.free "bool", He.Fa.free "str", He.Fa.free "tuple", He.Fa.free "len", He.Fa.free "all", He.Fa.free "zip", He.Fa.free "range", He.Fa.free "enumerate", He.Fa.free "sorted", He.Fa.free "min", He.Fa.free "abs", He.Fa.free "ValueError", He.Fa.glo "KINDS", He.Fa.int "LEAST" 10, He.Fa.int "MOST" 1000000000000000000000000000000, He.Fa.glo "InvalidBelt", He.Fa.exc "InvalidBelt", He.Fa.glo "InvalidPlates", He.Fa.exc "InvalidPlates", He.Fa.glo "InvalidNumber", He.Fa.exc "InvalidNumber"]
def tups : List (Str × List D) := [("KINDS", [D.str "g", D.str "r", D.str "y"])]
def cn (c : Nat) : Str := match c with
  | 1 => "InvalidBelt"
  | 2 => "InvalidPlates"
  | 3 => "InvalidNumber"
  | _ => ""
def loose0 : List Str := ["BeltError", "InvalidBelt", "InvalidPlates", "InvalidNumber", "KINDS", "LEAST", "MOST", "is_number", "is_tuple", "is_kind", "is_place", "are_wants", "is_good_guest", "is_good_belt", "is_good_plate", "are_good_plates", "place_form", "worth", "added", "less", "sign_of", "further", "need_belt", "need_plates", "need_order", "need_n", "off_form", "comings_of", "in_order", "can_take"]
def loose1 : List Str := ["meals_of", "story_of", "minutes_of", "story", "meals", "_law_source", "_law_draw", "_law_of", "_law_place", "_law_belt", "_law_plates", "_law_at", "_law_form", "_law_worth", "_law_plus", "_law_far", "_law_passes", "_law_comings", "_law_lined", "_law_story", "_law_minutes"]
def looseAll : List Str := loose0 ++ loose1
def law0 : Law := { top := top, gt := gt, L := LL, fa := fa, tups := tups, cn := cn, F := FT, W := 100000, sub := subT, cf := fun _ => "" }
theorem gt_ok : gt.all (gOk LL fa tups cn) = true := by kernel_rfl
theorem glo_ok : LL.all (fun d => faHas fa (.glo d.x)) = true := by kernel_rfl
theorem bnd_is_number : di_is_number.Bnd top := fun _ _ _ _ _ _ us hl => match us, hl with | [_, _, _], _ => rfl
theorem bnd_is_tuple : di_is_tuple.Bnd top := fun _ _ _ _ _ _ us hl => match us, hl with | [_, _, _], _ => rfl
theorem bnd_is_kind : di_is_kind.Bnd top := fun _ _ _ _ _ _ us hl => match us, hl with | [_], _ => rfl
theorem bnd_is_place : di_is_place.Bnd top := fun _ _ _ _ _ _ us hl => match us, hl with | [_], _ => rfl
theorem bnd_are_wants : di_are_wants.Bnd top := fun _ _ _ _ _ _ us hl => match us, hl with | [_], _ => rfl
theorem bnd_is_good_guest : di_is_good_guest.Bnd top := fun _ _ _ _ _ _ us hl => match us, hl with | [_], _ => rfl
theorem bnd_is_good_belt : di_is_good_belt.Bnd top := fun _ _ _ _ _ _ us hl => match us, hl with | [_], _ => rfl
theorem bnd_is_good_plate : di_is_good_plate.Bnd top := fun _ _ _ _ _ _ us hl => match us, hl with | [_], _ => rfl
theorem bnd_are_good_plates : di_are_good_plates.Bnd top := fun _ _ _ _ _ _ us hl => match us, hl with | [_], _ => rfl
theorem bnd_place_form : di_place_form.Bnd top := fun _ _ _ _ _ _ us hl => match us, hl with | [_], _ => rfl
theorem bnd_worth : di_worth.Bnd top := fun _ _ _ _ _ _ us hl => match us, hl with | [_, _], _ => rfl
theorem bnd_added : di_added.Bnd top := fun _ _ _ _ _ _ us hl => match us, hl with | [_, _], _ => rfl
theorem bnd_less : di_less.Bnd top := fun _ _ _ _ _ _ us hl => match us, hl with | [_, _], _ => rfl
theorem bnd_sign_of : di_sign_of.Bnd top := fun _ _ _ _ _ _ us hl => match us, hl with | [_, _], _ => rfl
theorem bnd_further : di_further.Bnd top := fun _ _ _ _ _ _ us hl => match us, hl with | [_, _], _ => rfl
theorem bnd_need_belt : di_need_belt.Bnd top := fun _ _ _ _ _ _ us hl => match us, hl with | [_], _ => rfl
theorem bnd_need_plates : di_need_plates.Bnd top := fun _ _ _ _ _ _ us hl => match us, hl with | [_], _ => rfl
theorem bnd_need_order : di_need_order.Bnd top := fun _ _ _ _ _ _ us hl => match us, hl with | [_, _], _ => rfl
theorem bnd_need_n : di_need_n.Bnd top := fun _ _ _ _ _ _ us hl => match us, hl with | [_], _ => rfl
theorem bnd_off_form : di_off_form.Bnd top := fun _ _ _ _ _ _ us hl => match us, hl with | [_, _], _ => rfl
theorem bnd_comings_of : di_comings_of.Bnd top := fun _ _ _ _ _ _ us hl => match us, hl with | [_, _], _ => rfl
theorem bnd_in_order : di_in_order.Bnd top := fun _ _ _ _ _ _ us hl => match us, hl with | [_, _], _ => rfl
theorem bnd_can_take : di_can_take.Bnd top := fun _ _ _ _ _ _ us hl => match us, hl with | [_, _, _, _], _ => rfl
theorem bnd_meals_of : di_meals_of.Bnd top := fun _ _ _ _ _ _ us hl => match us, hl with | [_, _, _], _ => rfl
theorem bnd_story_of : di_story_of.Bnd top := fun _ _ _ _ _ _ us hl => match us, hl with | [_, _, _], _ => rfl
theorem bnd_minutes_of : di_minutes_of.Bnd top := fun _ _ _ _ _ _ us hl => match us, hl with | [_, _, _], _ => rfl
theorem bnd_story : di_story.Bnd top := fun _ _ _ _ _ _ us hl => match us, hl with | [_, _, _], _ => rfl
theorem bnd_meals : di_meals.Bnd top := fun _ _ _ _ _ _ us hl => match us, hl with | [_, _, _], _ => rfl
theorem bnd_law_source : di_law_source.Bnd top := fun _ _ _ _ _ _ us hl => match us, hl with | [_, _], _ => rfl
theorem bnd_law_draw : di_law_draw.Bnd top := fun _ _ _ _ _ _ us hl => match us, hl with | [_, _], _ => rfl
theorem bnd_law_of : di_law_of.Bnd top := fun _ _ _ _ _ _ us hl => match us, hl with | [_, _], _ => rfl
theorem bnd_law_place : di_law_place.Bnd top := fun _ _ _ _ _ _ us hl => match us, hl with | [_], _ => rfl
theorem bnd_law_belt : di_law_belt.Bnd top := fun _ _ _ _ _ _ us hl => match us, hl with | [_], _ => rfl
theorem bnd_law_plates : di_law_plates.Bnd top := fun _ _ _ _ _ _ us hl => match us, hl with | [_, _], _ => rfl
theorem bnd_law_at : di_law_at.Bnd top := fun _ _ _ _ _ _ us hl => match us, hl with | [_, _], _ => rfl
theorem bnd_law_form : di_law_form.Bnd top := fun _ _ _ _ _ _ us hl => match us, hl with | [_], _ => rfl
theorem bnd_law_worth : di_law_worth.Bnd top := fun _ _ _ _ _ _ us hl => match us, hl with | [_, _], _ => rfl
theorem bnd_law_plus : di_law_plus.Bnd top := fun _ _ _ _ _ _ us hl => match us, hl with | [_, _, _], _ => rfl
theorem bnd_law_far : di_law_far.Bnd top := fun _ _ _ _ _ _ us hl => match us, hl with | [_, _], _ => rfl
theorem bnd_law_passes : di_law_passes.Bnd top := fun _ _ _ _ _ _ us hl => match us, hl with | [_, _], _ => rfl
theorem bnd_law_comings : di_law_comings.Bnd top := fun _ _ _ _ _ _ us hl => match us, hl with | [_, _], _ => rfl
theorem bnd_law_lined : di_law_lined.Bnd top := fun _ _ _ _ _ _ us hl => match us, hl with | [_, _], _ => rfl
theorem bnd_law_story : di_law_story.Bnd top := fun _ _ _ _ _ _ us hl => match us, hl with | [_, _, _], _ => rfl
theorem bnd_law_minutes : di_law_minutes.Bnd top := fun _ _ _ _ _ _ us hl => match us, hl with | [_, _, _], _ => rfl
theorem bnd_law : di_law.Bnd top := fun _ _ _ _ _ _ us hl => match us, hl with | [_], _ => rfl
theorem law_ok : law0.Ok where
  defs := by
    show LL.all (DI.ok top gt) = true
    simp only [LL, List.all_cons, List.all_nil, ok_is_number, ok_is_tuple, ok_is_kind, ok_is_place, ok_are_wants, ok_is_good_guest, ok_is_good_belt, ok_is_good_plate, ok_are_good_plates, ok_place_form, ok_worth, ok_added, ok_less, ok_sign_of, ok_further, ok_need_belt, ok_need_plates, ok_need_order, ok_need_n, ok_off_form, ok_comings_of, ok_in_order, ok_can_take, ok_meals_of, ok_story_of, ok_minutes_of, ok_story, ok_meals, ok_law_source, ok_law_draw, ok_law_of, ok_law_place, ok_law_belt, ok_law_plates, ok_law_at, ok_law_form, ok_law_worth, ok_law_plus, ok_law_far, ok_law_passes, ok_law_comings, ok_law_lined, ok_law_story, ok_law_minutes, ok_law, Bool.and_self, Bool.and_true]
  gts := gt_ok
  glo := glo_ok
  bnd := by
    show ∀ d ∈ LL, d.Bnd top
    simp only [LL, List.forall_mem_cons]
    exact ⟨bnd_is_number, bnd_is_tuple, bnd_is_kind, bnd_is_place, bnd_are_wants, bnd_is_good_guest, bnd_is_good_belt, bnd_is_good_plate, bnd_are_good_plates, bnd_place_form, bnd_worth, bnd_added, bnd_less, bnd_sign_of, bnd_further, bnd_need_belt, bnd_need_plates, bnd_need_order, bnd_need_n, bnd_off_form, bnd_comings_of, bnd_in_order, bnd_can_take, bnd_meals_of, bnd_story_of, bnd_minutes_of, bnd_story, bnd_meals, bnd_law_source, bnd_law_draw, bnd_law_of, bnd_law_place, bnd_law_belt, bnd_law_plates, bnd_law_at, bnd_law_form, bnd_law_worth, bnd_law_plus, bnd_law_far, bnd_law_passes, bnd_law_comings, bnd_law_lined, bnd_law_story, bnd_law_minutes, bnd_law, fun d h => by simp at h⟩
  F := by
    show ∀ d ∈ LL, FT d.id = some d.fd
    simp only [LL, List.forall_mem_cons]
    exact ⟨rfl, rfl, rfl, rfl, rfl, rfl, rfl, rfl, rfl, rfl, rfl, rfl, rfl, rfl, rfl, rfl, rfl, rfl, rfl, rfl, rfl, rfl, rfl, rfl, rfl, rfl, rfl, rfl, rfl, rfl, rfl, rfl, rfl, rfl, rfl, rfl, rfl, rfl, rfl, rfl, rfl, rfl, rfl, rfl, rfl, fun d h => by simp at h⟩
abbrev Rr : PySem.W.OpenRow := PySem.W.OpenLaw.row PySem.Challenge.rw_anybelt_k02_stories_with_told_lengths
abbrev hk : PySem.W.Hook := He.hookX 4 fa (LL.map (DI.dfd top)) [] [] (exT tups)
def ob (s : PySem.W.SharedT) : He.AlX := He.obsX 4 fa (LL.map (DI.dfd top)) [] [] (exT tups) (HandSHeadRun.getT s)
theorem ob_eq (s : PySem.W.SharedT) : ob s = hk.obs s.abs := He.obsX_eq (HandSHeadRun.getT_eq s)
section
open PySem PySem.W PySem.Calls HandSHeadRun
theorem hr1 (w : World) (os : OsState) : (endF (stepQ (denQ tabQ) Rr.prog w) 6000 Rr.prog w os).map (fun s : SharedT => looksF Rr.prog (boot_heap w.params) s.abs) = some true := by kernel_rfl
theorem hr2 (w : World) (os : OsState) : (endF (stepQ (denQ tabQ) Rr.prog w) 6000 Rr.prog w os).map (fun s : SharedT => seenQ (PySem.W.view Rr.prog [55]) looseAll (importedModules Rr.prog.main.body) (fun s => xlAt (PySem.W.view Rr.prog [55]) [] s && recOk Rr.toRowW.records s) s.abs) = some (openGood (PySem.W.view Rr.prog [55]) looseAll) := by kernel_rfl
theorem hr3 (w : World) (os : OsState) : (endF (stepQ (denQ tabQ) Rr.prog w) 6000 Rr.prog w os).map ob = some (hk.val w) := by kernel_rfl
theorem map3 {α β γ δ : Type} (o : Option α) (f : α → β) (g : α → γ) (h : α → δ) {x : β} {y : γ} {z : δ} (a : o.map f = some x) (b : o.map g = some y) (c : o.map h = some z) : o.map (fun s => (f s, g s, h s)) = some (x, y, z) := by
  cases o with
  | none => cases a
  | some s =>
    simp only [Option.map_some, Option.some.injEq] at a b c ⊢
    rw [a, b, c]
theorem hrun (w : World) : HandSHeadRun.RunEq Rr (PySem.W.view Rr.prog [55]) hk ob 6000 looseAll w := fun os => map3 _ (fun s : SharedT => looksF Rr.prog (boot_heap w.params) s.abs) (fun s : SharedT => seenQ (PySem.W.view Rr.prog [55]) looseAll (importedModules Rr.prog.main.body) (fun s => xlAt (PySem.W.view Rr.prog [55]) [] s && recOk Rr.toRowW.records s) s.abs) ob (hr1 w os) (hr2 w os) (hr3 w os)
end
theorem math : ∀ ns : List Int, ns.length ≤ 63 → ∃ st, run law0.F law0.W law0.sub 100 di_law.id [.ref 0] [.scr ns] = .ok (.bl true) st := by
  exact fun ns _ => AB.run02 ns
end AnyL0
open PySem PySem.W PySem.Calls PyProof.Rows
theorem PySem.Challenge.cw_anybelt_k02_stories_with_told_lengths_holds : PySem.Challenge.rw_anybelt_k02_stories_with_told_lengths.Holds := by
  w_on; o_law
  refine HandSHeadRun.head_any (r := OpenLaw.row PySem.Challenge.rw_anybelt_k02_stories_with_told_lengths) (q := view (OpenLaw.row PySem.Challenge.rw_anybelt_k02_stories_with_told_lengths).prog [55]) (H := AnyL0.hk) (ob := AnyL0.ob) (M := 6000) (loose := AnyL0.looseAll) (d := HandSHeadRun.topDef (OpenLaw.row PySem.Challenge.rw_anybelt_k02_stories_with_told_lengths).prog 55) (kwd := []) AnyL0.ob_eq
    (by kernel_rfl) (fun s => by kernel_rfl) AnyL0.hrun (by kernel_rfl) (by kernel_rfl) (by kernel_rfl) (by rfl) (by first | assumption | decide +kernel) (by decide +kernel) ⟨rfl, rfl, rfl, rfl, rfl, by decide +kernel⟩ ?hw ?hc
  case hw => w_witness2
  case hc =>
    refine L2.walk_ofE (l := PySem.Challenge.rw_anybelt_k02_stories_with_told_lengths) (n := 63) (k := 100) (x := "script") (CX := L2.CX0) rfl (by decide) (by kernel_rfl) ⟨rfl, by decide, by decide⟩ ?F (fun _ _ _ _ z => z)
    intro w mg fa h Y G hmg0
    have hmg : mg ("law" : PySem.Str) = some (.ref fa) := by
      have e : (HandSHeadRun.topDef (OpenLaw.row PySem.Challenge.rw_anybelt_k02_stories_with_told_lengths).prog 55).name = ("law" : PySem.Str) := by kernel_rfl
      rw [← e]
      exact hmg0
    exact AB.Law.ends AnyL0.law_ok (d := AnyL0.di_law) (by simp [AnyL0.law0, AnyL0.LL]) rfl rfl AnyL0.math Y G hmg

