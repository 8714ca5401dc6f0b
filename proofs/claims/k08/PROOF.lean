import PyProof.Rows.All
import Wide.All
import OpenK.AllK
import Wide.FinOn
import HandS.ForMost
import HandS.ExcOwn
import HandS.TryMany
import HandS.TryOnly
import HandS.AnyAll
import HandS.Deep
import HandS.Style
import HandS.TupAny
import HandS.TupLe
import HandS.NoneIn
import HandS.Conv
import KE.LtData
import KE.SortCalls
import KE.SortData
import KE.KDictKeyed
import HandS.TupMul
import HandS.IsInst
import HandS.Rev
import KE.KDictList
import KE.GoesZip
import KE.GoesEnum
import KE.GoesMore
import HandS.Star
import HandS.GenList
import HandS.WordsExc
import HandS.EndTab
import HandS.HeadEnd
import HandS.HeadWalk
import HandS.HeadHook4
import HandS.HeadNt
import HandS.Head2
import PySem.Challenge.RW_slideclear_k08_whole_room_counted_by_pie
set_option Elab.async false
set_option linter.all false
set_option maxRecDepth 100000
/-! A core language for plain Python defs: values are data (PyData), slots own their mutable lists and dicts; its evaluator. -/
namespace Mi
open PySem

abbrev D := PyData
inductive BOp | add | sub | mul | mod | fdiv | pow
  deriving DecidableEq
inductive COp | eq | ne | lt | le | gt | ge | is_ | isn | isin | notin
  deriving DecidableEq
inductive Ty | tuple | list | int | bool | str | dict
  deriving DecidableEq
/-- built-ins that only read -/
inductive Bi | len | tuple | list | sorted | sum | min1 | max1 | min2 | max2 | abs | int | dictKeys | listRev | str
  deriving DecidableEq
/-- methods that change the list or dict that a slot owns -/
inductive Mth | append | extend | pop | insert | popAt
  deriving DecidableEq
/-- methods that only read -/
inductive Vm | items | values | get | getOr | index | count | join | split | partition
  deriving DecidableEq
/-- targets -/
inductive Pt | nm (i : Nat) | tp (ps : List Pt)

/-- operations that read the values of their operands -/
inductive Op | bin (o : BOp) | neg | not | tru | asInt | idx | sl | rev | isi (ts : List Ty) | cmp (o : COp) | bi (b : Bi)

mutual
inductive E
  | var (i : Nat)
  | con (d : D)
  | tup (as : As)
  | lst (as : As)
  | op (o : Op) (as : As)
  | chain (o o' : COp) (a b c : E)
  | and (a b : E)
  | or (a b : E)
  | ite (c a b : E)
  | call (f : Nat) (as : As)
  | mth (m : Mth) (i : Nat) (as : As)
  | lc (own : List Nat) (p : Pt) (it : It) (t e : E)
  | lc2 (own : List Nat) (p : Pt) (it : It) (t : E) (p1 : Pt) (it1 : It) (t1 e : E)
  | gen (any : Bool) (own : List Nat) (p : Pt) (it : It) (t e : E)
  | gen2 (any : Bool) (own : List Nat) (p : Pt) (it : It) (t : E) (p1 : Pt) (it1 : It) (t1 e : E)
inductive As
  | nil
  | cons (a : E) (r : As)
  | star (a : E) (r : As)
inductive It
  | val (e : E)
  | rng (as : As)
  | zip (as : As)
  | enu (e : E)
end

mutual
inductive S
  | set (i : Nat) (own : Bool) (e : E)
  | unp (p : Pt) (e : E)
  | par (is : List (Nat × Bool)) (as : As)
  | put (i : Nat) (k e : E)
  | expr (e : E)
  | ret (e : E)
  | retN
  | pass
  | brk
  | iff (c : E) (a b : Ss)
  | for (p : Pt) (it : It) (b : Ss)
  | whl (c : E) (b : Ss)
  | raise (c : Nat)
inductive Ss
  | nil
  | cons (s : S) (r : Ss)
end

/-- what an expression gives: a value that stays as it is; a new list or dict that nobody else holds; the list or dict that a slot owns -/
inductive R | v (d : D) | o (d : D) | s (i : Nat)
/-- how a slot holds its value: it stays as it is; it is its own; it is lent by the caller; the last two while a loop walks it -/
inductive Kd | fz | ow | io | lo | li
  deriving DecidableEq
def Kd.locked : Kd → Bool
  | .lo | .li => true
  | _ => false
def Kd.lock : Kd → Kd
  | .ow => .lo
  | .io => .li
  | k => k
def Kd.unlock : Kd → Kd
  | .lo => .ow
  | .li => .io
  | k => k
abbrev Slot := Option (D × Kd)
abbrev En := List Slot
inductive O (α : Type) | ok (a : α) (e : En) | ex (c : Nat) (e : En) | bad
namespace O
variable {α β : Type}
def bind (x : O α) (f : α → En → O β) : O β := match x with
  | .ok a e => f a e
  | .ex c e => .ex c e
  | .bad => .bad
@[simp] theorem bind_ok (a : α) (e : En) (f : α → En → O β) : (O.ok a e).bind f = f a e := rfl
@[simp] theorem bind_ex (c : Nat) (e : En) (f : α → En → O β) : (O.ex c e : O α).bind f = .ex c e := rfl
@[simp] theorem bind_bad (f : α → En → O β) : (O.bad : O α).bind f = .bad := rfl
theorem bind_assoc {γ : Type} (x : O α) (f : α → En → O β) (g : β → En → O γ) : (x.bind f).bind g = x.bind fun a e => (f a e).bind g := by
  cases x <;> rfl
/-- an option, at a state -/
def of (x : Option α) (e : En) : O α := match x with
  | some a => .ok a e
  | none => .bad
@[simp] theorem of_some (a : α) (e : En) : of (some a) e = .ok a e := rfl
@[simp] theorem of_none (e : En) : of (none : Option α) e = .bad := rfl
end O
inductive DO | ok (d : D) (own : Bool) (outs : List D) | ex (c : Nat) (outs : List D) | bad
structure Den where
  run : Nat → List (D × Bool) → DO
  mt : Nat → Nat → Bool
inductive Fl | nx | brk | ret (d : D) (own : Bool)

/-! ### values -/
mutual
def plain : D → Bool
  | .none | .bool _ | .int _ | .str _ => true
  | .list _ => false
  | .tuple xs => plains xs
  | .dict _ => false
def plains : List D → Bool
  | [] => true
  | x :: xs => plain x && plains xs
end
def rd (env : En) : R → Option D
  | .v d => some d
  | .o d => some d
  | .s i => match env[i]? with
    | some (some (d, _)) => some d
    | _ => none
def rds (env : En) : List R → Option (List D)
  | [] => some []
  | r :: rs => match rd env r, rds env rs with
    | some d, some ds => some (d :: ds)
    | _, _ => none
/-- a value to be kept elsewhere: what a slot owns moves out of it -/
def tk (env : En) : R → Option (D × En)
  | .v d => some (d, env)
  | .o d => some (d, env)
  | .s i => match env[i]? with
    | some (some (d, .ow)) => some (d, env.set i none)
    | _ => none
def tks (env : En) : List R → Option (List D × En)
  | [] => some ([], env)
  | r :: rs => match tk env r with
    | some (d, e1) => (match tks e1 rs with
      | some (ds, e2) => some (d :: ds, e2)
      | none => none)
    | none => none
def truO : D → Option Bool
  | .none => some false
  | .bool b => some b
  | .int i => some (i != 0)
  | .str x => if x.length ≤ sizeLine then some (x.length != 0) else none
  | .list xs => some (!xs.isEmpty)
  | .tuple xs => some (!xs.isEmpty)
  | .dict xs => some (!xs.isEmpty)
/-- lists and dicts that an operation makes are new -/
def newR : D → R
  | .list xs => .o (.list xs)
  | .dict xs => .o (.dict xs)
  | d => .v d
def mulOk (i j : Int) : Bool := decide (-(2 ^ 64) < i ∧ i < 2 ^ 64) || decide (-(2 ^ 64) < j ∧ j < 2 ^ 64)
def binO (o : BOp) (a b : D) : Option R := match o, a, b with
  | .add, .int i, .int j => some (.v (.int (i + j)))
  | .add, .str x, .str y => if x.length + y.length ≤ sizeLine then some (.v (.str (x ++ y))) else none
  | .add, .tuple xs, .tuple ys => if xs.length + ys.length ≤ sizeLine then some (.v (.tuple (xs ++ ys))) else none
  | .add, .list xs, .list ys => if xs.length + ys.length ≤ sizeLine then some (.o (.list (xs ++ ys))) else none
  | .sub, .int i, .int j => some (.v (.int (i - j)))
  | .mul, .int i, .int j => if mulOk i j then some (.v (.int (i * j))) else none
  | .mul, .tuple xs, .int j => if xs ≠ [] ∧ 2 ≤ j ∧ j ≤ 1000 ∧ xs.length ≤ 1000 then some (.v (.tuple (List.replicate j.toNat xs).flatten)) else none
  | .mod, .int i, .int j => if j ≠ 0 then some (.v (.int (i.fmod j))) else none
  | .fdiv, .int i, .int j => if j ≠ 0 ∧ j.natAbs < 1073741824 then some (.v (.int (i.fdiv j))) else none
  | .pow, .int i, .int j => if 0 ≤ j ∧ j ≤ 1000000 ∧ i.natAbs < 2 ^ 64 then some (.v (.int (i ^ j.toNat))) else none
  | _, _, _ => none
def ixO (a k : D) : Option D := match a, k with
  | .list xs, .int i => L2.atI xs i
  | .tuple xs, .int i => L2.atI xs i
  | _, _ => none
def opI : D → Option (Option Int)
  | .none => some none
  | .int i => some (some i)
  | _ => none
def cutL {α : Type} (xs : List α) (lo hi : Option Int) : List α := (xs.drop (HT.sIx xs.length 0 lo)).take (HT.sIx xs.length xs.length hi - HT.sIx xs.length 0 lo)
def slO' (a : D) (l h : Option Int) : Option R := match a with
  | .list xs => some (.o (.list (cutL xs l h)))
  | .tuple xs => some (.v (.tuple (cutL xs l h)))
  | .str x => if x.length ≤ sizeLine then some (.v (.str (L2.cutS x l h))) else none
  | _ => none
def slO (a lo hi : D) : Option R := match opI lo, opI hi with
  | some l, some h => slO' a l h
  | _, _ => none
def revO : D → Option R
  | .list xs => some (.o (.list xs.reverse))
  | .tuple xs => some (.v (.tuple xs.reverse))
  | _ => none
def isO : D → D → Option Bool
  | .none, .none => some true
  | .bool a, .bool b => some (a == b)
  | .bool _, .none => some false
  | .int _, .none | .str _, .none | .list _, .none | .tuple _, .none | .dict _, .none => some false
  | _, _ => none
def inO (a b : D) : Option Bool := match b with
  | .list xs => if SeqAt.shaped a ∧ SeqAt.shaped (.list xs) then some (xs.any fun x => PyData.eqv x a) else none
  | .tuple xs => if SeqAt.shaped a ∧ SeqAt.shaped (.tuple xs) then some (xs.any fun x => PyData.eqv x a) else none
  | _ => none
def isNon : D → Bool
  | .none => true
  | _ => false
def ltOk (a b : D) : Bool := W.alike a b && !isNon a && decide (a.depth ≤ 64)
def cmpO (o : COp) (a b : D) : Option Bool := match o with
  | .eq => if SeqAt.shaped a ∧ SeqAt.shaped b then some (PyData.eqv a b) else none
  | .ne => if SeqAt.shaped a ∧ SeqAt.shaped b then some (!PyData.eqv a b) else none
  | .lt => (match a, b with
    | .int i, .int j => some (decide (i < j))
    | a, b => if ltOk a b then some (W.dataLt a b) else none)
  | .le => (match a, b with
    | .int i, .int j => some (decide (i ≤ j))
    | _, _ => none)
  | .gt => (match a, b with
    | .int i, .int j => some (decide (j < i))
    | _, _ => none)
  | .ge => (match a, b with
    | .int i, .int j => some (decide (j ≤ i))
    | _, _ => none)
  | .is_ => isO a b
  | .isn => (isO a b).map (!·)
  | .isin => inO a b
  | .notin => (inO a b).map (!·)
def isTy : D → Ty → Bool
  | .tuple _, .tuple => true
  | .list _, .list => true
  | .int _, .int => true
  | .bool _, .int => true
  | .bool _, .bool => true
  | .str _, .str => true
  | .dict _, .dict => true
  | _, _ => false
def intsOf : List D → Option (List Int)
  | [] => some []
  | .int i :: r => (intsOf r).map (i :: ·)
  | _ => none
def tup1 : D → Bool
  | .tuple (_ :: _) => true
  | _ => false
def notTN : D → Bool
  | .none | .tuple _ => false
  | _ => true
/-- lists that sorted serves -/
def sortOk (xs : List D) : Bool := (xs.all fun a => xs.all fun b => W.alike a b) && (xs.all tup1 || xs.all notTN) && (xs.all fun d => decide (d.depth ≤ 64)) && decide (xs.length ≤ sizeLine)
mutual
/-- a key of a dict, as the model compares it -/
def nkOf : D → Option NestedKey
  | .none => some .none
  | .bool b => some (.num (if b = true then 1 else 0))
  | .int i => some (.num i)
  | .str x => some (.text x)
  | .tuple xs => (nkAll xs).map .tup
  | .list _ => none
  | .dict _ => none
def nkAll : List D → Option (List NestedKey)
  | [] => some []
  | x :: xs => (nkOf x).bind fun k => (nkAll xs).map fun ks => k :: ks
end
def isTup : D → Bool
  | .tuple _ => true
  | _ => false
/-- pairs with tuples as keys -/
def pairsK : List D → Option (List (NestedKey × D))
  | [] => some []
  | .tuple [k, _] :: r => (nkOf k).bind fun nk => if isTup k = true ∧ nk.depth ≤ 8 then (pairsK r).map fun ks => (nk, k) :: ks else none
  | _ :: _ => none
/-- the keys of the dict of such pairs -/
def keysAll (acc : List (NestedKey × D)) : List (NestedKey × D) → List (NestedKey × D)
  | [] => acc
  | x :: xs => keysAll (if (acc.find? fun y => decide (y.1 = x.1)).isSome then acc else acc ++ [x]) xs
def biO (b : Bi) (as : List D) : Option R := match b, as with
  | .len, [.list xs] => some (.v (.int xs.length))
  | .len, [.tuple xs] => some (.v (.int xs.length))
  | .len, [.str x] => if x.length ≤ sizeLine then some (.v (.int x.length)) else none
  | .tuple, [.list xs] => some (.v (.tuple xs))
  | .tuple, [.tuple xs] => some (.v (.tuple xs))
  | .list, [.list xs] => some (.o (.list xs))
  | .list, [.tuple xs] => some (.o (.list xs))
  | .listRev, [.list xs] => some (.o (.list xs.reverse))
  | .sorted, [.list xs] => if sortOk xs = true then some (.o (.list (xs.mergeSort (W.dataLe false id)))) else none
  | .dictKeys, [.list ps] => if ps.length ≤ sizeLine then (pairsK ps).map fun ks => .o (.list ((keysAll [] ks).map (·.2))) else none
  | .sum, [.list xs] => (intsOf xs).map fun is => .v (.int is.sum)
  | .min1, [.list xs] => (intsOf xs).bind fun is => is.min?.map fun m => .v (.int m)
  | .max1, [.list xs] => (intsOf xs).bind fun is => is.max?.map fun m => .v (.int m)
  | .min2, [.int i, .int j] => some (.v (.int (if j < i then j else i)))
  | .max2, [.int i, .int j] => some (.v (.int (if j > i then j else i)))
  | .abs, [.int i] => some (.v (.int (if i < 0 then -i else i)))
  | .int, [.int i] => some (.v (.int i))
  | .int, [.bool b] => some (.v (.int (if b then 1 else 0)))
  | _, _ => none
def opO (o : Op) (as : List D) : Option R := match o, as with
  | .bin o, [a, b] => binO o a b
  | .neg, [.int i] => some (.v (.int (-i)))
  | .not, [.bool b] => some (.v (.bool (!b)))
  | .tru, [d] => (truO d).map fun b => .v (.bool b)
  | .asInt, [.int i] => some (.v (.int i))
  | .idx, [a, k] => (ixO a k).map .v
  | .sl, [a, l, h] => slO a l h
  | .rev, [a] => revO a
  | .isi ts, [a] => some (.v (.bool (ts.any (isTy a))))
  | .cmp o, [a, b] => (cmpO o a b).map fun b => .v (.bool b)
  | .bi b, as => biO b as
  | _, _ => none
def itemsOf : D → Option (List D)
  | .list xs => some xs
  | .tuple xs => some xs
  | _ => none
mutual
def slotsP : Pt → List Nat
  | .nm i => [i]
  | .tp ps => slotsPs ps
def slotsPs : List Pt → List Nat
  | [] => []
  | p :: ps => slotsP p ++ slotsPs ps
end
mutual
def bindP : Pt → D → En → Option En
  | .nm i, d, env => if i < env.length then some (env.set i (some (d, .fz))) else none
  | .tp ps, d, env => match d with
    | .tuple xs => bindPs ps xs env
    | .list xs => bindPs ps xs env
    | _ => none
def bindPs : List Pt → List D → En → Option En
  | [], [], env => some env
  | p :: ps, d :: ds, env => (match bindP p d env with
    | some e1 => bindPs ps ds e1
    | none => none)
  | _, _, _ => none
end
/-- the slots among results that a loop walks are locked -/
def lockE : List R → En → En
  | [], env => env
  | .s i :: rs, env => (match env[i]? with
    | some (some (d, k)) => lockE rs (env.set i (some (d, k.lock)))
    | _ => lockE rs env)
  | _ :: rs, env => lockE rs env
/-- .. those that were not locked before -/
def fresh1 (env : En) : R → Option Nat
  | .s i => (match env[i]? with
    | some (some (_, .ow)) => some i
    | some (some (_, .io)) => some i
    | _ => none)
  | _ => none
def unlockE (is : List Nat) (env : En) : En := is.foldl (fun e i => match e[i]? with
  | some (some (d, k)) => e.set i (some (d, k.unlock))
  | _ => e) env
/-- the walked slots are locked -/
def lkd (env : En) (rs : List R) : Bool := rs.all fun r => match r with
  | .s i => (match env[i]? with
    | some (some (_, k)) => k.locked
    | _ => false)
  | _ => true
def O.unl {α : Type} (is : List Nat) : O α → O α
  | .ok a e => .ok a (unlockE is e)
  | .ex c e => .ex c (unlockE is e)
  | .bad => .bad
def zipD : List D → List D → List D
  | a :: as, b :: bs => .tuple [a, b] :: zipD as bs
  | _, _ => []
def zipD3 : List D → List D → List D → List D
  | a :: as, b :: bs, c :: cs => .tuple [a, b, c] :: zipD3 as bs cs
  | _, _, _ => []
def enuD (n : Nat) : List D → List D
  | [] => []
  | x :: xs => .tuple [.int n, x] :: enuD (n + 1) xs
def rngD (lo : Int) (n : Nat) : List D := (List.range n).map fun i => .int (lo + (i : Nat))
def rngOk (i : Int) : Prop := -(2 ^ 62) ≤ i ∧ i < 2 ^ 62
instance (i : Int) : Decidable (rngOk i) := inferInstanceAs (Decidable (_ ∧ _))
def rngO : List D → Option (List D)
  | [.int j] => if rngOk j then some (rngD 0 j.toNat) else none
  | [.int i, .int j] => if rngOk i ∧ rngOk j then some (rngD i (j - i).toNat) else none
  | _ => none
def zipO : List D → Option (List D)
  | [a, b] => (match itemsOf a, itemsOf b with
    | some xs, some ys => some (zipD xs ys)
    | _, _ => none)
  | [a, b, c] => (match itemsOf a, itemsOf b, itemsOf c with
    | some xs, some ys, some zs => some (zipD3 xs ys zs)
    | _, _, _ => none)
  | _ => none

/-! ### slots -/
/-- a slot takes a result -/
def setR (i : Nat) (own : Bool) (r : R) (env : En) : Option En :=
  if i < env.length then match r with
    | .v d => some (env.set i (some (d, .fz)))
    | .o d => some (env.set i (some (d, if own then .ow else .fz)))
    | .s j => (match env[j]? with
      | some (some (d, .ow)) => some ((env.set j none).set i (some (d, if own then .ow else .fz)))
      | _ => none)
  else none
/-- how a result is kept by a parallel store -/
def parK (r : R) (own : Bool) : Kd := match r with
  | .o _ => if own then .ow else .fz
  | _ => .fz
def setL : List Nat → List (D × Kd) → En → En
  | i :: is, x :: xs, env => setL is xs (env.set i (some x))
  | _, _, env => env
def parL : List (Nat × Bool) → List R → List D → List (D × Kd)
  | (_, o) :: is, r :: rs, d :: ds => (d, parK r o) :: parL is rs ds
  | _, _, _ => []
def setRs (is : List (Nat × Bool)) (rs : List R) (env : En) : Option En :=
  if is.length = rs.length ∧ (is.all fun i => decide (i.1 < env.length)) then (match tks env rs with
    | some (ds, e2) => some (setL (is.map (·.1)) (parL is rs ds) e2)
    | none => none) else none
def isS : R → Nat → Bool
  | .s j, i => j == i
  | _, _ => false
def mthO (m : Mth) (i : Nat) (as : List R) (env : En) : O R := match m, as with
  | .append, [r] => (match tk env r with
    | some (d, e1) => (match e1[i]? with
      | some (some (.list xs, .ow)) => if xs.length < sizeLine then .ok (.v .none) (e1.set i (some (.list (xs ++ [d]), .ow))) else .bad
      | some (some (.list xs, .io)) => if xs.length < sizeLine then .ok (.v .none) (e1.set i (some (.list (xs ++ [d]), .io))) else .bad
      | _ => .bad)
    | none => .bad)
  | .extend, [r] => (match rd env r, env[i]? with
    | some (.list ys), some (some (.list xs, k)) => if (k = .ow ∨ k = .io) ∧ xs.length + ys.length ≤ sizeLine ∧ isS r i = false then .ok (.v .none) (env.set i (some (.list (xs ++ ys), k))) else .bad
    | _, _ => .bad)
  | .pop, [] => (match env[i]? with
    | some (some (.list xs, k)) => if k = .ow ∨ k = .io then (match xs.getLast? with
      | some d => .ok (.v d) (env.set i (some (.list xs.dropLast, k)))
      | none => .bad) else .bad
    | _ => .bad)
  | _, _ => .bad
/-- a slot that owns a list -/
def lstSlot (i : Nat) (env : En) : Bool := match env[i]? with
  | some (some (.list _, k)) => decide (k ≠ .fz)
  | _ => false
def wipeE (own : List Nat) (env : En) : En := own.foldl (fun e i => e.set i none) env
/-- the slots of a comprehension's own names come back -/
def backE (own : List Nat) (env env' : En) : En := own.foldl (fun e i => e.set i (env.getD i none)) env'
/-- none of the own names' slots owns -/
def ownOk (own : List Nat) (env : En) : Bool := own.all fun i => match env[i]? with
  | some (some (_, .fz)) => true
  | some none => true
  | _ => false

/-! ### calls -/
def arg1 (env : En) (m : Bool) : R → Option (D × Bool)
  | .v d => some (d, false)
  | .o d => some (d, false)
  | .s i => (match env[i]? with
    | some (some (d, k)) => if m then (if k = .ow ∨ k = .io then some (d, true) else none) else some (d, false)
    | _ => none)
def argD (mt : Nat → Bool) (env : En) : Nat → List R → Option (List (D × Bool))
  | _, [] => some []
  | j, r :: rs => match arg1 env (mt j) r, argD mt env (j + 1) rs with
    | some d, some ds => some (d :: ds)
    | _, _ => none
/-- a slot is lent for reading -/
def borrows (mt : Nat → Bool) : Nat → List R → Bool
  | _, [] => false
  | j, .s _ :: rs => !mt j || borrows mt (j + 1) rs
  | j, _ :: rs => borrows mt (j + 1) rs
def ioSlots (mt : Nat → Bool) : Nat → List R → List Nat
  | _, [] => []
  | j, .s i :: rs => if mt j then i :: ioSlots mt (j + 1) rs else ioSlots mt (j + 1) rs
  | j, _ :: rs => ioSlots mt (j + 1) rs
/-- what comes back into the lent slots -/
def backIo (mt : Nat → Bool) : Nat → List R → List D → En → Option En
  | _, [], [], env => some env
  | j, .s i :: rs, d :: ds, env => if mt j then (match env[i]? with
      | some (some (_, k)) => backIo mt (j + 1) rs ds (env.set i (some (d, k)))
      | _ => none) else backIo mt (j + 1) rs ds env
  | j, _ :: rs, _ :: ds, env => backIo mt (j + 1) rs ds env
  | _, _, _, _ => none
/-- the slots among results -/
def slotsR : List R → List Nat
  | [] => []
  | .s i :: rs => i :: slotsR rs
  | _ :: rs => slotsR rs
/-- its items hold no list -/
def plain1 : D → Bool
  | .list ds => plains ds
  | _ => false
def plainO (own : Bool) (d : D) : Bool := if own then plain1 d else plain d
def outsPl : List (D × Bool) → List D → Bool
  | (_, true) :: as, d :: ds => plain1 d && outsPl as ds
  | (_, false) :: as, _ :: ds => outsPl as ds
  | _, _ => true
def callO (C : Den) (f : Nat) (rs : List R) (env : En) : O R :=
  match argD (C.mt f) env 0 rs with
  | none => .bad
  | some args => if ioSlots (C.mt f) 0 rs = [] ∨ (slotsR rs).Nodup then (match C.run f args with
    | .ok d own outs => (match backIo (C.mt f) 0 rs outs env with
      | some e2 => if borrows (C.mt f) 0 rs = false ∨ (plainO own d = true ∧ outsPl args outs = true) then .ok (if own then .o d else .v d) e2 else .bad
      | none => .bad)
    | .ex c outs => (match backIo (C.mt f) 0 rs outs env with
      | some e2 => if borrows (C.mt f) 0 rs = false ∨ outsPl args outs = true then .ex c e2 else .bad
      | none => .bad)
    | .bad => .bad) else .bad

/-! ### loops -/
def boolR : R → En → O Bool
  | .v (.bool b), env => .ok b env
  | _, _ => .bad

def vLst : List D → List R := fun ds => ds.map .v
/-- a clause's turns, what they gather; ws: what is walked -/
def turnsG (ws : List R) (own : List Nat) (f : D → En → O (List D)) : List D → En → O (List D)
  | [], env => if lkd env ws then .ok [] env else .bad
  | d :: ds, env => if lkd env ws then (f d env).bind fun x e1 => (turnsG ws own f ds (wipeE own e1)).bind fun y e2 => .ok (x ++ y) e2 else .bad
/-- .. of a search -/
def turnsB (ws : List R) (own : List Nat) (f : D → En → O Bool) : List D → En → O Bool
  | [], env => if lkd env ws then .ok false env else .bad
  | d :: ds, env => if lkd env ws then (f d env).bind fun x e1 => if x then .ok true (wipeE own e1) else turnsB ws own f ds (wipeE own e1) else .bad
/-- exceptions in a block are not covered -/
def O.nox {α : Type} : O α → O α
  | .ok a e => .ok a e
  | _ => .bad
/-- a turn's body -/
def bodyG {α : Type} (p : Pt) (t : En → O R) (k : En → O α) (no : α) (d : D) (env : En) : O α :=
  ((O.of (bindP p d env) env).bind fun e3 _ => (t e3).bind fun b e4 => (boolR b e4).bind fun c e5 => if c then k e5 else .ok no e5).nox
def loopS (ws : List R) (f : D → En → O Fl) : List D → En → O Fl
  | [], env => if lkd env ws then .ok .nx env else .bad
  | d :: ds, env => if lkd env ws then (f d env).bind fun x e1 => match x with
    | .nx => loopS ws f ds e1
    | .brk => .ok .nx e1
    | .ret d own => .ok (.ret d own) e1 else .bad
/-- around a loop: what it walks is locked -/
def locked {α : Type} (ws : List R) (f : En → O α) (env : En) : O α := (f (lockE ws env)).unl (ws.filterMap (fresh1 env))
def whileN (c : En → O Bool) (b : En → O Fl) : Nat → En → O Fl
  | 0, _ => .bad
  | n + 1, env => (c env).bind fun t e1 => if t then (b e1).bind fun x e2 => (match x with
    | .nx => whileN c b n e2
    | .brk => .ok .nx e2
    | .ret d own => .ok (.ret d own) e2) else .ok .nx e1
open Classical in
noncomputable def whileO (c : En → O Bool) (b : En → O Fl) (env : En) : O Fl :=
  if h : ∃ n, whileN c b n env ≠ .bad then whileN c b (Classical.choose h) env else .bad

/-! ### the evaluator -/
mutual
noncomputable def ev (C : Den) : E → En → O R
  | .var i, env => (match env[i]? with
    | some (some (d, .fz)) => .ok (.v d) env
    | some (some (_, _)) => .ok (.s i) env
    | _ => .bad)
  | .con d, env => .ok (.v d) env
  | .tup as, env => (evAs C as env).bind fun rs e1 => (O.of (tks e1 rs) e1).bind fun x _ => if x.1.length ≤ sizeLine then .ok (.v (.tuple x.1)) x.2 else .bad
  | .lst as, env => (evAs C as env).bind fun rs e1 => (O.of (tks e1 rs) e1).bind fun x _ => if x.1.length ≤ sizeLine then .ok (.o (.list x.1)) x.2 else .bad
  | .op o as, env => (evAs C as env).bind fun rs e1 => (O.of (rds e1 rs) e1).bind fun ds _ => O.of (opO o ds) e1
  | .chain o o' a b c, env => (ev C a env).bind fun x e1 => (ev C b e1).bind fun y e2 => (O.of (rds e2 [x, y]) e2).bind fun ds _ => (O.of (opO (.cmp o) ds) e2).bind fun t _ => (boolR t e2).bind fun t _ =>
      if t then (ev C c e2).bind fun z e3 => (O.of (rds e3 [y, z]) e3).bind fun ds _ => O.of (opO (.cmp o') ds) e3 else .ok (.v (.bool false)) e2
  | .and a b, env => (ev C a env).bind fun x e1 => (boolR x e1).bind fun c _ => if c then ev C b e1 else .ok (.v (.bool false)) e1
  | .or a b, env => (ev C a env).bind fun x e1 => (boolR x e1).bind fun c _ => if c then .ok (.v (.bool true)) e1 else ev C b e1
  | .ite c a b, env => (ev C c env).bind fun x e1 => (boolR x e1).bind fun t _ => if t then ev C a e1 else ev C b e1
  | .call f as, env => (evAs C as env).bind fun rs e1 => callO C f rs e1
  | .mth m i as, env => if lstSlot i env then (evAs C as env).bind fun rs e1 => mthO m i rs e1 else .bad
  | .lc own p it t e, env => if ownOk own env then (evIt C it env).bind fun x e1 =>
      (locked x.2 (turnsG x.2 own (bodyG p (ev C t) (fun e0 => (ev C e e0).bind fun x e1 => (O.of (tk e1 x) e1).bind fun y _ => .ok [y.1] y.2) []) x.1) (wipeE own e1)).nox.bind fun y e2 =>
      if y.length ≤ sizeLine then .ok (.o (.list y)) (backE own env e2) else .bad else .bad
  | .lc2 own p it t p1 it1 t1 e, env => if ownOk own env then (evIt C it env).bind fun x e1 =>
      (locked x.2 (turnsG x.2 own (bodyG p (ev C t) (fun e0 => (evIt C it1 e0).bind fun x1 e5 =>
        locked x1.2 (turnsG x1.2 (slotsP p1) (bodyG p1 (ev C t1) (fun e0 => (ev C e e0).bind fun x e1 => (O.of (tk e1 x) e1).bind fun y _ => .ok [y.1] y.2) []) x1.1) (wipeE (slotsP p1) e5)) []) x.1) (wipeE own e1)).nox.bind fun y e2 =>
      if y.length ≤ sizeLine then .ok (.o (.list y)) (backE own env e2) else .bad else .bad
  | .gen any own p it t e, env => if ownOk own env then (evIt C it env).bind fun x e1 =>
      (locked x.2 (turnsB x.2 own (bodyG p (ev C t) (fun e0 => (ev C e e0).bind fun x e1 => (boolR x e1).bind fun b _ => .ok (b == any) e1) false) x.1) (wipeE own e1)).nox.bind fun y e2 =>
      .ok (.v (.bool (y == any))) (backE own env e2) else .bad
  | .gen2 any own p it t p1 it1 t1 e, env => if ownOk own env then (evIt C it env).bind fun x e1 =>
      (locked x.2 (turnsB x.2 own (bodyG p (ev C t) (fun e0 => (evIt C it1 e0).bind fun x1 e5 =>
        locked x1.2 (turnsB x1.2 (slotsP p1) (bodyG p1 (ev C t1) (fun e0 => (ev C e e0).bind fun x e1 => (boolR x e1).bind fun b _ => .ok (b == any) e1) false) x1.1) (wipeE (slotsP p1) e5)) false) x.1) (wipeE own e1)).nox.bind fun y e2 =>
      .ok (.v (.bool (y == any))) (backE own env e2) else .bad
noncomputable def evAs (C : Den) : As → En → O (List R)
  | .nil, env => .ok [] env
  | .cons a r, env => (ev C a env).bind fun x e1 => (evAs C r e1).bind fun xs e2 => .ok (x :: xs) e2
  | .star a r, env => (ev C a env).bind fun x e1 => (O.of (rd e1 x) e1).bind fun d _ => (O.of (itemsOf d) e1).bind fun ds _ => (evAs C r e1).bind fun xs e2 => .ok (vLst ds ++ xs) e2
noncomputable def evIt (C : Den) : It → En → O (List D × List R)
  | .val e, env => (ev C e env).bind fun x e1 => (O.of (rd e1 x) e1).bind fun d _ => (O.of (itemsOf d) e1).bind fun ds _ => .ok (ds, [x]) e1
  | .rng as, env => (evAs C as env).bind fun rs e1 => (O.of (rds e1 rs) e1).bind fun ds _ => (O.of (rngO ds) e1).bind fun is _ => .ok (is, []) e1
  | .zip as, env => (evAs C as env).bind fun rs e1 => (O.of (rds e1 rs) e1).bind fun ds _ => (O.of (zipO ds) e1).bind fun is _ => .ok (is, rs) e1
  | .enu e, env => (ev C e env).bind fun x e1 => (O.of (rd e1 x) e1).bind fun d _ => (O.of (itemsOf d) e1).bind fun ds _ => .ok (enuD 0 ds, [x]) e1
end
def retO (r : R) (env : En) : O Fl := match r with
  | .v d => .ok (.ret d false) env
  | .o d => .ok (.ret d true) env
  | .s i => (match env[i]? with
    | some (some (d, .ow)) => .ok (.ret d true) (env.set i none)
    | _ => .bad)
def putO (i : Nat) (k r : R) (env : En) : O Fl := .bad
mutual
noncomputable def exS (C : Den) : S → En → O Fl
  | .set i own e, env => (ev C e env).bind fun r e1 => (O.of (setR i own r e1) e1).bind fun e2 _ => .ok .nx e2
  | .unp p e, env => (ev C e env).bind fun r e1 => (O.of (tk e1 r) e1).bind fun x _ => (O.of (bindP p x.1 x.2) e1).bind fun e2 _ => .ok .nx e2
  | .par is as, env => (evAs C as env).bind fun rs e1 => (O.of (setRs is rs e1) e1).bind fun e2 _ => .ok .nx e2
  | .put i k e, env => (ev C e env).bind fun r e1 => (ev C k e1).bind fun kr e2 => putO i kr r e2
  | .expr e, env => (ev C e env).bind fun _ e1 => .ok .nx e1
  | .ret e, env => (ev C e env).bind fun r e1 => retO r e1
  | .retN, env => .ok (.ret .none false) env
  | .pass, env => .ok .nx env
  | .brk, env => .ok .brk env
  | .iff c a b, env => (ev C c env).bind fun x e1 => (boolR x e1).bind fun t _ => if t then exSs C a e1 else exSs C b e1
  | .for p it b, env => (evIt C it env).bind fun x e1 => locked x.2 (loopS x.2 (fun d e2 => (O.of (bindP p d e2) e2).bind fun e3 _ => exSs C b e3) x.1) e1
  | .whl c b, env => whileO (fun e0 => (ev C c e0).bind fun x e1 => boolR x e1) (fun e0 => exSs C b e0) env
  | .raise c, env => .ex c env
noncomputable def exSs (C : Den) : Ss → En → O Fl
  | .nil, env => .ok .nx env
  | .cons s r, env => (exS C s env).bind fun x e1 => (match x with
    | .nx => exSs C r e1
    | x => .ok x e1)
end

/-! ### defs -/
structure Fn where
  np : Nat
  ns : Nat
  body : Ss
def startA (args : List (D × Bool)) : En := args.map fun a => some (a.1, if a.2 then Kd.io else Kd.fz)
def startE (F : Fn) (args : List (D × Bool)) : En := startA args ++ List.replicate (F.ns - F.np) none
def outsE : List (D × Bool) → En → Option (List D)
  | [], _ => some []
  | (_, true) :: as, some (d, .io) :: env => (outsE as env).map (d :: ·)
  | (_, false) :: as, _ :: env => (outsE as env).map (PyData.none :: ·)
  | _, _ => none
/-- the lent slots at the end -/
def endA : List (D × Bool) → List D → En
  | (_, true) :: as, d :: ds => some (d, .io) :: endA as ds
  | (_, false) :: as, _ :: ds => none :: endA as ds
  | _, _ => []
noncomputable def runFn (C : Den) (F : Fn) (args : List (D × Bool)) : DO :=
  if args.length = F.np ∧ F.np ≤ F.ns then match exSs C F.body (startE F args) with
    | .ok x env => (match outsE args env, x with
      | some outs, .nx => .ok .none false outs
      | some outs, .ret d own => .ok d own outs
      | _, _ => .bad)
    | .ex c env => (match outsE args env with
      | some outs => .ex c outs
      | none => .bad)
    | .bad => .bad
  else .bad
noncomputable def den (P : Nat → Option Fn) (mt : Nat → Nat → Bool) : Nat → Nat → List (D × Bool) → DO
  | 0 => fun _ _ => .bad
  | k + 1 => fun f args => match P f with
    | some F => runFn ⟨den P mt k, mt⟩ F args
    | none => .bad
end Mi
set_option maxRecDepth 100000
namespace Mi
open PySem L2

/-- a list of the module -/
def Kl (K : PySem.W.Frag) (a : Addr) (xs : List V) : Prop := ∃ (o : Obj) (its : Array Value) (n : Nat), K.lookup a = some o ∧ o.cls = .type "list" ∧ o.dict = none ∧ o.data = .seq its n ∧ its.size ≤ sizeLine ∧ Vals xs its.toList
section
variable (K : PySem.W.Frag) (H : Hp) (N : Addr → Prop)
mutual
/-- the value v is the data d; none of its lists stands at an address of N -/
inductive DR : V → D → Prop
  | non : DR .non .none
  | bl (b : Bool) : DR (.bl b) (.bool b)
  | int (i : Int) : DR (.int i) (.int i)
  | str (x : Str) : DR (.str x) (.str x)
  | lst {a : Addr} {xs : List V} {ds : List D} : (Rd H a (.lst xs) ∧ ¬ N a) ∨ Kl K a xs → DRs xs ds → DR (.ref a) (.list ds)
  | tup {a : Addr} {xs : List V} {ds : List D} : SqT K H a xs → DRs xs ds → DR (.ref a) (.tuple ds)
inductive DRs : List V → List D → Prop
  | nil : DRs [] []
  | cons {v : V} {d : D} {vs : List V} {ds : List D} : DR v d → DRs vs ds → DRs (v :: vs) (d :: ds)
end
/-- the list or dict at a, its items kept apart from N -/
def Ob (a : Addr) : D → Prop
  | .list ds => ∃ xs, H a = some (.lst xs) ∧ DRs K H N xs ds
  | _ => False
def RdV (v : V) (d : D) : Prop := DR K H N v d ∨ ∃ a, v = .ref a ∧ Ob K H N a d
end
section
variable {K : PySem.W.Frag} {H H' : Hp} {N N' : Addr → Prop}
theorem DRs.length : ∀ {vs : List V} {ds : List D}, DRs K H N vs ds → vs.length = ds.length
  | [], _, h => by cases h; rfl
  | v :: vs, _, h => by cases h with | cons h1 h2 => simp [h2.length]
theorem DRs.get : ∀ {vs : List V} {ds : List D}, DRs K H N vs ds → ∀ {i : Nat} {d : D}, ds[i]? = some d → ∃ v, vs[i]? = some v ∧ DR K H N v d
  | [], _, h, i, d, e => by cases h; simp at e
  | v :: vs, _, h, i, d, e => by
    cases h with
    | cons h1 h2 => cases i with
      | zero => simp at e; subst e; exact ⟨v, rfl, h1⟩
      | succ i => simp at e; obtain ⟨w, e1, e2⟩ := h2.get e; exact ⟨w, by simpa using e1, e2⟩
theorem DRs.getV : ∀ {vs : List V} {ds : List D}, DRs K H N vs ds → ∀ {i : Nat} {v : V}, vs[i]? = some v → ∃ d, ds[i]? = some d ∧ DR K H N v d
  | [], _, h, i, d, e => by simp at e
  | v :: vs, _, h, i, d, e => by
    cases h with
    | cons h1 h2 => cases i with
      | zero => simp at e; subst e; exact ⟨_, rfl, h1⟩
      | succ i => simp at e; obtain ⟨w, e1, e2⟩ := h2.getV e; exact ⟨w, by simpa using e1, e2⟩
theorem DRs.append : ∀ {vs ws : List V} {ds es : List D}, DRs K H N vs ds → DRs K H N ws es → DRs K H N (vs ++ ws) (ds ++ es)
  | [], _, _, _, h, g => by cases h; exact g
  | v :: vs, _, _, _, h, g => by cases h with | cons h1 h2 => exact .cons h1 (h2.append g)
theorem DRs.take : ∀ {vs : List V} {ds : List D} (n : Nat), DRs K H N vs ds → DRs K H N (vs.take n) (ds.take n)
  | _, _, 0, _ => .nil
  | [], _, n + 1, h => by cases h; exact .nil
  | v :: vs, _, n + 1, h => by cases h with | cons h1 h2 => exact .cons h1 (h2.take n)
theorem DRs.drop : ∀ {vs : List V} {ds : List D} (n : Nat), DRs K H N vs ds → DRs K H N (vs.drop n) (ds.drop n)
  | _, _, 0, h => h
  | [], _, n + 1, h => by cases h; exact .nil
  | v :: vs, _, n + 1, h => by cases h with | cons h1 h2 => exact h2.drop n
theorem DRs.rev : ∀ {vs : List V} {ds : List D}, DRs K H N vs ds → DRs K H N vs.reverse ds.reverse
  | [], _, h => by cases h; exact .nil
  | v :: vs, _, h => by
    cases h with
    | cons h1 h2 => simp only [List.reverse_cons]; exact h2.rev.append (.cons h1 .nil)
theorem DRs.of_get : ∀ {vs : List V} {ds : List D}, vs.length = ds.length → (∀ (i : Nat) v d, vs[i]? = some v → ds[i]? = some d → DR K H N v d) → DRs K H N vs ds
  | [], [], _, _ => .nil
  | v :: vs, d :: ds, hl, h => .cons (h 0 v d rfl rfl) (DRs.of_get (by simpa using hl) fun i v' d' e1 e2 => h (i + 1) v' d' (by simpa using e1) (by simpa using e2))
theorem DRs.flatten_replicate {vs : List V} {ds : List D} (h : DRs K H N vs ds) : ∀ n : Nat, DRs K H N (List.replicate n vs).flatten (List.replicate n ds).flatten
  | 0 => .nil
  | n + 1 => by simp only [List.replicate_succ, List.flatten_cons]; exact h.append (h.flatten_replicate n)
/-- what is kept from H to H' for data apart from N -/
structure Kp (N : Addr → Prop) (H H' : Hp) : Prop where
  kp : ∀ a xs, H a = some (.lst xs) → ¬ N a → H' a = some (.lst xs)
  tp : ∀ a xs, H a = some (.tup xs) → H' a = some (.tup xs)
  fz : ∀ a o u, H a = some (.frz o u) → H' a = some (.frz o u)
theorem Kp.rdL {a : Addr} {xs : List V} (k : Kp N H H') (h : Rd H a (.lst xs)) (n : ¬ N a) : Rd H' a (.lst xs) := by
  rcases h with h | ⟨o, h⟩
  · exact .inl (k.kp a xs h n)
  · exact .inr ⟨o, k.fz a o _ h⟩
theorem Kp.sqT {a : Addr} {xs : List V} (k : Kp N H H') (h : SqT K H a xs) : SqT K H' a xs := by
  rcases h with (h | ⟨o, h⟩) | h
  · exact .inl (.inl (k.tp a xs h))
  · exact .inl (.inr ⟨o, k.fz a o _ h⟩)
  · exact .inr h
theorem rd_some {a : Addr} {u : HO} (h : Rd H a u) : H a ≠ none := by
  rcases h with h | ⟨o, h⟩ <;> (rw [h]; simp)
mutual
theorem DR.step (k : Kp N H H') (hn : ∀ a, N' a → N a ∨ H a = none) : ∀ {v : V} {d : D}, DR K H N v d → DR K H' N' v d
  | _, .none, h => by cases h; exact .non
  | _, .bool b, h => by cases h; exact .bl b
  | _, .int i, h => by cases h; exact .int i
  | _, .str x, h => by cases h; exact .str x
  | _, .list ds, h => by
    cases h with
    | lst h1 h3 =>
      refine .lst (h1.imp (fun h1 => ⟨k.rdL h1.1 h1.2, fun q => ?_⟩) id) (DRs.step k hn h3)
      rcases hn _ q with q | q
      · exact h1.2 q
      · exact rd_some h1.1 q
  | _, .tuple ds, h => by cases h with | tup h1 h2 => exact .tup (k.sqT h1) (DRs.step k hn h2)
  | _, .dict kvs, h => by cases h
theorem DRs.step (k : Kp N H H') (hn : ∀ a, N' a → N a ∨ H a = none) : ∀ {vs : List V} {ds : List D}, DRs K H N vs ds → DRs K H' N' vs ds
  | _, [], h => by cases h; exact .nil
  | _, d :: ds, h => by cases h with | cons h1 h2 => exact .cons (DR.step k hn h1) (DRs.step k hn h2)
end
theorem Kp.refl (N : Addr → Prop) (H : Hp) : Kp N H H := ⟨fun _ _ h _ => h, fun _ _ h => h, fun _ _ _ h => h⟩
theorem DR.anti (hn : ∀ a, N' a → N a) {v : V} {d : D} (h : DR K H N v d) : DR K H N' v d := h.step (Kp.refl N H) fun a q => .inl (hn a q)
theorem DRs.anti (hn : ∀ a, N' a → N a) {v : List V} {d : List D} (h : DRs K H N v d) : DRs K H N' v d := h.step (Kp.refl N H) fun a q => .inl (hn a q)
theorem Ob.step (k : Kp N H H') (hn : ∀ a, N' a → N a ∨ H a = none) {a : Addr} {d : D} (e : ∀ o, H a = some o → H' a = some o) (h : Ob K H N a d) : Ob K H' N' a d := by
  cases d <;> first | exact h.elim | skip
  obtain ⟨xs, h1, h2⟩ := h
  exact ⟨xs, e _ h1, h2.step k hn⟩
theorem Ob.some {a : Addr} {d : D} (h : Ob K H N a d) : H a ≠ none := by
  cases d <;> first | exact h.elim | skip
  obtain ⟨xs, h1, _⟩ := h
  rw [h1]; simp
mutual
/-- data without lists hold apart from anything -/
theorem DR.plain : ∀ {v : V} {d : D}, Mi.plain d = true → DR K H N v d → DR K H N' v d
  | _, .none, _, h => by cases h; exact .non
  | _, .bool b, _, h => by cases h; exact .bl b
  | _, .int i, _, h => by cases h; exact .int i
  | _, .str x, _, h => by cases h; exact .str x
  | _, .list ds, q, h => by simp [Mi.plain] at q
  | _, .tuple ds, q, h => by cases h with | tup h1 h2 => exact .tup h1 (DRs.plain (by simpa [Mi.plain] using q) h2)
  | _, .dict kvs, q, h => by cases h
theorem DRs.plain : ∀ {vs : List V} {ds : List D}, Mi.plains ds = true → DRs K H N vs ds → DRs K H N' vs ds
  | _, [], _, h => by cases h; exact .nil
  | _, d :: ds, q, h => by
    simp only [Mi.plains, Bool.and_eq_true] at q
    cases h with | cons h1 h2 => exact .cons (DR.plain q.1 h1) (DRs.plain q.2 h2)
end
mutual
theorem DR.dp : ∀ {v : V} {d : D}, DR K H N v d → Dp K H v d
  | _, .none, h => by cases h; exact .non
  | _, .bool b, h => by cases h; exact .bl b
  | _, .int i, h => by cases h; exact .int i
  | _, .str x, h => by cases h; exact .str x
  | _, .list ds, h => by cases h with | lst h1 h3 => exact .lst (h1.imp And.left id) (DRs.dp h3)
  | _, .tuple ds, h => by cases h with | tup h1 h2 => exact .tup h1 (DRs.dp h2)
  | _, .dict kvs, h => by cases h
theorem DRs.dp : ∀ {vs : List V} {ds : List D}, DRs K H N vs ds → DpAll K H vs ds
  | _, [], h => by cases h; exact .nil
  | _, d :: ds, h => by cases h with | cons h1 h2 => exact .cons (DR.dp h1) (DRs.dp h2)
end
theorem RdV.dp {v : V} {d : D} (h : RdV K H N v d) : Dp K H v d := by
  rcases h with h | ⟨a, rfl, h⟩
  · exact h.dp
  · cases d <;> first | exact h.elim | skip
    obtain ⟨xs, h1, h2⟩ := h
    exact .lst (.inl (.inl h1)) h2.dp
theorem RdV.list {v : V} {ds : List D} (h : RdV K H N v (.list ds)) : ∃ a xs, v = .ref a ∧ SqL K H a xs ∧ DRs K H N xs ds := by
  rcases h with h | ⟨a, rfl, h⟩
  · cases h with | lst h1 h3 => exact ⟨_, _, rfl, h1.imp And.left id, h3⟩
  · obtain ⟨xs, h1, h2⟩ := h
    exact ⟨a, xs, rfl, .inl (.inl h1), h2⟩
theorem RdV.tuple {v : V} {ds : List D} (h : RdV K H N v (.tuple ds)) : ∃ a xs, v = .ref a ∧ SqT K H a xs ∧ DRs K H N xs ds := by
  rcases h with h | ⟨a, rfl, h⟩
  · cases h with | tup h1 h2 => exact ⟨_, _, rfl, h1, h2⟩
  · exact h.elim
theorem RdV.int {v : V} {i : Int} (h : RdV K H N v (.int i)) : v = .int i := by
  rcases h with h | ⟨a, rfl, h⟩
  · cases h; rfl
  · exact h.elim
theorem RdV.bool {v : V} {i : Bool} (h : RdV K H N v (.bool i)) : v = .bl i := by
  rcases h with h | ⟨a, rfl, h⟩
  · cases h; rfl
  · exact h.elim
theorem RdV.str {v : V} {i : Str} (h : RdV K H N v (.str i)) : v = .str i := by
  rcases h with h | ⟨a, rfl, h⟩
  · cases h; rfl
  · exact h.elim
theorem RdV.none {v : V} (h : RdV K H N v .none) : v = .non := by
  rcases h with h | ⟨a, rfl, h⟩
  · cases h; rfl
  · exact h.elim
end

/-! ### the state -/
/-- an address that a slot owns -/
def Ow (env : En) (σ : L2.St) (a : Addr) : Prop := ∃ (i : Nat) (d : D) (k : Kd), env[i]? = some (some (d, k)) ∧ k ≠ .fz ∧ σ[i]? = some (some (.ref a))
def NS (M : Addr → Prop) (env : En) (σ : L2.St) (a : Addr) : Prop := M a ∨ Ow env σ a
def MP (M : Addr → Prop) (P : List Addr) (a : Addr) : Prop := M a ∨ a ∈ P
structure Rel (K : PySem.W.Frag) (T M B : Addr → Prop) (env : En) (σ : L2.St) (H : Hp) : Prop where
  len : env.length = σ.length
  fz : ∀ (i : Nat) (d : D), env[i]? = some (some (d, .fz)) → ∃ v, σ[i]? = some (some v) ∧ DR K H (NS M env σ) v d
  ow : ∀ (i : Nat) (d : D) (k : Kd), env[i]? = some (some (d, k)) → k ≠ .fz → ∃ a, σ[i]? = some (some (.ref a)) ∧ Ob K H (NS M env σ) a d
  dis : ∀ (i j : Nat) (d : D) (k : Kd) (d' : D) (k' : Kd) (a : Addr), env[i]? = some (some (d, k)) → k ≠ .fz → env[j]? = some (some (d', k')) → k' ≠ .fz → σ[i]? = some (some (.ref a)) → σ[j]? = some (some (.ref a)) → i = j
  fr : ∀ (i : Nat) (d : D) (a : Addr), env[i]? = some (some (d, .ow)) → σ[i]? = some (some (.ref a)) → ¬ B a
  od : ∀ a, Ow env σ a → ¬ M a
  dm : ∀ a, M a → H a ≠ none
  db : ∀ a, B a → H a ≠ none
  tb : ∀ P, T P → GxR.TabG H P
/-- what an evaluation leaves as it was -/
structure Fre (env : En) (σ : L2.St) (H H' : Hp) : Prop where
  kp : ∀ a o, H a = some o → ¬ Ow env σ a → (∀ ps, o ≠ .tbl ps) → H' a = some o
  dm : ∀ a, H a ≠ none → H' a ≠ none
/-- slots are emptied, none is filled -/
def Sub (env env' : En) : Prop := env'.length = env.length ∧ ∀ (i : Nat) (d' : D) (k : Kd), env'[i]? = some (some (d', k)) → k ≠ .fz → ∃ d, env[i]? = some (some (d, k)) ∧ (k.locked = true → d = d')
section
variable {K : PySem.W.Frag} {T M B : Addr → Prop} {env env' env1 env2 : En} {σ : L2.St} {H H' H1 H2 : Hp}
theorem Sub.refl : Sub env env := ⟨rfl, fun _ d _ h _ => ⟨d, h, fun _ => rfl⟩⟩
theorem Sub.trans (a : Sub env env1) (b : Sub env1 env2) : Sub env env2 := ⟨b.1.trans a.1, fun i d' k h hk => by
  obtain ⟨d, h1, l1⟩ := b.2 i d' k h hk
  obtain ⟨d0, h2, l2⟩ := a.2 i d k h1 hk
  exact ⟨d0, h2, fun z => (l2 z).trans (l1 z)⟩⟩
theorem Sub.ow (s : Sub env env') {a : Addr} (h : Ow env' σ a) : Ow env σ a := by
  obtain ⟨i, d, k, h1, h2, h3⟩ := h
  obtain ⟨d0, e, _⟩ := s.2 i d k h1 h2
  exact ⟨i, d0, k, e, h2, h3⟩
theorem Sub.ns (s : Sub env env') {a : Addr} (h : NS M env' σ a) : NS M env σ a := h.elim .inl fun q => .inr (s.ow q)
theorem Fre.refl : Fre env σ H H := ⟨fun _ _ h _ _ => h, fun _ h => h⟩
theorem Rel.owlst (r : Rel K T M B env σ H) {a : Addr} (h : Ow env σ a) : ∃ xs, H a = some (.lst xs) := by
  obtain ⟨i, d, k, h1, h2, h3⟩ := h
  obtain ⟨a', e1, e2⟩ := r.ow i d k h1 h2
  rw [h3] at e1
  obtain rfl : a = a' := by simpa using e1
  cases d <;> first | exact e2.elim | skip
  obtain ⟨xs, q, _⟩ := e2
  exact ⟨xs, q⟩
theorem Fre.trans (r : Rel K T M B env1 σ H1) (s : Sub env env1) (a : Fre env σ H H1) (b : Fre env1 σ H1 H2) : Fre env σ H H2 :=
  ⟨fun x o h hn ht => b.kp x o (a.kp x o h hn ht) (fun q => hn (s.ow q)) ht, fun x h => b.dm x (a.dm x h)⟩
/-- data apart from the slots and M are kept -/
theorem Fre.toKp (r : Rel K T M B env σ H) (f : Fre env σ H H') {N : Addr → Prop} (hN : ∀ a, Ow env σ a → N a) : Kp N H H' := by
  refine ⟨fun a xs h n => f.kp a _ h (fun q => n (hN a q)) (fun ps => by simp), fun a xs h => f.kp a _ h (fun q => ?_) (fun ps => by simp), fun a o u h => f.kp a _ h (fun q => ?_) (fun ps => by simp)⟩
  · obtain ⟨ys, e⟩ := r.owlst q
    rw [h] at e; cases e
  · obtain ⟨ys, e⟩ := r.owlst q
    rw [h] at e; cases e
theorem MP_nil : MP M [] = M := by funext a; simp [MP]
theorem MP_app {P Q : List Addr} : MP (MP M P) Q = MP M (P ++ Q) := by
  funext a
  simp only [MP, List.mem_append, eq_iff_iff]
  exact or_assoc
theorem NS_MP {P : List Addr} {a : Addr} (h : NS (MP M P) env σ a) : NS M env σ a ∨ a ∈ P := by
  rcases h with (h | h) | h
  · exact .inl (.inl h)
  · exact .inr h
  · exact .inl (.inr h)
theorem Rel.ns_some (r : Rel K T M B env σ H) {a : Addr} (h : NS M env σ a) : H a ≠ none := by
  rcases h with h | h
  · exact r.dm a h
  · obtain ⟨xs, e⟩ := r.owlst h
    rw [e]; simp
/-- the avoided set shrinks -/
theorem Rel.less {M' : Addr → Prop} (r : Rel K T M B env σ H) (h : ∀ a, M' a → M a) : Rel K T M' B env σ H := by
  have hn : ∀ a, NS M' env σ a → NS M env σ a := fun a q => q.elim (fun z => .inl (h a z)) .inr
  refine ⟨r.len, fun i d e => ?_, fun i d k e hk => ?_, r.dis, r.fr, fun a q z => r.od a q (h a z), fun a q => r.dm a (h a q), r.db, r.tb⟩
  · obtain ⟨v, e1, e2⟩ := r.fz i d e
    exact ⟨v, e1, e2.anti hn⟩
  · obtain ⟨a, e1, e2⟩ := r.ow i d k e hk
    exact ⟨a, e1, e2.step (Kp.refl _ _) (fun x q => .inl (hn x q)) (fun _ z => z)⟩
/-- only new things: the heap grows, the avoided set grows by new addresses -/
theorem Rel.grow {M' : Addr → Prop} (r : Rel K T M B env σ H) (g : ∀ a o, H a = some o → H' a = some o) (hM : ∀ a, M' a → M a ∨ H a = none) (hd : ∀ a, M' a → H' a ≠ none) : Rel K T M' B env σ H' := by
  have hn : ∀ a, NS M' env σ a → NS M env σ a ∨ H a = none := fun a q => q.elim (fun z => (hM a z).elim (fun y => .inl (.inl y)) .inr) fun z => .inl (.inr z)
  have k : Kp (NS M env σ) H H' := ⟨fun a xs h _ => g a _ h, fun a xs h => g a _ h, fun a o u h => g a _ h⟩
  refine ⟨r.len, fun i d e => ?_, fun i d k' e hk => ?_, r.dis, r.fr, fun a q z => ?_, hd, fun a q => ?_, fun P q => ?_⟩
  · obtain ⟨v, e1, e2⟩ := r.fz i d e
    exact ⟨v, e1, e2.step k hn⟩
  · obtain ⟨a, e1, e2⟩ := r.ow i d k' e hk
    exact ⟨a, e1, e2.step k hn (fun o z => g a o z)⟩
  · rcases hM a z with z | z
    · exact r.od a q z
    · obtain ⟨xs, e⟩ := r.owlst q
      rw [z] at e; cases e
  · cases e : H a with
    | none => exact absurd e (r.db a q)
    | some o => rw [g a o e]; simp
  · obtain ⟨ps, e, t⟩ := r.tb P q
    exact ⟨ps, g P _ e, t⟩
end

/-! ### what evaluations give -/
section
variable (K : PySem.W.Frag) (H : Hp) (N : Addr → Prop) (σ : L2.St)
inductive RVs : List R → List V → List Addr → Prop
  | nil : RVs [] [] []
  | v {d : D} {v : V} {rs : List R} {vs : List V} {P : List Addr} : DR K H N v d → RVs rs vs P → RVs (.v d :: rs) (v :: vs) P
  | o {d : D} {p : Addr} {rs : List R} {vs : List V} {P : List Addr} : Ob K H N p d → RVs rs vs P → RVs (.o d :: rs) (.ref p :: vs) (p :: P)
  | s {i : Nat} {v : V} {rs : List R} {vs : List V} {P : List Addr} : σ[i]? = some (some v) → RVs rs vs P → RVs (.s i :: rs) (v :: vs) P
end
/-- results rs with values vs, from env and H on -/
def RPs (K : PySem.W.Frag) (T M B : Addr → Prop) (env : En) (σ : L2.St) (H : Hp) (rs : List R) (env' : En) (vs : List V) (H' : Hp) : Prop :=
  Fre env σ H H' ∧ Sub env env' ∧ ∃ P, RVs K H' (NS (MP M P) env' σ) σ rs vs P ∧ Rel K T (MP M P) B env' σ H' ∧ P.Nodup ∧ ∀ p ∈ P, H p = none
abbrev RP (K : PySem.W.Frag) (T M B : Addr → Prop) (env : En) (σ : L2.St) (H : Hp) (r : R) (env' : En) (v : V) (H' : Hp) : Prop := RPs K T M B env σ H [r] env' [v] H'
section
variable {K : PySem.W.Frag} {T M B : Addr → Prop} {env env' env1 env2 : En} {σ : L2.St} {H H' H1 H2 : Hp} {N N' : Addr → Prop}
theorem RVs.step (k : Kp N H H') (hn : ∀ a, N' a → N a ∨ H a = none) : ∀ {rs : List R} {vs : List V} {P : List Addr}, (∀ p ∈ P, ∀ o, H p = some o → H' p = some o) → RVs K H N σ rs vs P → RVs K H' N' σ rs vs P
  | _, _, _, _, .nil => .nil
  | _, _, _, e, .v h t => .v (h.step k hn) (t.step k hn e)
  | _, _, _, e, .o h t => .o (h.step k hn (e _ (by simp))) (t.step k hn fun p hp => e p (by simp [hp]))
  | _, _, _, e, .s h t => .s h (t.step k hn e)
theorem RVs.append : ∀ {rs rs' : List R} {vs vs' : List V} {P P' : List Addr}, RVs K H N σ rs vs P → RVs K H N σ rs' vs' P' → RVs K H N σ (rs ++ rs') (vs ++ vs') (P ++ P')
  | _, _, _, _, _, _, .nil, g => g
  | _, _, _, _, _, _, .v h t, g => .v h (t.append g)
  | _, _, _, _, _, _, .o h t, g => .o h (t.append g)
  | _, _, _, _, _, _, .s h t, g => .s h (t.append g)
theorem RVs.length : ∀ {rs : List R} {vs : List V} {P : List Addr}, RVs K H N σ rs vs P → rs.length = vs.length
  | _, _, _, .nil => rfl
  | _, _, _, .v _ t => by simp [t.length]
  | _, _, _, .o _ t => by simp [t.length]
  | _, _, _, .s _ t => by simp [t.length]
theorem RVs.lst : ∀ {rs : List R} {vs : List V} {P : List Addr}, RVs K H N σ rs vs P → ∀ p ∈ P, ∃ xs, H p = some (.lst xs)
  | _, _, _, .nil, p, hp => by simp at hp
  | _, _, _, .v h t, p, hp => t.lst p hp
  | _, _, _, .o (d := d) h t, p, hp => by
    rcases List.mem_cons.mp hp with rfl | hp
    · cases d <;> first | exact h.elim | skip
      obtain ⟨xs, q, _⟩ := h
      exact ⟨xs, q⟩
    · exact t.lst p hp
  | _, _, _, .s h t, p, hp => t.lst p hp
/-- one evaluation behind another -/
theorem RPs.seq (r0 : Rel K T M B env σ H) {rs rs' : List R} {vs vs' : List V} {P : List Addr} (f1 : Fre env σ H H1) (s1 : Sub env env1) (q1 : RVs K H1 (NS (MP M P) env1 σ) σ rs vs P) (r1 : Rel K T (MP M P) B env1 σ H1) (n1 : P.Nodup) (e1 : ∀ p ∈ P, H p = none)
    (h2 : RPs K T (MP M P) B env1 σ H1 rs' env2 vs' H2) : RPs K T M B env σ H (rs ++ rs') env2 (vs ++ vs') H2 := by
  obtain ⟨f2, s2, P', q2, r2, n2, e2⟩ := h2
  have dm : ∀ p ∈ P, H1 p ≠ none := fun p hp => r1.dm p (.inr hp)
  have hn : ∀ a, NS (MP M (P ++ P')) env2 σ a → NS (MP M P) env1 σ a ∨ H1 a = none := fun a q => by
    rw [← MP_app] at q
    rcases NS_MP q with q | q
    · exact .inl (s2.ns q)
    · exact .inr (e2 a q)
  refine ⟨Fre.trans r1 s1 f1 f2, s1.trans s2, P ++ P', ?_, by rw [← MP_app]; exact r2, ?_, fun p hp => ?_⟩
  · refine RVs.append (q1.step (f2.toKp r1 fun a q => .inr q) hn fun p hp o ho => ?_) ?_
    · obtain ⟨xs, e⟩ := q1.lst p hp
      rw [e] at ho; cases ho
      refine f2.kp p _ e (fun q => ?_) (fun ps z => by cases z)
      obtain ⟨ys, z⟩ := r0.owlst (s1.ow q)
      rw [e1 p hp] at z; cases z
    · rw [← MP_app]; exact q2
  · rw [List.nodup_append]
    exact ⟨n1, n2, fun a ha b hb z => dm a ha (by subst z; exact e2 a hb)⟩
  · rcases List.mem_append.mp hp with hp | hp
    · exact e1 p hp
    · cases z : H p with
      | none => rfl
      | some o => exact absurd (e2 p hp) (f1.dm p (by rw [z]; simp))
end
end Mi
set_option maxRecDepth 100000
namespace Mi
open PySem L2

/-- what is wanted of an exception of class number c, at the slots and the heap -/
abbrev WC := Nat → L2.St → Hp → Prop
section
variable (K : PySem.W.Frag) (T B : Addr → Prop) (W : WC)
def OutA (M : Addr → Prop) (env : En) (σ : L2.St) (H : Hp) (o : O (List R)) (Q : List V → Hp → Prop) : Prop := match o with
  | .ok rs env' => ∀ vs H', RPs K T M B env σ H rs env' vs H' → Q vs H'
  | .ex c env' => ∀ H', Fre env σ H H' → Sub env env' → Rel K T M B env' σ H' → W c σ H'
  | .bad => False
def OutE (M : Addr → Prop) (env : En) (σ : L2.St) (H : Hp) (o : O R) (Q : V → Hp → Prop) : Prop := match o with
  | .ok r env' => ∀ v H', RP K T M B env σ H r env' v H' → Q v H'
  | .ex c env' => ∀ H', Fre env σ H H' → Sub env env' → Rel K T M B env' σ H' → W c σ H'
  | .bad => False
/-- an expression's reading by its evaluation; an argument list's -/
def TEv (x : En → O R) : TE := fun σ H Q => ∃ env M, Rel K T M B env σ H ∧ OutE K T B W M env σ H (x env) Q
def TAv (x : En → O (List R)) : TA := fun σ H Q => ∃ env M, Rel K T M B env σ H ∧ OutA K T B W M env σ H (x env) Q
/-- new objects alone -/
def Grow (H H' : Hp) : Prop := ∀ a o, H a = some o → H' a = some o
def ResV (N : Addr → Prop) (H : Hp) (r : R) (v : V) (H' : Hp) : Prop := match r with
  | .v d => Grow H H' ∧ DR K H' N v d
  | .o d => ∃ p, v = .ref p ∧ H p = none ∧ Grow H H' ∧ Ob K H' (MP N [p]) p d
  | .s _ => False
end
section
variable {K : PySem.W.Frag} {T M B : Addr → Prop} {W : WC} {env env' env1 env2 : En} {σ : L2.St} {H H' H1 H2 : Hp} {N N' : Addr → Prop}
theorem Grow.refl : Grow H H := fun _ _ h => h
theorem Grow.trans (a : Grow H H1) (b : Grow H1 H2) : Grow H H2 := fun x o h => b x o (a x o h)
theorem Grow.upd {p : Addr} {o : HO} (h : H p = none) : Grow H (upd H p o) := fun a u e => by rw [upd_ne (ne_of_none e h)]; exact e
theorem Grow.kp (g : Grow H H') (N : Addr → Prop) : Kp N H H' := ⟨fun a xs h _ => g a _ h, fun a xs h => g a _ h, fun a o u h => g a _ h⟩
theorem Grow.fre (g : Grow H H') : Fre env σ H H' := ⟨fun a o h _ _ => g a o h, fun a h => by
  cases e : H a with
  | none => exact absurd e h
  | some o => rw [g a o e]; simp⟩
theorem DR.grow {v : V} {d : D} (h : DR K H N v d) (g : Grow H H') : DR K H' N v d := h.step (g.kp N) fun _ q => .inl q
theorem DRs.grow {v : List V} {d : List D} (h : DRs K H N v d) (g : Grow H H') : DRs K H' N v d := h.step (g.kp N) fun _ q => .inl q
theorem DRs.new {vs : List V} {ds : List D} {p : Addr} (h : DRs K H N vs ds) (g : Grow H H') (hp : H p = none) : DRs K H' (MP N [p]) vs ds :=
  h.step (g.kp N) fun a q => q.elim .inl fun z => .inr (by rw [List.mem_singleton.mp z]; exact hp)
theorem MP_one {p a : Addr} (h : MP N [p] a) : N a ∨ a = p := h.elim .inl fun z => .inr (List.mem_singleton.mp z)

theorem RVs.one {r : R} {v : V} {P : List Addr} (h : RVs K H N σ [r] [v] P) : (∃ d, r = .v d ∧ P = [] ∧ DR K H N v d) ∨ (∃ d p, r = .o d ∧ v = .ref p ∧ P = [p] ∧ Ob K H N p d) ∨ ∃ i, r = .s i ∧ P = [] ∧ σ[i]? = some (some v) := by
  cases h with
  | v h t => cases t; exact .inl ⟨_, rfl, rfl, h⟩
  | o h t => cases t; exact .inr (.inl ⟨_, _, rfl, rfl, rfl, h⟩)
  | s h t => cases t; exact .inr (.inr ⟨_, rfl, rfl, h⟩)

/-- an empty list of arguments -/
theorem RPs.nil (r : Rel K T M B env σ H) : RPs K T M B env σ H [] env [] H := ⟨Fre.refl, Sub.refl, [], .nil, by rw [MP_nil]; exact r, .nil, fun _ h => nomatch h⟩
theorem TAv.nil {Q : List V → Hp → Prop} (h : TAv K T B W (fun env => .ok [] env) σ H Q) : tNil σ H Q := by
  obtain ⟨env, M, r, h⟩ := h
  exact h [] H (.nil r)
/-- an argument ahead of others -/
theorem TAv.cons {x : En → O R} {y : En → O (List R)} {Q : List V → Hp → Prop} (h : TAv K T B W (fun env => (x env).bind fun r e1 => (y e1).bind fun rs e2 => .ok (r :: rs) e2) σ H Q) :
    tCons (TEv K T B W x) (TAv K T B W y) σ H Q := by
  obtain ⟨env, M, r, h⟩ := h
  refine ⟨env, M, r, ?_⟩
  dsimp only at h
  cases ex : x env with
  | bad => rw [ex] at h; exact h
  | ex c e1 => rw [ex] at h; exact h
  | ok rr e1 =>
    rw [ex] at h
    simp only [O.bind_ok] at h
    intro v H1 q
    obtain ⟨f1, s1, P, q1, r1, n1, e1'⟩ := q
    refine ⟨e1, MP M P, r1, ?_⟩
    cases ey : y e1 with
    | bad => rw [ey] at h; exact h
    | ex c e2 =>
      rw [ey] at h
      intro H2 f2 s2 r2
      exact h H2 (Fre.trans r1 s1 f1 f2) (s1.trans s2) (r2.less fun a q => .inl q)
    | ok rs e2 =>
      rw [ey] at h
      intro vs H2 q2
      exact h _ _ (RPs.seq r f1 s1 q1 r1 n1 e1' q2)
theorem TAv.one {x : En → O R} {Q : List V → Hp → Prop} (h : TAv K T B W (fun env => (x env).bind fun r e1 => .ok [r] e1) σ H Q) : TEv K T B W x σ H fun v H1 => Q [v] H1 := by
  obtain ⟨env, M, r, h⟩ := h
  refine ⟨env, M, r, ?_⟩
  dsimp only at h
  cases ex : x env with
  | bad => rw [ex] at h; exact h
  | ex c e1 => rw [ex] at h; exact h
  | ok rr e1 =>
    rw [ex] at h
    intro v H1 q
    exact h _ _ q
/-- the reading of a value -/
theorem rdV_v {d d' : D} {v : V} (h : DR K H N v d) (e : rd env (.v d) = some d') : RdV K H N v d' := by
  cases e
  exact .inl h
theorem rdV_o {d d' : D} {p : Addr} (h : Ob K H N p d) (e : rd env (.o d) = some d') : RdV K H N (.ref p) d' := by
  cases e
  exact .inr ⟨_, rfl, h⟩
theorem rdV_s (r : Rel K T M B env σ H) {i : Nat} {d : D} {v : V} (h : σ[i]? = some (some v)) (e : rd env (.s i) = some d) : RdV K H (NS M env σ) v d := by
  simp only [rd] at e
  split at e <;> cases e
  rename_i k ek
  by_cases hk : k = .fz
  · subst hk
    obtain ⟨v', e3, e4⟩ := r.fz _ _ ek
    rw [h] at e3; cases e3
    exact .inl e4
  · obtain ⟨a, e3, e4⟩ := r.ow _ _ _ ek hk
    rw [h] at e3; cases e3
    exact .inr ⟨a, rfl, e4⟩
theorem rds_cons {r : R} {rs : List R} {ds : List D} (e : rds env (r :: rs) = some ds) : ∃ d ds', rd env r = some d ∧ rds env rs = some ds' ∧ ds = d :: ds' := by
  simp only [rds] at e
  split at e
  · rename_i d ds' h1 h2
    cases e
    exact ⟨d, ds', h1, h2, rfl⟩
  · cases e
theorem RVs.rds (r : Rel K T M B env σ H) {rs : List R} {vs : List V} {P : List Addr} (h : RVs K H (NS M env σ) σ rs vs P) : ∀ {ds : List D}, Mi.rds env rs = some ds → Paired (RdV K H (NS M env σ)) vs ds := by
  induction h with
  | nil => intro ds e; simp [Mi.rds] at e; subst e; exact .nil
  | v h t ih =>
    intro ds e
    obtain ⟨d, ds', e1, e2, rfl⟩ := rds_cons e
    exact .cons (rdV_v h e1) (ih e2)
  | o h t ih =>
    intro ds e
    obtain ⟨d, ds', e1, e2, rfl⟩ := rds_cons e
    exact .cons (rdV_o h e1) (ih e2)
  | s h t ih =>
    intro ds e
    obtain ⟨d, ds', e1, e2, rfl⟩ := rds_cons e
    exact .cons (rdV_s r h e1) (ih e2)
/-- an operation on read values, behind its operands -/
theorem RPs.op {rs : List R} {vs : List V} {ds : List D} (h : RPs K T M B env σ H rs env1 vs H1) (e : rds env1 rs = some ds) :
    ∃ N, Paired (RdV K H1 N) vs ds ∧ ∀ r v H2, ResV K N H1 r v H2 → RP K T M B env σ H r env1 v H2 := by
  obtain ⟨f1, s1, P, q1, r1, n1, e1⟩ := h
  refine ⟨_, q1.rds r1 e, fun r v H2 q => ?_⟩
  have back : ∀ a, MP M [] a → MP M P a := fun a z => z.elim .inl fun y => nomatch y
  cases r with
  | s i => exact q.elim
  | v d =>
    obtain ⟨g, q⟩ := q
    refine ⟨Fre.trans r1 s1 f1 g.fre, s1, [], .v (q.anti fun a z => ?_) .nil, ?_, .nil, fun p hp => nomatch hp⟩
    · exact z.elim (fun y => .inl (back a y)) .inr
    · rw [MP_nil]
      exact r1.grow g (fun a z => .inl (.inl z)) fun a z => by
        have := r1.dm a (.inl z)
        cases e : H1 a with
        | none => exact absurd e this
        | some o => rw [g a o e]; simp
  | o d =>
    obtain ⟨p, rfl, hp, g, q⟩ := q
    have hd : ∀ a, MP M [p] a → H2 a ≠ none := fun a z => by
      rcases MP_one z with z | rfl
      · have := r1.dm a (.inl z)
        cases e : H1 a with
        | none => exact absurd e this
        | some o => rw [g a o e]; simp
      · exact q.some
    refine ⟨Fre.trans r1 s1 f1 g.fre, s1, [p], .o (q.step (Kp.refl _ _) (fun a z => .inl ?_) fun _ z => z) .nil, r1.grow g (fun a z => ?_) hd, by simp, fun a ha => ?_⟩
    · rcases z with z | z
      · rcases MP_one z with z | rfl
        · exact .inl (.inl (.inl z))
        · exact .inr (by simp)
      · exact .inl (.inr z)
    · rcases MP_one z with z | rfl
      · exact .inl (.inl z)
      · exact .inr hp
    · obtain rfl : a = p := by simpa using ha
      cases z : H a with
      | none => rfl
      | some o => exact absurd hp (f1.dm a (by rw [z]; simp))
/-- the reading of an operation -/
def OpV (K : PySem.W.Frag) (o : Op) (vs : List V) (H : Hp) (Q : VK) : Prop := ∃ N ds r, Paired (RdV K H N) vs ds ∧ opO o ds = some r ∧ ∀ v H', ResV K N H r v H' → Q v H'
theorem TEv.op {as : En → O (List R)} {o : Op} {Q : VK} (h : TEv K T B W (fun env => (as env).bind fun rs e1 => (O.of (rds e1 rs) e1).bind fun ds _ => O.of (opO o ds) e1) σ H Q) :
    TAv K T B W as σ H fun vs H1 => OpV K o vs H1 Q := by
  obtain ⟨env, M, r, h⟩ := h
  refine ⟨env, M, r, ?_⟩
  dsimp only at h
  cases ex : as env with
  | bad => rw [ex] at h; exact h
  | ex c e1 => rw [ex] at h; exact h
  | ok rs e1 =>
    rw [ex] at h
    simp only [O.bind_ok] at h
    intro vs H1 q
    cases e2 : rds e1 rs with
    | none => rw [e2] at h; exact h.elim
    | some ds =>
      rw [e2] at h
      simp only [O.of_some, O.bind_ok] at h
      cases e3 : opO o ds with
      | none => rw [e3] at h; exact h.elim
      | some x =>
        rw [e3] at h
        obtain ⟨N, q1, q2⟩ := q.op e2
        exact ⟨N, ds, x, q1, e3, fun v H' z => h v H' (q2 x v H' z)⟩
end
end Mi
set_option maxRecDepth 100000
set_option maxHeartbeats 2000000
namespace Mi
open PySem L2 PySem.Spec PyProof.Rows
variable {X : Cx}
theorem paired1 {α β : Type} {F : α → β → Prop} {x : α} {ds : List β} (h : Paired F [x] ds) : ∃ d, ds = [d] ∧ F x d := by
  cases h with
  | cons a t => cases t; exact ⟨_, rfl, a⟩
theorem paired2 {α β : Type} {F : α → β → Prop} {x y : α} {ds : List β} (h : Paired F [x, y] ds) : ∃ d e, ds = [d, e] ∧ F x d ∧ F y e := by
  cases h with
  | cons a t => cases t with
    | cons b t => cases t; exact ⟨_, _, rfl, a, b⟩
theorem paired3 {α β : Type} {F : α → β → Prop} {x y z : α} {ds : List β} (h : Paired F [x, y, z] ds) : ∃ d e f, ds = [d, e, f] ∧ F x d ∧ F y e ∧ F z f := by
  cases h with
  | cons a t => cases t with
    | cons b t => cases t with
      | cons c t => cases t; exact ⟨_, _, _, rfl, a, b, c⟩
section
variable {K : PySem.W.Frag} {H : Hp} {N : Addr → Prop}
theorem res_int {i : Int} : ResV K N H (.v (.int i)) (.int i) H := ⟨Grow.refl, .int i⟩
theorem res_bl {b : Bool} : ResV K N H (.v (.bool b)) (.bl b) H := ⟨Grow.refl, .bl b⟩
theorem res_str {b : Str} : ResV K N H (.v (.str b)) (.str b) H := ⟨Grow.refl, .str b⟩
theorem res_d {d : D} {v : V} (h : DR K H N v d) : ResV K N H (.v d) v H := ⟨Grow.refl, h⟩
theorem res_tup {ds : List D} {xs : List V} {p : Addr} (h : DRs K H N xs ds) (hp : H p = none) : ResV K N H (.v (.tuple ds)) (.ref p) (upd H p (.tup xs)) :=
  ⟨Grow.upd hp, .tup (SqT.of upd_same) (h.grow (Grow.upd hp))⟩
theorem res_lst {ds : List D} {xs : List V} {p : Addr} (h : DRs K H N xs ds) (hp : H p = none) : ResV K N H (.o (.list ds)) (.ref p) (upd H p (.lst xs)) :=
  ⟨p, rfl, hp, Grow.upd hp, xs, upd_same, h.new (Grow.upd hp) hp⟩
end
/-- list + list, both read -/
theorem op_catR : OpR X (binaryOp .Add) (fun x y H Q => ∃ l b xs zs, x = .ref l ∧ y = .ref b ∧ SqL X.K H l xs ∧ SqL X.K H b zs ∧ xs.length + zs.length ≤ sizeLine ∧ ∀ p, H p = none → Q (.ref p) (upd H p (.lst (xs ++ zs)))) := by
  intro pins s σ H x y v u Q I rx ry h
  obtain ⟨l, b, xs, zs, rfl, rfl, hH, hB, hz, q⟩ := h
  cases rx
  cases ry
  obtain ⟨its, r, ⟨o, n, e, c1, c2, c3⟩, z⟩ := I.list hH
  obtain ⟨its2, r2, ⟨o2, n2, e2, d1, d2, d3⟩, z2⟩ := I.list hB
  have hl := r.length
  have hl2 := r2.length
  obtain ⟨cls, dd, data, sl⟩ := o
  obtain ⟨cls2, dd2, data2, sl2⟩ := o2
  simp only at c1 c2 c3 d1 d2 d3
  subst c1 c2 c3 d1 d2 d3
  refine concat_meets ⟨_, e, rfl⟩ ⟨_, e2, rfl⟩ noFill_list_add seq_list_add PySem.F.slot_list_add PySem.F.entry_list_add (PySem.F.args_list_add_2 _ _) (list_addW l b its.toArray its2.toArray n n2 none none sl sl2 (by rw [List.size_toArray, List.size_toArray]; omega)) ⟨e, e2, ?_⟩
  have ea : its.toArray ++ its2.toArray = (its ++ its2).toArray := by simp
  rw [ea]
  exact ⟨.ref _, _, I.lnew (t' := s.toks) (r.append r2) (by rw [List.length_append]; omega), rfl, q _ I.fresh⟩
def pyB : BOp → Operator
  | .add => .Add | .sub => .Sub | .mul => .Mult | .mod => .Mod | .fdiv => .FloorDiv | .pow => .Pow
theorem mul_ok {i j : Int} (h : mulOk i j = true) : CMul i j := by
  unfold mulOk at h
  rw [Bool.or_eq_true] at h
  exact h.elim (fun q => .inl (of_decide_eq_true q)) fun q => .inr (of_decide_eq_true q)
theorem or_bin (o : BOp) : OpR X (binaryOp (pyB o)) (fun x y H Q => OpV X.K (.bin o) [x, y] H Q) := by
  intro pins s σ H x y v u Q I rx ry h
  obtain ⟨N, ds, r, pr, e, q⟩ := h
  obtain ⟨a, b, rfl, ha, hb⟩ := paired2 pr
  have e : binO o a b = some r := e
  unfold binO at e
  split at e
  · cases e; cases ha.int; cases hb.int
    exact op_add pins s σ H _ _ v u Q I rx ry ⟨_, _, rfl, rfl, q _ _ res_int⟩
  · split at e <;> cases e
    rename_i hz
    cases ha.str; cases hb.str
    exact op_add_str pins s σ H _ _ v u Q I rx ry ⟨_, _, rfl, rfl, hz, q _ _ res_str⟩
  · split at e <;> cases e
    rename_i hz
    obtain ⟨l, xs, rfl, h1, h2⟩ := ha.tuple
    obtain ⟨l', ys, rfl, h3, h4⟩ := hb.tuple
    refine op_catA pins s σ H _ _ v u Q I rx ry ⟨_, _, xs, ys, rfl, rfl, h1, h3, by rw [h2.length, h4.length]; exact hz, fun e0 => ?_, fun _ e0 => ?_, fun _ _ p hp => q _ _ (res_tup (h2.append h4) hp)⟩
    · subst e0; cases h2; exact q _ _ (res_d (.tup h3 h4))
    · subst e0; cases h4; rw [List.append_nil] at q; exact q _ _ (res_d (.tup h1 h2))
  · split at e <;> cases e
    rename_i hz
    obtain ⟨l, xs, rfl, h1, h2⟩ := ha.list
    obtain ⟨l', ys, rfl, h3, h4⟩ := hb.list
    exact op_catR pins s σ H _ _ v u Q I rx ry ⟨_, _, xs, ys, rfl, rfl, h1, h3, by rw [h2.length, h4.length]; exact hz, fun p hp => q _ _ (res_lst (h2.append h4) hp)⟩
  · cases e; cases ha.int; cases hb.int
    exact op_sub pins s σ H _ _ v u Q I rx ry ⟨_, _, rfl, rfl, q _ _ res_int⟩
  · split at e <;> cases e
    rename_i hz
    cases ha.int; cases hb.int
    exact op_mul pins s σ H _ _ v u Q I rx ry ⟨_, _, rfl, rfl, mul_ok hz, q _ _ res_int⟩
  · split at e <;> cases e
    rename_i hz
    obtain ⟨l, xs, rfl, h1, h2⟩ := ha.tuple
    cases hb.int
    exact op_repT pins s σ H _ _ v u Q I rx ry ⟨_, _, xs, rfl, rfl, h1, (fun e0 => by subst e0; cases h2; exact hz.1 rfl), hz.2.1, hz.2.2.1, by rw [h2.length]; exact hz.2.2.2, fun p hp => q _ _ (res_tup (h2.flatten_replicate _) hp)⟩
  · split at e <;> cases e
    rename_i hz
    cases ha.int; cases hb.int
    exact op_modN pins s σ H _ _ v u Q I rx ry ⟨_, _, rfl, rfl, hz, q _ _ res_int⟩
  · split at e <;> cases e
    rename_i hz
    cases ha.int; cases hb.int
    exact op_fdivN pins s σ H _ _ v u Q I rx ry ⟨_, _, rfl, rfl, hz, q _ _ res_int⟩
  · split at e <;> cases e
    rename_i hz
    cases ha.int; cases hb.int
    exact op_pow pins s σ H _ _ v u Q I rx ry ⟨_, _, rfl, rfl, hz, q _ _ res_int⟩
  · cases e
theorem ur_neg : UnR X (unaryOp .USub) (fun x H Q => OpV X.K .neg [x] H Q) := by
  intro pins s σ H x v Q I rx h
  obtain ⟨N, ds, r, pr, e, q⟩ := h
  obtain ⟨a, rfl, ha⟩ := paired1 pr
  cases a <;> simp [opO] at e
  subst e
  cases ha.int
  exact un_neg pins s σ H _ v Q I rx ⟨_, rfl, q _ _ res_int⟩
def pyC : COp → CmpOp
  | .eq => .Eq | .ne => .NotEq | .lt => .Lt | .le => .LtE | .gt => .Gt | .ge => .GtE | .is_ => .Is | .isn => .IsNot | .isin => .In | .notin => .NotIn
theorem or_cmp (hu : X.A.units + 65 < cLine) (o : COp) : OpR X (compareOp (pyC o)) (fun x y H Q => OpV X.K (.cmp o) [x, y] H Q) := by
  intro pins s σ H x y v u Q I rx ry h
  obtain ⟨N, ds, r, pr, e, q⟩ := h
  obtain ⟨a, b, rfl, ha, hb⟩ := paired2 pr
  obtain ⟨t, h1, h2⟩ := Option.map_eq_some_iff.mp (show (cmpO o a b).map (fun b => R.v (.bool b)) = some r from e)
  clear e
  have e := h1
  subst h2
  have qb : Q (.bl t) H := q _ _ res_bl
  have hu' : X.A.units + 64 < cLine := by omega
  have fin : ∀ (s : Shared), Inv X pins σ H s → EP X pins σ Q (.bool t) s := fun s I => ⟨.bl t, H, I, rfl, qb⟩
  have reads : ∀ {a : D} {x : V} {v : Value}, RdV X.K H N x a → RelV x v → ∃ as, Reads s.heap v a as := fun h r => Dp.reads I _ _ _ h.dp r
  unfold cmpO at e
  cases o with
  | eq =>
    simp only at e
    split at e <;> cases e
    rename_i hs
    exact op_eqD hu' pins s σ H _ _ v u Q I rx ry ⟨a, b, ha.dp, hb.dp, hs.1, hs.2, qb⟩
  | ne =>
    simp only at e
    split at e <;> cases e
    rename_i hs
    exact op_neD hu' pins s σ H _ _ v u Q I rx ry ⟨a, b, ha.dp, hb.dp, hs.1, hs.2, qb⟩
  | lt =>
    simp only at e
    split at e
    · cases e; cases ha.int; cases hb.int
      exact op_lt pins s σ H _ _ v u Q I rx ry ⟨_, _, rfl, rfl, qb⟩
    · split at e <;> cases e
      rename_i hs
      unfold ltOk at hs
      simp only [Bool.and_eq_true, Bool.not_eq_true', decide_eq_true_eq] at hs
      obtain ⟨⟨h1, h2⟩, h3⟩ := hs
      obtain ⟨as, r1⟩ := reads ha rx
      obtain ⟨bs, r2⟩ := reads hb ry
      have hn : a ≠ .none := fun z => by subst z; simp [isNon] at h2
      exact W.rcLt_alike a b X.A s v u as bs r1 r2 h1 hn (Nat.lt_of_le_of_lt (Nat.add_le_add_left (Nat.min_le_left _ _) _) (by omega)) X.prog X.w X.xe _ (fin s I)
  | le =>
    simp only at e
    split at e <;> cases e
    cases ha.int; cases hb.int
    exact op_le pins s σ H _ _ v u Q I rx ry ⟨_, _, rfl, rfl, qb⟩
  | gt =>
    simp only at e
    split at e <;> cases e
    cases ha.int; cases hb.int
    exact op_gt pins s σ H _ _ v u Q I rx ry ⟨_, _, rfl, rfl, qb⟩
  | ge =>
    simp only at e
    split at e <;> cases e
    cases ha.int; cases hb.int
    exact op_ge pins s σ H _ _ v u Q I rx ry ⟨_, _, rfl, rfl, qb⟩
  | is_ =>
    have e : isO a b = some t := e
    unfold isO at e
    split at e
    · cases e; cases ha.none; cases hb.none
      exact op_isN pins s σ H _ _ v u Q I rx ry ⟨rfl, by simpa using qb⟩
    · cases e; cases ha.bool; cases hb.bool
      rename_i p p'
      have : decide (p = p') = (p == p') := by cases p <;> cases p' <;> rfl
      exact op_is_bl pins s σ H _ _ v u Q I rx ry ⟨_, _, rfl, rfl, by rw [this]; exact qb⟩
    · cases e; cases ha.bool; cases hb.none
      exact op_isN pins s σ H _ _ v u Q I rx ry ⟨rfl, by simpa using qb⟩
    · cases e; cases ha.int; cases hb.none
      exact op_isN pins s σ H _ _ v u Q I rx ry ⟨rfl, by simpa using qb⟩
    · cases e; cases ha.str; cases hb.none
      exact op_isN pins s σ H _ _ v u Q I rx ry ⟨rfl, by simpa using qb⟩
    · cases e; obtain ⟨l, xs, rfl, _⟩ := ha.list; cases hb.none
      exact op_isN pins s σ H _ _ v u Q I rx ry ⟨rfl, by simpa using qb⟩
    · cases e; obtain ⟨l, xs, rfl, _⟩ := ha.tuple; cases hb.none
      exact op_isN pins s σ H _ _ v u Q I rx ry ⟨rfl, by simpa using qb⟩
    · rcases ha with ha | ⟨_, _, ha⟩
      · cases ha
      · exact ha.elim
    · cases e
  | isn =>
    clear e
    obtain ⟨t', e, et⟩ := Option.map_eq_some_iff.mp (show (isO a b).map (!·) = some t from h1)
    clear h1
    subst et
    unfold isO at e
    split at e
    · cases e; cases ha.none; cases hb.none
      exact op_notN pins s σ H _ _ v u Q I rx ry ⟨rfl, by simpa using qb⟩
    · cases e; cases ha.bool; cases hb.bool
      rename_i p p'
      have : (!decide (p = p')) = (!(p == p')) := by cases p <;> cases p' <;> rfl
      exact op_isnot_bl pins s σ H _ _ v u Q I rx ry ⟨_, _, rfl, rfl, by rw [this]; exact qb⟩
    · cases e; cases ha.bool; cases hb.none
      exact op_notN pins s σ H _ _ v u Q I rx ry ⟨rfl, by simpa using qb⟩
    · cases e; cases ha.int; cases hb.none
      exact op_notN pins s σ H _ _ v u Q I rx ry ⟨rfl, by simpa using qb⟩
    · cases e; cases ha.str; cases hb.none
      exact op_notN pins s σ H _ _ v u Q I rx ry ⟨rfl, by simpa using qb⟩
    · cases e; obtain ⟨l, xs, rfl, _⟩ := ha.list; cases hb.none
      exact op_notN pins s σ H _ _ v u Q I rx ry ⟨rfl, by simpa using qb⟩
    · cases e; obtain ⟨l, xs, rfl, _⟩ := ha.tuple; cases hb.none
      exact op_notN pins s σ H _ _ v u Q I rx ry ⟨rfl, by simpa using qb⟩
    · rcases ha with ha | ⟨_, _, ha⟩
      · cases ha
      · exact ha.elim
    · cases e
  | isin =>
    have e : inO a b = some t := e
    unfold inO at e
    obtain ⟨as, r1⟩ := reads ha rx
    obtain ⟨bs, r2⟩ := reads hb ry
    split at e
    · split at e <;> cases e
      rename_i hs
      exact SeqAt.in_list_reads r2 r1 (SeqAt.canLay_of_shaped hs.2) (SeqAt.canLay_of_shaped hs.1) (room_in_shaped hs.1 hu) (fin s I)
    · split at e <;> cases e
      rename_i hs
      exact SeqAt.in_tuple_reads r2 r1 (SeqAt.canLay_of_shaped hs.2) (SeqAt.canLay_of_shaped hs.1) (room_in_shaped hs.1 hu) (fin s I)
    · cases e
  | notin =>
    clear e
    obtain ⟨t', e, et⟩ := Option.map_eq_some_iff.mp (show (inO a b).map (!·) = some t from h1)
    clear h1
    subst et
    unfold inO at e
    obtain ⟨as, r1⟩ := reads ha rx
    obtain ⟨bs, r2⟩ := reads hb ry
    split at e
    · split at e <;> cases e
      rename_i hs
      exact SeqAt.notIn_list_reads r2 r1 (SeqAt.canLay_of_shaped hs.2) (SeqAt.canLay_of_shaped hs.1) (room_in_shaped hs.1 hu) (fin s I)
    · split at e <;> cases e
      rename_i hs
      exact SeqAt.notIn_tuple_reads r2 r1 (SeqAt.canLay_of_shaped hs.2) (SeqAt.canLay_of_shaped hs.1) (room_in_shaped hs.1 hu) (fin s I)
    · cases e
/-- an item of a list or a tuple -/
theorem ixr : IxR X (fun x y H Q => OpV X.K .idx [x, y] H Q) := by
  intro value slice pins s σ H x y v u Q I rx ry h hs
  obtain ⟨N, ds, r, pr, e, q⟩ := h
  obtain ⟨a, b, rfl, ha, hb⟩ := paired2 pr
  obtain ⟨t, h1', h2⟩ := Option.map_eq_some_iff.mp (show (ixO a b).map R.v = some r from e)
  clear e
  have e := h1'
  subst h2
  unfold ixO at e
  split at e
  · obtain ⟨l, xs, rfl, h1, h2⟩ := ha.list
    cases hb.int
    clear h1'
    rename_i ds i
    unfold atI at e
    obtain ⟨j, e1, e2⟩ := Option.bind_eq_some_iff.mp e
    obtain ⟨w, e3, e4⟩ := h2.get e2
    exact ix_list value slice pins s σ H _ _ v u Q I rx ry ⟨_, xs, i, w, rfl, rfl, h1, (by unfold atI; rw [h2.length, e1]; exact e3), q _ _ (res_d e4)⟩ hs
  · obtain ⟨l, xs, rfl, h1, h2⟩ := ha.tuple
    cases hb.int
    clear h1'
    rename_i ds i
    unfold atI at e
    obtain ⟨j, e1, e2⟩ := Option.bind_eq_some_iff.mp e
    obtain ⟨w, e3, e4⟩ := h2.get e2
    exact ix_tup value slice pins s σ H _ _ v u Q I rx ry ⟨_, xs, i, w, rfl, rfl, h1, (by unfold atI; rw [h2.length, e1]; exact e3), q _ _ (res_d e4)⟩ hs
  · cases e
theorem DRs.cut {K : PySem.W.Frag} {H : Hp} {N : Addr → Prop} {vs : List V} {ds : List D} (h : DRs K H N vs ds) (lo hi : Option Int) : DRs K H N (cutV vs lo hi) (cutL ds lo hi) := by
  unfold cutV cutL
  rw [h.length]
  exact (h.drop _).take _
/-- a slice's reading, with its ends -/
def SlV (K : PySem.W.Frag) (x : V) (lo hi : Option Int) (H : Hp) (Q : VK) : Prop := ∃ N a r, RdV K H N x a ∧ slO' a lo hi = some r ∧ ∀ v H', ResV K N H r v H' → Q v H'
theorem slr : SlR X (SlV X.K) := by
  intro pins s σ H x v vl vu lo hi sl Q I rx hs pl pu h
  obtain ⟨N, a, r, ha, e, q⟩ := h
  unfold slO' at e
  split at e
  · cases e
    obtain ⟨l, xs, rfl, h1, h2⟩ := ha.list
    exact sl_list pins s σ H _ v vl vu lo hi sl Q I rx hs pl pu ⟨_, xs, rfl, h1, fun p hp => q _ _ (res_lst (h2.cut lo hi) hp)⟩
  · cases e
    obtain ⟨l, xs, rfl, h1, h2⟩ := ha.tuple
    refine sl_tupA pins s σ H _ v vl vu lo hi sl Q I rx hs pl pu ⟨_, xs, rfl, h1, fun w => q _ _ (res_d (.tup h1 ?_)), fun _ p hp => q _ _ (res_tup (h2.cut lo hi) hp)⟩
    have := h2.cut lo hi
    have e : cutV xs lo hi = xs := by
      unfold cutV
      rw [w.1, w.2]
      simp
    rw [e] at this
    exact this
  · split at e <;> cases e
    rename_i hz
    cases ha.str
    exact sl_str pins s σ H _ v vl vu lo hi sl Q I rx hs pl pu ⟨_, rfl, hz, q _ _ res_str⟩
  · cases e
end Mi
set_option maxRecDepth 100000
set_option maxHeartbeats 2000000
namespace Mi
open PySem L2 PySem.Spec PyProof.Rows
variable {X : Cx}
section
variable {K : PySem.W.Frag} {H : Hp} {N : Addr → Prop}
theorem DRs.ints : ∀ {vs : List V} {ds : List D} {is : List Int}, DRs K H N vs ds → intsOf ds = some is → vs = is.map V.int
  | [], _, is, h, e => by cases h; simp [intsOf] at e; subst e; rfl
  | v :: vs, _, is, h, e => by
    cases h with
    | @cons _ d _ ds h1 h2 =>
      cases d <;> simp [intsOf] at e
      obtain ⟨js, e1, rfl⟩ := e
      cases h1
      rw [h2.ints e1]; rfl
end
/-- the readings of built-in calls -/
def BiV (K : PySem.W.Frag) (b : Bi) (vs : List V) (H : Hp) (Q : VK) : Prop := OpV K (.bi b) vs H Q
theorem bi_split {b : Bi} {vs : List V} {H : Hp} {Q : VK} (h : OpV X.K (.bi b) vs H Q) : ∃ N ds r, Paired (RdV X.K H N) vs ds ∧ biO b ds = some r ∧ ∀ v H', ResV X.K N H r v H' → Q v H' := h
theorem paired_len {α β : Type} {F : α → β → Prop} : ∀ {xs : List α} {ys : List β}, Paired F xs ys → xs.length = ys.length
  | _, _, .nil => rfl
  | _, _, .cons _ t => by simp [paired_len t]
theorem args1 {α β : Type} {F : α → β → Prop} {xs : List α} {d : β} (h : Paired F xs [d]) : ∃ x, xs = [x] ∧ F x d := by
  cases h with
  | cons a t => cases t; exact ⟨_, rfl, a⟩
theorem args2 {α β : Type} {F : α → β → Prop} {xs : List α} {d e : β} (h : Paired F xs [d, e]) : ∃ x y, xs = [x, y] ∧ F x d ∧ F y e := by
  cases h with
  | cons a t => cases t with
    | cons b t => cases t; exact ⟨_, _, rfl, a, b⟩
theorem cr_len : CallR X (.builtin "len") (OpV X.K (.bi .len)) := by
  intro pins s σ H xs us Q I rx h
  obtain ⟨N, ds, r, pr, e, q⟩ := bi_split h
  unfold biO at e
  split at e <;> (try (rename_i hh; cases hh)) <;> first | contradiction | skip
  · cases e
    obtain ⟨x, rfl, hx⟩ := args1 pr
    obtain ⟨a, ys, rfl, h1, h2⟩ := hx.list
    exact call_len_seq pins s σ H _ us Q I rx ⟨a, ys, rfl, .inl h1, by rw [h2.length]; exact q _ _ res_int⟩
  · cases e
    obtain ⟨x, rfl, hx⟩ := args1 pr
    obtain ⟨a, ys, rfl, h1, h2⟩ := hx.tuple
    exact call_len_seq pins s σ H _ us Q I rx ⟨a, ys, rfl, .inr h1, by rw [h2.length]; exact q _ _ res_int⟩
  · split at e <;> cases e
    rename_i hz
    obtain ⟨x, rfl, hx⟩ := args1 pr
    cases hx.str
    exact call_len pins s σ H _ us Q I rx ⟨_, _, rfl, ⟨hz, rfl⟩, q _ _ res_int⟩
theorem cr_tuple : CallR X (.type "tuple") (OpV X.K (.bi .tuple)) := by
  intro pins s σ H xs us Q I rx h
  obtain ⟨N, ds, r, pr, e, q⟩ := bi_split h
  unfold biO at e
  split at e <;> (try (rename_i hh; cases hh)) <;> first | contradiction | skip
  · cases e
    obtain ⟨x, rfl, hx⟩ := args1 pr
    obtain ⟨a, ys, rfl, h1, h2⟩ := hx.list
    exact call_tuple_of pins s σ H _ us Q I rx ⟨a, ys, rfl, .inl ⟨h1, fun p hp => q _ _ (res_tup h2 hp)⟩⟩
  · cases e
    obtain ⟨x, rfl, hx⟩ := args1 pr
    obtain ⟨a, ys, rfl, h1, h2⟩ := hx.tuple
    exact call_tuple_of pins s σ H _ us Q I rx ⟨a, ys, rfl, .inr ⟨h1, q _ _ (res_d (.tup h1 h2))⟩⟩
theorem cr_list : CallR X (.type "list") (OpV X.K (.bi .list)) := by
  intro pins s σ H xs us Q I rx h
  obtain ⟨N, ds, r, pr, e, q⟩ := bi_split h
  unfold biO at e
  split at e <;> (try (rename_i hh; cases hh)) <;> first | contradiction | skip
  · cases e
    obtain ⟨x, rfl, hx⟩ := args1 pr
    obtain ⟨a, ys, rfl, h1, h2⟩ := hx.list
    exact call_list_of pins s σ H _ us Q I rx ⟨a, ys, rfl, .inl h1, fun p hp => q _ _ (res_lst h2 hp)⟩
  · cases e
    obtain ⟨x, rfl, hx⟩ := args1 pr
    obtain ⟨a, ys, rfl, h1, h2⟩ := hx.tuple
    exact call_list_of pins s σ H _ us Q I rx ⟨a, ys, rfl, .inr h1, fun p hp => q _ _ (res_lst h2 hp)⟩
theorem crm_sum (hc : X.calm = true) : CallR X (.builtin "sum") (OpV X.K (.bi .sum)) := by
  intro pins s σ H xs us Q I rx h
  obtain ⟨N, ds, r, pr, e, q⟩ := bi_split h
  unfold biO at e
  split at e <;> (try (rename_i hh; cases hh)) <;> first | contradiction | skip
  obtain ⟨x, rfl, hx⟩ := args1 pr
  obtain ⟨is, e1, rfl⟩ := Option.map_eq_some_iff.mp e
  obtain ⟨a, ys, rfl, h1, h2⟩ := hx.list
  obtain rfl := h2.ints e1
  exact L2.cr_sum hc pins s σ H _ us Q I rx ⟨a, is, rfl, h1, q _ _ res_int⟩
theorem crm_min1 (hc : X.calm = true) : CallR X (.builtin "min") (OpV X.K (.bi .min1)) := by
  intro pins s σ H xs us Q I rx h
  obtain ⟨N, ds, r, pr, e, q⟩ := bi_split h
  unfold biO at e
  split at e <;> (try (rename_i hh; cases hh)) <;> first | contradiction | skip
  obtain ⟨x, rfl, hx⟩ := args1 pr
  obtain ⟨is, e1, e2⟩ := Option.bind_eq_some_iff.mp e
  obtain ⟨m, e3, rfl⟩ := Option.map_eq_some_iff.mp e2
  obtain ⟨a, ys, rfl, h1, h2⟩ := hx.list
  obtain rfl := h2.ints e1
  have hm := List.min?_eq_some_iff.mp e3
  refine L2.cr_min hc pins s σ H _ us Q I rx ⟨a, is, rfl, h1, List.length_pos_of_mem hm.1, fun m' h3 h4 => ?_⟩
  have e5 : m' = m := Int.le_antisymm (h4 m hm.1) (hm.2 m' h3)
  subst e5
  exact q _ _ res_int
theorem crm_max1 (hc : X.calm = true) : CallR X (.builtin "max") (OpV X.K (.bi .max1)) := by
  intro pins s σ H xs us Q I rx h
  obtain ⟨N, ds, r, pr, e, q⟩ := bi_split h
  unfold biO at e
  split at e <;> (try (rename_i hh; cases hh)) <;> first | contradiction | skip
  obtain ⟨x, rfl, hx⟩ := args1 pr
  obtain ⟨is, e1, e2⟩ := Option.bind_eq_some_iff.mp e
  obtain ⟨m, e3, rfl⟩ := Option.map_eq_some_iff.mp e2
  obtain ⟨a, ys, rfl, h1, h2⟩ := hx.list
  obtain rfl := h2.ints e1
  have hm := List.max?_eq_some_iff.mp e3
  refine L2.cr_max hc pins s σ H _ us Q I rx ⟨a, is, rfl, h1, List.length_pos_of_mem hm.1, fun m' h3 h4 => ?_⟩
  have e5 : m' = m := Int.le_antisymm (hm.2 m' h3) (h4 m hm.1)
  subst e5
  exact q _ _ res_int
theorem crm_min2 (hc : X.calm = true) : CallR X (.builtin "min") (OpV X.K (.bi .min2)) := by
  intro pins s σ H xs us Q I rx h
  obtain ⟨N, ds, r, pr, e, q⟩ := bi_split h
  unfold biO at e
  split at e <;> (try (rename_i hh; cases hh)) <;> first | contradiction | skip
  cases e
  obtain ⟨x, y, rfl, hx, hy⟩ := args2 pr
  cases hx.int; cases hy.int
  exact call_min2 hc pins s σ H _ us Q I rx ⟨_, _, rfl, q _ _ res_int⟩
theorem crm_max2 (hc : X.calm = true) : CallR X (.builtin "max") (OpV X.K (.bi .max2)) := by
  intro pins s σ H xs us Q I rx h
  obtain ⟨N, ds, r, pr, e, q⟩ := bi_split h
  unfold biO at e
  split at e <;> (try (rename_i hh; cases hh)) <;> first | contradiction | skip
  cases e
  obtain ⟨x, y, rfl, hx, hy⟩ := args2 pr
  cases hx.int; cases hy.int
  exact call_max2 hc pins s σ H _ us Q I rx ⟨_, _, rfl, q _ _ res_int⟩
theorem crm_abs : CallR X (.builtin "abs") (OpV X.K (.bi .abs)) := by
  intro pins s σ H xs us Q I rx h
  obtain ⟨N, ds, r, pr, e, q⟩ := bi_split h
  unfold biO at e
  split at e <;> (try (rename_i hh; cases hh)) <;> first | contradiction | skip
  cases e
  obtain ⟨x, rfl, hx⟩ := args1 pr
  cases hx.int
  exact call_abs pins s σ H _ us Q I rx ⟨_, rfl, q _ _ res_int⟩
theorem crm_int : CallR X (.type "int") (OpV X.K (.bi .int)) := by
  intro pins s σ H xs us Q I rx h
  obtain ⟨N, ds, r, pr, e, q⟩ := bi_split h
  unfold biO at e
  split at e <;> (try (rename_i hh; cases hh)) <;> first | contradiction | skip
  · cases e
    obtain ⟨x, rfl, hx⟩ := args1 pr
    cases hx.int
    exact call_int1 pins s σ H _ us Q I rx (.inl ⟨_, rfl, q _ _ res_int⟩)
  · cases e
    obtain ⟨x, rfl, hx⟩ := args1 pr
    cases hx.bool
    exact call_int1 pins s σ H _ us Q I rx (.inr ⟨_, rfl, q _ _ res_int⟩)
/-- a value's truth -/
theorem tru_v {K : PySem.W.Frag} {H : Hp} {N : Addr → Prop} {x : V} {d : D} {b : Bool} (h : RdV K H N x d) (e : truO d = some b) : TruV K x H b := by
  cases d with
  | none => cases h.none; cases e; rfl
  | bool t => cases h.bool; cases e; rfl
  | int i => cases h.int; cases e; rfl
  | str z =>
    cases h.str
    simp only [truO] at e
    split at e <;> cases e
    rename_i hz
    refine ⟨hz, ?_⟩
    have : ((z.length : Int) != 0) = (z.length != 0) := by
      cases h0 : z.length with
      | zero => rfl
      | succ n => simp; omega
    exact this.symm
  | list ds =>
    obtain ⟨a, ys, rfl, h1, h2⟩ := h.list
    cases e
    refine .inl ⟨ys, h1, ?_⟩
    have := h2.length
    cases ys <;> cases ds <;> simp at this <;> rfl
  | tuple ds =>
    obtain ⟨a, ys, rfl, h1, h2⟩ := h.tuple
    cases e
    refine .inr (.inl ⟨ys, h1, ?_⟩)
    have := h2.length
    cases ys <;> cases ds <;> simp at this <;> rfl
  | dict kvs =>
    rcases h with h | ⟨_, _, h⟩
    · cases h
    · exact h.elim
end Mi
set_option maxRecDepth 100000
set_option maxHeartbeats 2000000
namespace RT
open PySem PySem.Spec PyProof.Rows L2 PySem.W PySem.Calls PyProof.V
section
variable {prog : Program} {w : World} {A : Around} {E : Value → Shared → Prop} {s : Shared}
theorem revl_extend {R : Result → Shared → Prop} {it l S : Addr} {items : Array Value} {c₀ : Nat} (hh : A.handled = none) (hit : s.heap.IsRevIter it l ((items.size : Int) - 1)) (hl : s.heap.IsList l items) (hne : l ≠ it) (hSi : S ≠ it) (hSl : S ≠ l) (hn : items.size ≤ sizeLine)
    (hS : s.heap.get? S = some { cls := .type "list", data := .seq #[] c₀ })
    (hR : ∀ h' tk acc' c', (∀ b o, b ≠ S → b ≠ it → s.heap.get? b = some o → h'.get? b = some o) → h'.get? S = some { cls := .type "list", dict := none, data := .seq acc' c', slots := #[] } → ItemsOf (fun i v => items[items.size - 1 - i]? = some v) acc' items.size → R (.ok (.ret .none)) { s with heap := h', toks := tk }) :
    wpAny (model prog w) A.in1 (Builtin.List.listExtendWith (.ref S) (.ref it) .none)
      (fun fin s' => match fin with | .done f => R (.ok f) s' | .again c' => c'.quiet = true ∧ codeAny (model prog w) A c' R s') (fun e s' => R (.error e) s') s := by
  have W := (Walks.listRev (prog := prog) (w := w) (A := A.in1) hh it l hne items).toS
  have hSf : S ∉ [it, l] := by simp only [List.mem_cons, List.not_mem_nil, or_false, not_or]; exact ⟨hSi, hSl⟩
  have hT : s.TypeIs (.ref it) "list_reverseiterator" := Heap.IsRevIter.typeIs hit
  have h1 : Builtin.List.listSameRef (.ref S) (.ref it) = false := by simp [Builtin.List.listSameRef, hSi]
  unfold Builtin.List.listExtendWith
  refine wpAny_bind (wpAny_typeOf hT ?_)
  rw [if_neg (by rw [h1]; decide)]
  refine wpAny_bind (wpAny_pyIter_revIter hit ?_)
  refine wpAny_bind (wpAny_holding ?_)
  unfold Builtin.List.listLengthHint
  refine wpAny_bind (wpAny_specialOf hT nolen_lri ?_)
  show wpAny _ A.in1 (specialOf (Value.ref it) (Str.ofString "__length_hint__") >>= _) _ _ _
  refine wpAny_bind (wpAny_specialOf hT hint_lri ?_)
  generalize hid : ("list_reverseiterator.__length_hint__" : String) = id0
  wp_delta
  rw [show splitId id0 = some ("list_reverseiterator", "__length_hint__") from by subst hid; decide +kernel]
  subst hid
  refine wpAny_bind (wpAny_isInstance (b := true) hT (by rw [isSubtype_type]; kernel_rfl) ?_)
  refine wpAny_pure ?_
  rw [if_neg (by decide)]
  have e0 : ((items.size : Nat) : Int) - 1 - ((0 : Nat) : Int) = (items.size : Int) - 1 := by omega
  refine wpAny_pure ⟨plainId_quiet F.plain_extend_loop _, codeAny_extend_loopS W hn _ hSf _ items.size 0 _ _ _ rfl (Nat.zero_le _) ⟨Nat.zero_le _, by rw [e0]; exact hit, hl⟩ hS (ItemsOf.nil _) fun s' acc' c' hm hS' hacc => ?_⟩
  rw [Moved.eq_with hm]
  refine hR s'.heap s'.toks acc' c' (fun b o hb hi e => hm.heap b o (fun hmem => ?_) e) hS' hacc
  rcases List.mem_cons.mp hmem with e' | hmem
  · exact hb e'
  · exact hi (List.mem_singleton.mp hmem)
theorem call_list_rev {it l : Addr} {items : Array Value} {Q : Value → Shared → Prop} (hh : A.handled = none) (hit : s.heap.IsRevIter it l ((items.size : Int) - 1)) (hl : s.heap.IsList l items) (hne : l ≠ it) (hn : items.size ≤ sizeLine)
    (hQ : ∀ (h' : Heap) (tk : Nat) (acc : Array Value) (c : Nat), (∀ b o, b ≠ it → s.heap.get? b = some o → h'.get? b = some o) → h'.get? s.heap.objs.size = some { cls := .type "list", dict := none, data := .seq acc c, slots := #[] } → ItemsOf (fun i v => items[items.size - 1 - i]? = some v) acc items.size →
      Q (.ref s.heap.objs.size) { s with heap := h', toks := tk }) :
    wpAny (model prog w) A (call (.type "list") [.ref it]) Q E s := by
  obtain ⟨oi, hoi, _⟩ := id hit
  obtain ⟨ol, hol, _⟩ := id hl
  have hSi : s.heap.objs.size ≠ it := Nat.ne_of_gt (Heap.lt_size hoi)
  have hSl : s.heap.objs.size ≠ l := Nat.ne_of_gt (Heap.lt_size hol)
  refine callType_codes (Q₁ := fun obj s₁ => obj = .ref s.heap.objs.size ∧ s₁ = { s with heap := s.heap.push { cls := .type "list", data := .seq #[] } }) PySem.F.called_list (PySem.F.typeCall_list_1 _) PySem.F.entry_list_init
    (code_list_new _ ⟨rfl, rfl⟩) fun obj s₁ h₁ => ?_
  obtain ⟨rfl, rfl⟩ := h₁
  have hS : (s.heap.push { cls := .type "list", data := .seq #[] }).get? s.heap.objs.size = some { cls := .type "list", data := .seq #[] } := Heap.get?_push_size _ rfl
  refine ⟨⟨_, hS, rfl⟩, PySem.F.args_list_init_2 _ _, ?_⟩
  show wpAny _ A.in1.in1 (do let old ← Builtin.List.listItems (.ref s.heap.objs.size); Builtin.List.listUpdate (.ref s.heap.objs.size) (fun _ => #[]); letGo old.toList.reverse; Builtin.List.listExtendWith (.ref s.heap.objs.size) (.ref it) .none) _ _ _
  refine wpAny_bind ?_
  unfold Builtin.List.listItems
  refine wpAny_bind (wpAny_seqItems hS rfl (wpAny_pure ?_))
  show wpAny _ A.in1.in1 (updateSeq s.heap.objs.size (fun _ => #[]) >>= fun _ => letGo (#[] : Array Value).toList.reverse >>= fun _ => Builtin.List.listExtendWith (.ref s.heap.objs.size) (.ref it) .none) _ _ _
  refine wpAny_bind (wpAny_updateSeq hS rfl ?_)
  have hS2 := Heap.get?_update_self (Obj.mapSeq (fun _ => (#[] : Array Value))) hS rfl
  have oth : ∀ b o, b ≠ s.heap.objs.size → (s.heap.push { cls := .type "list", data := .seq #[] }).get? b = some o → ((s.heap.push { cls := .type "list", data := .seq #[] }).update s.heap.objs.size (Obj.mapSeq (fun _ => (#[] : Array Value)))).get? b = some o :=
    fun b o hb e => (Heap.get?_update_other _ _ (Ne.symm hb)).trans e
  refine wpAny_bind (wpAny_letGo ?_)
  refine revl_extend (A := A.in1) hh (Heap.IsRevIter.at hit fun o e => oth _ _ hSi.symm (Heap.get?_push_of_some _ e)) (Heap.IsList.at hl fun o e => oth _ _ hSl.symm (Heap.get?_push_of_some _ e)) hne hSi hSl hn hS2 fun h' tk acc' c' hk hS' hacc => ?_
  exact ⟨rfl, hQ h' tk acc' c' (fun b o hb e => hk b o (Nat.ne_of_lt (Heap.lt_size e)) hb (oth b o (Nat.ne_of_lt (Heap.lt_size e)) (Heap.get?_push_of_some _ e))) hS' hacc⟩
end
section
variable {X : Cx}
def tLstRev (K : PySem.W.Frag) (te : TE) : TE := fun σ H Q => te σ H fun v H1 => ∃ (a : Addr) (xs : List V), v = .ref a ∧ SqL K H1 a xs ∧ ∀ q, H1 q = none → Q (.ref q) (upd H1 q (.lst xs.reverse))
/-- list(reversed(x)), x a list -/
theorem pe_lstRev {e : Expr} {te : TE} {p p2 pos pos2 : Pos} (hc : X.calm = true) (hg : Gl X "list") (hm : X.mg "list" = none) (hg2 : Gl X "reversed") (hm2 : X.mg "reversed" = none) (he : PE X e te)
    (hs : starEach [e] X.env = (false, eval e X.env) :: starEach [] X.env)
    (hs2 : starEach [.Call (.Name "reversed" p2) [e] [] pos2] X.env = (false, eval (.Call (.Name "reversed" p2) [e] [] pos2) X.env) :: starEach [] X.env := by rfl) :
    PE X (.Call (.Name "list" p) [.Call (.Name "reversed" p2) [e] [] pos2] [] pos) (tLstRev X.K te) := by
  refine ⟨fun pins s σ H Q I h => ?_⟩
  refine Call_ (ld_blt I hg hm boot_list (PyProof.Rows.callWith_type1 (args_cons (Call_ (ld_blt I hg2 hm2 PyProof.Rows.boot_reversed (PyProof.Rows.callWith_type1 (args_cons (thn (he.run pins s σ H _ I h) fun u s1 ⟨v, H1, I1, r1, q1⟩ => args_nil ?_) hs) hs rfl))) hs2) hs2 rfl))
  obtain ⟨a, xs, ev, hq, q⟩ := q1
  subst ev
  obtain rfl : u = Value.ref a := r1
  obtain ⟨its, rv, p', hz⟩ := I1.list hq
  refine call_reversed_list p'.isList (args_nil ?_)
  have k0 : ∀ b o, s1.heap.get? b = some o → (s1.heap.push (revObj a ((its.toArray.size : Int) - 1))).get? b = some o := fun b o e => Heap.get?_push_of_some _ e
  have I2 : Inv X pins σ H1 { s1 with heap := s1.heap.push (revObj a ((its.toArray.size : Int) - 1)) } := I1.kept (t' := s1.toks) k0
  obtain ⟨f0, f1, f2, f3, f4, f5⟩ := I1.fpOk (H' := H1) (b := s1.heap.objs.size) (Nat.le_refl _) (I1.hok.fresh (Nat.le_refl _))
  have hl := p'.isList
  obtain ⟨ol, hol, _⟩ := id hl
  have hne : a ≠ s1.heap.objs.size := Nat.ne_of_lt (Heap.lt_size hol)
  have hn : its.toArray.size ≤ sizeLine := by rw [List.size_toArray, ← rv.length]; exact hz
  refine call_list_rev (s := { s1 with heap := s1.heap.push (revObj a ((its.toArray.size : Int) - 1)) }) (I1.ok.hd hc) ⟨_, Heap.get?_push_size _ rfl, rfl, rfl⟩ (hl.push _) hne hn fun h' tk acc c hk hS hi => ?_
  have hF : H1 (s1.heap.push (revObj a ((its.toArray.size : Int) - 1))).objs.size = none := I2.hok.fresh (Nat.le_refl _)
  have hge : s1.heap.objs.size ≤ (s1.heap.push (revObj a ((its.toArray.size : Int) - 1))).objs.size := by rw [Heap.size_push]; exact Nat.le_succ _
  refine ⟨.ref _, upd H1 (s1.heap.push (revObj a ((its.toArray.size : Int) - 1))).objs.size (.lst xs.reverse), I1.laid (h' := h') (t' := tk) (fun b u e => hk b u (Nat.ne_of_lt (Heap.lt_size e)) (k0 b u e)) hge
    (show ObjOk X.prog X.w _ _ _ (.lst xs.reverse) from ⟨by rw [List.length_reverse]; exact hz, acc.toList, c, vals_rev rv hi, by rw [Array.toArray_toList]; exact hS⟩), rfl, q _ hF⟩
end
end RT
namespace Mi
open PySem L2 PySem.Spec PyProof.Rows
section
variable {X : Cx} {T B : Addr → Prop} {W : WC} {C : Den}
end
end Mi
set_option maxRecDepth 100000
set_option maxHeartbeats 4000000
namespace Mi
open PySem L2 PySem.Spec PyProof.Rows
section
variable {K : PySem.W.Frag} {H : Hp} {N : Addr → Prop}
theorem each_pairs {X : Cx} {pins : List (Addr × Obj)} {σ : L2.St} {H : Hp} {s : Shared} (I : Inv X pins σ H s) : ∀ {xs : List V} {ds : List D} {us : List Value}, DRs X.K H N xs ds → Vals xs us →
    PySem.W.EachIs (fun u (b : V × D) => RelV b.1 u ∧ DR X.K H N b.1 b.2) us (xs.zip ds) ∧ PySem.W.EachIs (fun u (b : V × D) => ∃ as, Reads s.heap u b.2 as) us (xs.zip ds) ∧ (xs.zip ds).map (·.2) = ds
  | [], [], _, h, r => by cases r; exact ⟨.nil, .nil, rfl⟩
  | x :: xs, d :: ds, _, h, r => by
    cases h with
    | cons h1 h2 =>
      cases r with
      | cons r1 r2 =>
        obtain ⟨a, b, c⟩ := each_pairs I h2 r2
        exact ⟨.cons ⟨r1, h1⟩ a, .cons (Dp.reads I _ _ _ h1.dp r1) b, by simp [c]⟩
  | [], _ :: _, _, h, _ => by cases h
  | _ :: _, [], _, h, _ => by cases h
theorem each_out {us : List Value} {bs : List (V × D)} (h : PySem.W.EachIs (fun u (b : V × D) => RelV b.1 u ∧ DR K H N b.1 b.2) us bs) : Vals (bs.map (·.1)) us ∧ DRs K H N (bs.map (·.1)) (bs.map (·.2)) := by
  induction h with
  | nil => exact ⟨.nil, .nil⟩
  | cons a t ih => exact ⟨.cons a.1 ih.1, .cons a.2 ih.2⟩
end
section
variable {X : Cx}
theorem crm_sorted (hu : X.A.units + 80 < cLine) : CallR X (.builtin "sorted") (OpV X.K (.bi .sorted)) := by
  intro pins s σ H xs us Q I rx h
  obtain ⟨N, ds, r, pr, e, q⟩ := bi_split h
  unfold biO at e
  split at e <;> (try (rename_i hh; cases hh)) <;> first | contradiction | skip
  rename_i ds
  split at e <;> cases e
  rename_i hok
  unfold sortOk at hok
  simp only [Bool.and_eq_true, decide_eq_true_eq] at hok
  obtain ⟨⟨⟨h1, h2⟩, h3⟩, h4⟩ := hok
  obtain ⟨x, rfl, hx⟩ := args1 pr
  obtain ⟨a, ys, rfl, hq, hd⟩ := hx.list
  obtain ⟨u, rfl, ru⟩ := rx.one
  cases ru
  obtain ⟨its, rv, pl, hz⟩ := I.list hq
  obtain ⟨e1, e2, e3⟩ := each_pairs I hd rv
  have hlen : (ys.zip ds).length = ds.length := by rw [List.length_zip, hd.length, Nat.min_self]
  refine PySem.W.sorted_data (enc := Prod.snd) pl.isList e1 e2 ?_ ?_ (by rw [hlen]; exact h4) (fun b hb => ?_) fun out ho eo => ?_
  · show PySem.W.AllAlike ((ys.zip ds).map (·.2))
    rw [e3]
    intro d hd' d' hd2
    exact List.all_eq_true.mp (List.all_eq_true.mp h1 d hd') d' hd2
  · show PySem.W.Sortable ((ys.zip ds).map (·.2))
    rw [e3]
    rcases Bool.or_eq_true _ _ ▸ h2 with h2 | h2
    · left
      intro d hd'
      have := List.all_eq_true.mp h2 d hd'
      unfold tup1 at this
      split at this
      · exact ⟨_, _, rfl⟩
      · cases this
    · right
      intro d hd'
      have := List.all_eq_true.mp h2 d hd'
      refine ⟨fun z => by subst z; simp [notTN] at this, fun xs z => by subst z; simp [notTN] at this⟩
  · have hb' : b.2 ∈ ds := by rw [← e3]; exact List.mem_map_of_mem hb
    have := List.all_eq_true.mp h3 b.2 hb'
    simp only [decide_eq_true_eq] at this
    show X.A.units + 2 + b.2.depth < cLine
    omega
  · obtain ⟨a1, a2⟩ := each_out eo
    have hmap : ((ys.zip ds).mergeSort (PySem.W.dataLe false Prod.snd)).map (·.2) = ds.mergeSort (PySem.W.dataLe false id) := by
      have := List.map_mergeSort (r := PySem.W.dataLe false Prod.snd) (s := PySem.W.dataLe false id) (f := Prod.snd) (l := ys.zip ds) (fun a _ b _ => rfl)
      exact this.trans (by rw [e3])
    rw [hmap] at a2
    obtain ⟨ep, he'⟩ := PyProof.Rows.sortedAll_at s.heap its out.toArray
    have hl2 : (((ys.zip ds).mergeSort (PySem.W.dataLe false Prod.snd)).map (·.1)).length ≤ sizeLine := by
      rw [List.length_map, List.length_mergeSort, hlen]; exact h4
    exact ⟨.ref _, upd H (s.heap.objs.size + 1) (.lst (((ys.zip ds).mergeSort (PySem.W.dataLe false Prod.snd)).map (·.1))), I.laid (t' := s.toks) (fun _ _ => PyProof.Rows.sortedAll_old) (Nat.le_succ _) ⟨hl2, out, ep, a1, he'⟩, rfl,
      q _ _ (res_lst a2 (I.hok.fresh (Nat.le_succ _)))⟩
/-! ### list(dict(pairs)) -/
mutual
theorem nk_is {pins : List (Addr × Obj)} {σ : L2.St} {H : Hp} {N : Addr → Prop} {s : Shared} (I : Inv X pins σ H s) : ∀ {d : D} {v : V} {u : Value} {k : NestedKey}, DR X.K H N v d → RelV v u → nkOf d = some k → NestedIs s.heap k u
  | .none, _, _, _, h, r, e => by cases h; cases r; cases e; exact .none
  | .bool b, _, _, _, h, r, e => by cases h; cases r; cases e; exact .bool rfl
  | .int i, _, _, _, h, r, e => by cases h; obtain ⟨t, rfl⟩ := r; cases e; exact .int _ _
  | .str i, _, _, _, h, r, e => by cases h; obtain ⟨t, rfl⟩ := r; cases e; exact .text _ _
  | .list i, _, _, _, h, r, e => by cases e
  | .dict i, _, _, _, h, r, e => by cases e
  | .tuple ds, _, _, _, h, r, e => by
    cases h with
    | tup h1 h2 =>
      cases r
      obtain ⟨ks, e1, rfl⟩ := Option.map_eq_some_iff.mp e
      obtain ⟨its, rv, ⟨o, ho, hc, n, hd⟩, hz⟩ := I.tuple h1
      exact .tup ho hc hd (nk_are I h2 (by simpa using rv) e1)
theorem nk_are {pins : List (Addr × Obj)} {σ : L2.St} {H : Hp} {N : Addr → Prop} {s : Shared} (I : Inv X pins σ H s) : ∀ {ds : List D} {vs : List V} {us : List Value} {ks : List NestedKey}, DRs X.K H N vs ds → Vals vs us → nkAll ds = some ks → NestedAll s.heap ks us
  | [], _, _, _, h, r, e => by cases h; cases r; cases e; exact .nil
  | d :: ds, _, _, _, h, r, e => by
    cases h with
    | cons h1 h2 =>
      cases r with
      | cons r1 r2 =>
        obtain ⟨k, e1, e⟩ := Option.bind_eq_some_iff.mp e
        obtain ⟨ks, e2, rfl⟩ := Option.map_eq_some_iff.mp e
        exact .cons (nk_is I h1 r1 e1) (nk_are I h2 r2 e2)
end
/-- the pairs in the heap -/
theorem pairs_at {pins : List (Addr × Obj)} {σ : L2.St} {H : Hp} {N : Addr → Prop} {s : Shared} (I : Inv X pins σ H s) : ∀ {ds : List D} {xs : List V} {us : List Value} {ks : List (NestedKey × D)}, DRs X.K H N xs ds → Vals xs us → pairsK ds = some ks →
    ∃ (Ts bs : List Addr) (vs : List Value), us = Ts.map Value.ref ∧ Ts.length = ks.length ∧ bs.length = ks.length ∧ vs.length = ks.length ∧
      (∀ (j : Nat) T b v x, Ts[j]? = some T → bs[j]? = some b → vs[j]? = some v → ks[j]? = some x → PairAt s.heap T (.ref b) v ∧ NestedIs s.heap x.1 (.ref b) ∧ x.1.depth ≤ 8 ∧ DR X.K H N (.ref b) x.2)
  | [], _, _, _, h, r, e => by cases h; cases r; cases e; exact ⟨[], [], [], rfl, rfl, rfl, rfl, fun j T b v x h => by simp at h⟩
  | d :: ds, _, _, _, h, r, e => by
    cases h with
    | @cons x _ xs _ h1 h2 =>
      cases r with
      | @cons _ u _ us r1 r2 =>
        unfold pairsK at e
        split at e
        · rename_i z; cases z
        · rename_i kd vd rs z
          cases z
          obtain ⟨nk, e1, e⟩ := Option.bind_eq_some_iff.mp e
          split at e
          · rename_i hc
            obtain ⟨ks, e2, rfl⟩ := Option.map_eq_some_iff.mp e
            obtain ⟨Ts, bs, vs, q1, q2, q3, q4, q5⟩ := pairs_at I h2 r2 e2
            cases h1 with
            | @tup T ys _ hs hds =>
              cases r1
              obtain ⟨its, rv, pt, hz⟩ := I.tuple hs
              cases hds with
              | cons g1 g2 =>
                cases g2 with
                | cons g2 g3 =>
                  cases g3
                  cases rv with
                  | cons w1 w2 =>
                    cases w2 with
                    | cons w2 w3 =>
                      cases w3
                      rename_i kv vv ku vu
                      have g1' := g1
                      have w1' := w1
                      cases kd <;> simp [isTup] at hc
                      cases g1 with
                      | @tup b _ _ hb1 hb2 =>
                        cases w1
                        refine ⟨T :: Ts, b :: bs, vu :: vs, by rw [q1]; rfl, by simp [q2], by simp [q3], by simp [q4], fun j T' b' v' x h1 h2 h3 h4 => ?_⟩
                        cases j with
                        | zero =>
                          simp at h1 h2 h3 h4
                          subst h1 h2 h3 h4
                          exact ⟨.inl pt, nk_is I g1' w1' e1, hc, g1'⟩
                        | succ j => exact q5 j T' b' v' x (by simpa using h1) (by simpa using h2) (by simpa using h3) (by simpa using h4)
          · cases e
        · cases e
theorem keys_stored {ks : List (NestedKey × D)} : ∀ {bs : List Addr} {vs : List Value} (acc : List (NestedKey × D)) (xs : List (NestedKey × Addr × Value)), bs.length = ks.length → vs.length = ks.length → True := fun _ _ _ _ => trivial
/-- keys with their addresses, as the model gathers them -/
theorem keys_all {P : Addr → D → Prop} : ∀ (ps : List (NestedKey × Addr × Value)) (ks : List (NestedKey × D)) (xs : List (NestedKey × Addr × Value)) (acc : List (NestedKey × D)), ps.map (·.1) = ks.map (·.1) → Paired (fun (p : NestedKey × Addr × Value) (k : NestedKey × D) => P p.2.1 k.2) ps ks →
    xs.map (·.1) = acc.map (·.1) → Paired (fun (p : NestedKey × Addr × Value) (k : NestedKey × D) => P p.2.1 k.2) xs acc →
    Paired (fun (p : NestedKey × Addr × Value) (k : NestedKey × D) => P p.2.1 k.2) (storedAllH xs ps) (keysAll acc ks)
  | [], ks, xs, acc, h1, h2, h3, h4 => by
    cases h2
    exact h4
  | p :: ps, ks, xs, acc, h1, h2, h3, h4 => by
    cases h2 with
    | @cons _ k _ ks a t =>
      simp only [List.map_cons, List.cons.injEq] at h1
      have find : (atKey xs p.1).isSome = (acc.find? fun y => decide (y.1 = k.1)).isSome := by
        unfold atKey
        rw [Option.isSome_map, h1.1]
        have : ∀ (l1 : List (NestedKey × Addr × Value)) (l2 : List (NestedKey × D)), l1.map (·.1) = l2.map (·.1) → (l1.find? fun x => decide (x.1 = k.1)).isSome = (l2.find? fun y => decide (y.1 = k.1)).isSome := by
          intro l1
          induction l1 with
          | nil => intro l2 h; cases l2 <;> simp at h ⊢
          | cons x l1 ih =>
            intro l2 h
            cases l2 with
            | nil => simp at h
            | cons y l2 =>
              simp only [List.map_cons, List.cons.injEq] at h
              simp only [List.find?_cons, h.1]
              by_cases z : y.1 = k.1
              · simp [z]
              · simp [z, ih l2 h.2]
        exact this xs acc h3
      show Paired _ (storedAllH (storedH xs p.1 p.2.1 p.2.2) ps) (keysAll (if (acc.find? fun y => decide (y.1 = k.1)).isSome then acc else acc ++ [k]) ks)
      unfold storedH
      rw [find]
      split
      · refine keys_all ps ks _ acc h1.2 t ?_ ?_
        · rw [List.map_map, ← h3]
          refine List.map_congr_left fun x _ => ?_
          unfold putAt
          show (if x.1 = p.1 then _ else _ : NestedKey × Addr × Value).1 = x.1
          split <;> rfl
        · rename_i hsp
          clear h3 find hsp
          induction h4 with
          | nil => exact .nil
          | @cons x y _ _ b _ ih =>
            refine .cons ?_ ih
            unfold putAt
            split <;> exact b
      · refine keys_all ps ks _ _ h1.2 t (by rw [List.map_append, List.map_append, h3]; simp [h1.1]) ?_
        rename_i hsp
        clear h3 find hsp
        induction h4 with
        | nil => exact .cons a .nil
        | cons b _ ih => exact .cons b ih
theorem paired_of_get {α β : Type} {F : α → β → Prop} : ∀ {xs : List α} {ys : List β}, xs.length = ys.length → (∀ (j : Nat) x y, xs[j]? = some x → ys[j]? = some y → F x y) → Paired F xs ys
  | [], [], _, _ => .nil
  | x :: xs, y :: ys, hl, h => .cons (h 0 x y rfl rfl) (paired_of_get (by simpa using hl) fun j x y h1 h2 => h (j + 1) x y (by simpa using h1) (by simpa using h2))
  | [], _ :: _, hl, _ => by simp at hl
  | _ :: _, [], hl, _ => by simp at hl
def tLstDict (K : PySem.W.Frag) (te : TE) : TE := fun σ H Q => te σ H fun x H1 => OpV K (.bi .dictKeys) [x] H1 Q
/-- list(dict(x)), x a list of pairs -/
theorem pe_lstDict {e : Expr} {te : TE} {p p2 pos pos2 : Pos} (hc : X.calm = true) (hu : X.A.units + 80 < cLine) (hg : Gl X "list") (hm : X.mg "list" = none) (hg2 : Gl X "dict") (hm2 : X.mg "dict" = none) (he : PE X e te)
    (hs : starEach [e] X.env = (false, eval e X.env) :: starEach [] X.env)
    (hs2 : starEach [.Call (.Name "dict" p2) [e] [] pos2] X.env = (false, eval (.Call (.Name "dict" p2) [e] [] pos2) X.env) :: starEach [] X.env := by rfl) :
    PE X (.Call (.Name "list" p) [.Call (.Name "dict" p2) [e] [] pos2] [] pos) (tLstDict X.K te) := by
  refine ⟨fun pins s σ H Q I h => ?_⟩
  refine Call_ (ld_blt I hg hm boot_list (PyProof.Rows.callWith_type1 (args_cons (Call_ (ld_blt I hg2 hm2 boot_dict (PyProof.Rows.callWith_type1 (args_cons (thn (he.run pins s σ H _ I h) fun u s1 ⟨v, H1, I1, r1, q1⟩ => args_nil ?_) hs) hs rfl))) hs2) hs2 rfl))
  obtain ⟨N, ds, r, pr, e, q⟩ := q1
  obtain ⟨d, rfl, hx⟩ := paired1 pr
  simp only [opO] at e
  unfold biO at e
  split at e <;> (try (rename_i hh; cases hh)) <;> first | contradiction | skip
  rename_i ds hcs
  cases hcs
  split at e
  case isFalse => cases e
  case isTrue hz =>
    obtain ⟨ks, hks, rfl⟩ := Option.map_eq_some_iff.mp e
    obtain ⟨a, ys, rfl, hq, hd⟩ := hx.list
    cases r1
    obtain ⟨its, rv, pl, hzl⟩ := I1.list hq
    obtain ⟨Ts, bs, vs, q1, q2, q3, q4, q5⟩ := pairs_at I1 hd rv hks
    have hl : its.length = ks.length := by rw [q1, List.length_map, q2]
    have hld : ks.length = ds.length := by rw [← hl, ← rv.length, hd.length]
    obtain ⟨o, n, e1, c1, c2, c3⟩ := pl
    let ps2 : List (Value × Value) := (bs.map Value.ref).zip vs
    let psH : List (NestedKey × Addr × Value) := (ks.map (·.1)).zip (bs.zip vs)
    have l2 : ps2.length = ks.length := by simp [ps2, q3, q4]
    have lH : psH.length = ks.length := by simp [psH, q3, q4]
    have g2 : ∀ (j : Nat) k v, ps2[j]? = some (k, v) → ∃ T b x, Ts[j]? = some T ∧ bs[j]? = some b ∧ vs[j]? = some v ∧ ks[j]? = some x ∧ k = .ref b := fun j k v hj => by
      have hjl : j < ks.length := by rw [← l2]; exact (List.getElem?_eq_some_iff.mp hj).1
      have hb : bs[j]? = some bs[j] := List.getElem?_eq_getElem (by omega)
      have hv : vs[j]? = some vs[j] := List.getElem?_eq_getElem (by omega)
      have : ps2[j]? = some (.ref bs[j], vs[j]) := by
        rw [List.getElem?_zip_eq_some]
        exact ⟨by rw [List.getElem?_map, hb]; rfl, hv⟩
      rw [hj] at this
      cases this
      exact ⟨Ts[j], bs[j], ks[j], List.getElem?_eq_getElem (by omega), hb, hv, List.getElem?_eq_getElem hjl, rfl⟩
    have gH : ∀ (j : Nat) y, psH[j]? = some y → ∃ T x, Ts[j]? = some T ∧ bs[j]? = some y.2.1 ∧ vs[j]? = some y.2.2 ∧ ks[j]? = some x ∧ y.1 = x.1 := fun j y hj => by
      have hjl : j < ks.length := by rw [← lH]; exact (List.getElem?_eq_some_iff.mp hj).1
      obtain ⟨k, b, v⟩ := y
      rw [List.getElem?_zip_eq_some] at hj
      obtain ⟨h1, h2⟩ := hj
      rw [List.getElem?_zip_eq_some] at h2
      rw [List.getElem?_map, List.getElem?_eq_getElem hjl] at h1
      cases h1
      exact ⟨Ts[j], ks[j], List.getElem?_eq_getElem (by omega), h2.1, h2.2, List.getElem?_eq_getElem hjl, rfl⟩
    have key : ∀ y ∈ psH, NestedIs s1.heap y.1 (.ref y.2.1) ∧ y.1.depth ≤ 8 := fun y hy => by
      obtain ⟨j, hj, ej⟩ := List.getElem_of_mem hy
      obtain ⟨T, x, h1, h2, h3, h4, h5⟩ := gH j y (by rw [List.getElem?_eq_getElem hj, ej])
      obtain ⟨_, a2, a3, _⟩ := q5 j T _ _ x h1 h2 h3 h4
      rw [h5]
      exact ⟨a2, a3⟩
    refine call_dict_pairsH (knd := nestedKind X.prog X.w) (ps := psH) (PairArg.list a its.toArray (fun j => Ts.getD j 0) ps2) (I1.ok.hd hc) (by show X.A.units + 1 + 1 + 8 < cLine; omega)
      ⟨⟨o, n, e1, c1, c2, c3⟩, by simp only [List.size_toArray]; rw [hl, l2], fun j k v hj => ?_⟩ ⟨by rw [lH, l2], fun i kv v hr => ?_⟩ (fun h' hk x hx => ?_) (by rw [l2, hld]; exact hz) fun h' tk hD hk => ?_
    · obtain ⟨T, b, x, h1, h2, h3, h4, rfl⟩ := g2 j k v hj
      obtain ⟨a1, _⟩ := q5 j T b v x h1 h2 h3 h4
      refine ⟨?_, ?_⟩
      · show its.toArray[j]? = _
        rw [← Array.getElem?_toList]
        simp only [q1]
        rw [List.getElem?_map, h1, List.getD_eq_getElem?_getD, h1]
        rfl
      · show PairAt s1.heap (Ts.getD j 0) (.ref b) v
        rw [List.getD_eq_getElem?_getD, h1]
        exact a1
    · obtain ⟨T, b, x, h1, h2, h3, h4, rfl⟩ := g2 i kv v hr
      refine ⟨x.1, b, ?_, rfl⟩
      rw [List.getElem?_zip_eq_some]
      refine ⟨by rw [List.getElem?_map, h4]; rfl, ?_⟩
      rw [List.getElem?_zip_eq_some]
      exact ⟨h2, h3⟩
    · obtain ⟨a2, a3⟩ := key x hx
      refine ⟨NestedIs.at (fun b ob vs n hb _ => hk b ob (Nat.ne_of_lt (Heap.lt_size hb)) (by simp) hb) _ _ a2, a3⟩
    · -- list(the dict)
      have I2 : Inv X pins σ H1 { s1 with heap := h', toks := tk } := I1.kept (t' := tk) fun b o e => hk b o (by simp) e
      obtain ⟨es, ep, ⟨od, ho, hxd, hdt⟩, hse, hent⟩ := hD.raw
      have lo : (s1.heap.objs.size == sysModules) = false := by
        have := I1.big
        simp only [beq_eq_false_iff_ne, ne_eq]
        exact Nat.ne_of_gt this
      have hst : (storedAllH [] psH).length ≤ ks.length := by
        have := storedAllH_length psH []
        have z : ([] : List (NestedKey × Addr × Value)).length = 0 := rfl
        omega
      refine args_nil (PySem.W.kdl_call (s := { s1 with heap := h', toks := tk }) (kdl_raw lo hxd hdt) (I1.ok.hd hc) ho (by rw [hse]; omega) fun h2 tk2 acc c kp e2 it => ?_)
      have hP := keys_all (P := fun b d => DR X.K H1 N (.ref b) d) psH ks [] [] (by
        show ((ks.map (·.1)).zip (bs.zip vs)).map (·.1) = _
        rw [List.map_fst_zip]
        simp [q3, q4]) ?_ rfl .nil
      · have hv : Vals (((storedAllH [] psH)).map fun x => V.ref x.2.1) acc.toList := by
          refine vals_of_at (by rw [List.length_map]; have z1 : acc.toList.length = acc.size := Array.length_toList; have z2 := it.1; omega) fun j x w h1 h2 => ?_
          rw [List.getElem?_map] at h1
          obtain ⟨y, hy, rfl⟩ := Option.map_eq_some_iff.mp h1
          obtain ⟨en, hen, rfl⟩ := it.2 j w (by rw [← Array.getElem?_toList]; exact h2)
          have hj : j < es.size := (Array.getElem?_eq_some_iff.mp hen).1
          obtain ⟨y', hy', hk1, _⟩ := hent j hj
          rw [hy] at hy'
          cases hy'
          rw [Array.getElem?_eq_getElem hj] at hen
          cases hen
          rw [hk1]
          exact rfl
        have hdr : DRs X.K H1 N ((storedAllH [] psH).map fun x => V.ref x.2.1) ((keysAll [] ks).map (·.2)) := by
          generalize storedAllH [] psH = l1 at hP
          generalize keysAll [] ks = l2' at hP
          clear hv
          induction hP with
          | nil => exact .nil
          | cons a _ ih => exact .cons a ih
        have hF : H1 h'.objs.size = none := I2.hok.fresh (Nat.le_refl _)
        refine ⟨.ref _, upd H1 h'.objs.size (.lst ((storedAllH [] psH).map fun x => V.ref x.2.1)), I2.laid (h' := h2) (t' := tk2) kp (Nat.le_refl _) ⟨by rw [List.length_map]; omega, acc.toList, c, hv, by rw [Array.toArray_toList]; exact e2⟩, rfl, q _ _ (res_lst hdr hF)⟩
      · refine paired_of_get lH fun j y x h1 h2 => ?_
        · skip
          obtain ⟨T, x', g1, g2', g3, g4, g5⟩ := gH j y h1
          rw [h2] at g4
          cases g4
          exact (q5 j T _ _ x g1 g2' g3 h2).2.2.2
end
end Mi
set_option maxRecDepth 100000
set_option maxHeartbeats 2000000
namespace Mi
open PySem L2 PySem.Spec PyProof.Rows
/-- what an iterator draws from: a list or a tuple -/
inductive Src | l (a : Addr) | t (a : Addr)
namespace Src
def ad : Src → Addr
  | l a => a
  | t a => a
def it (c : Src) (b : Addr) (i : Nat) (h : Heap) : Prop := match c with
  | l a => h.IsListIter b a i
  | t a => h.IsTupleIter b a i
def ct (c : Src) (its : Array Value) (h : Heap) : Prop := match c with
  | l a => h.IsList a its
  | t a => h.IsTuple a its
def sq (K : PySem.W.Frag) (c : Src) (H : Hp) (xs : List V) : Prop := match c with
  | l a => SqL K H a xs
  | t a => SqT K H a xs
def ob (c : Src) : Obj := match c with
  | l a => { cls := .type "list_iterator", data := .fields #[.ref a, .int 0 0] }
  | t a => { cls := .type "tuple_iterator", data := .fields #[.ref a, .int 0 0] }
theorem lt {c : Src} {its : Array Value} {h : Heap} (x : c.ct its h) : c.ad < h.objs.size := by
  cases c with
  | l a => obtain ⟨o, ho, _⟩ := x; exact Heap.lt_size ho
  | t a => obtain ⟨o, ho, _⟩ := x; exact Heap.lt_size ho
theorem it_ob {c : Src} {b : Addr} {i : Nat} {h : Heap} (x : c.it b i h) : ∃ o, h.get? b = some o ∧ ∀ v, o.data ≠ .cell v := by
  cases c with
  | l a => obtain ⟨o, ho, _, hd⟩ := x; exact ⟨o, ho, fun v q => by rw [hd] at q; cases q⟩
  | t a => obtain ⟨o, ho, _, hd⟩ := x; exact ⟨o, ho, fun v q => by rw [hd] at q; cases q⟩
theorem it_at {c : Src} {b : Addr} {i : Nat} {h h' : Heap} (x : c.it b i h) (e : ∀ o, h.get? b = some o → h'.get? b = some o) : c.it b i h' := by
  cases c with
  | l a => exact Heap.IsListIter.at x e
  | t a => exact Heap.IsTupleIter.at x e
theorem it_new (c : Src) {b : Addr} {h : Heap} (e : h.get? b = some c.ob) : c.it b 0 h := by
  cases c with
  | l a => exact ⟨_, e, rfl, rfl⟩
  | t a => exact ⟨_, e, rfl, rfl⟩
theorem begins (c : Src) (its : Array Value) : Begins (.ref c.ad) c.ob (c.ct its) := by
  cases c with
  | l a => exact begins_list a its
  | t a => exact begins_tuple a its
theorem draws {prog : Program} {w : World} {A : Around} (hh : A.handled = none) (c : Src) (b : Addr) (hne : c.ad ≠ b) (its : Array Value) :
    Draws prog w A b [b, c.ad] its.size (fun i v => its[i]? = some v) (fun i h => c.it b i h ∧ c.ct its h) := by
  cases c with
  | l a => exact Draws.list hh b a hne its
  | t a => exact Draws.tuple hh b a hne its
section
variable {X : Cx} {pins : List (Addr × Obj)} {σ : L2.St} {H : Hp} {s : Shared}
theorem items (I : Inv X pins σ H s) {c : Src} {xs : List V} (h : c.sq X.K H xs) : ∃ its : List Value, Vals xs its ∧ c.ct its.toArray s.heap ∧ xs.length ≤ sizeLine := by
  cases c with
  | l a => obtain ⟨its, r, p, z⟩ := I.list h; exact ⟨its, r, p.isList, z⟩
  | t a => obtain ⟨its, r, p, z⟩ := I.tuple h; exact ⟨its, r, p, z⟩
theorem inj (I : Inv X pins σ H s) {c : Src} {xs ys : List V} (h : c.sq X.K H xs) (h' : c.sq X.K H ys) : xs = ys := by
  cases c with
  | l a => exact I.list_inj h h'
  | t a => exact I.tuple_inj h h'
end
/-- the kind of source for data -/
def fits (c : Src) (d : D) : Prop := match c with
  | .l _ => ∃ es, d = .list es
  | .t _ => ∃ es, d = .tuple es
theorem of_rdv {K : PySem.W.Frag} {H : Hp} {N : Addr → Prop} {v : V} {d : D} {ds : List D} (h : RdV K H N v d) (e : itemsOf d = some ds) : ∃ c xs, v = .ref (Src.ad c) ∧ c.sq K H xs ∧ DRs K H N xs ds ∧ c.fits d := by
  cases d <;> simp [itemsOf] at e
  · subst e
    obtain ⟨a, xs, rfl, h1, h2⟩ := h.list
    exact ⟨.l a, xs, rfl, h1, h2, _, rfl⟩
  · subst e
    obtain ⟨a, xs, rfl, h1, h2⟩ := h.tuple
    exact ⟨.t a, xs, rfl, h1, h2, _, rfl⟩
/-- .. the same source while the value is the same data -/
theorem again {K : PySem.W.Frag} {H' : Hp} {N' : Addr → Prop} {c : Src} {d : D} {ds : List D} (h' : RdV K H' N' (.ref c.ad) d) (e : itemsOf d = some ds) (k : c.fits d) :
    ∃ xs, c.sq K H' xs ∧ DRs K H' N' xs ds := by
  cases c with
  | l a =>
    obtain ⟨es, rfl⟩ := k
    cases e
    obtain ⟨a', xs, e1, h1, h2⟩ := h'.list
    cases e1
    exact ⟨xs, h1, h2⟩
  | t a =>
    obtain ⟨es, rfl⟩ := k
    cases e
    obtain ⟨a', xs, e1, h1, h2⟩ := h'.tuple
    cases e1
    exact ⟨xs, h1, h2⟩
end Src
section
variable {X : Cx} {pins : List (Addr × Obj)} {σ : L2.St} {H : Hp} {s : Shared} {h' : Heap}
/-- several records of ours have turned -/
theorem turnedL {t' : Nat} {ch : List Addr} (I : Inv X pins σ H s) (k : ∀ b o, b ∉ ch → s.heap.get? b = some o → h'.get? b = some o) (hf : ∀ b ∈ ch, FpOk X pins H b) : Inv X pins σ H { s with heap := h', toks := t' } := by
  have nit : ∀ b u, H b = some u → b ∉ ch := fun b u e z => by
    have q := (hf b z).1
    rw [q] at e; cases e
  refine I.step (g' := s.gens) (d' := s.drawn) (ch := ch) (fun b hb => ?_) (fun b o _ _ hc e _ => k b o hc e) (fun b o _ _ hc e _ => ⟨o.slots, k b o hc e⟩) (fun _ _ _ _ n => n)
    (fun b o hc e => ⟨o, k b o hc e⟩) (fun _ _ e => e) (fun _ _ _ e => e) (fun b ps e => ⟨#[], by rw [e]; simp⟩) (fun m hm => ?_) (fun b u e => ?_) I.bare
  · obtain ⟨f0, f1, f2, f3, f4, f5⟩ := hf b hb
    exact ⟨f3, f1, f4, f5⟩
  · obtain ⟨o, es, ep, ho, r⟩ := hm
    exact ⟨o, es, ep, k _ o (fun z => (hf _ z).2.1 rfl) ho, r⟩
  · refine (I.hok b u e).stay (fun c v hc q => k c v ?_ q) (fun _ q => q) fun _ _ q => q
    rcases hc with z | z
    · rw [z]; exact nit b u e
    · exact nit c _ z
end
/-- zip over two sources -/
def Jz2 (K : PySem.W.Frag) (c1 c2 : Src) : L2.It :=
  ⟨fun i H => ∃ xs ys, c1.sq K H xs ∧ c2.sq K H ys ∧ i < min xs.length ys.length,
    fun i H v H' => ∃ T x y, v = .ref T ∧ H T = none ∧ H' = upd H T (.tup [x, y]) ∧ (∀ xs, c1.sq K H xs → xs[i]? = some x) ∧ ∀ ys, c2.sq K H ys → ys[i]? = some y,
    fun i H => ∃ xs ys, c1.sq K H xs ∧ c2.sq K H ys ∧ i = min xs.length ys.length⟩
theorem mem5 {a b c d e x : Addr} : x ∈ [a, b, c, d, e] ↔ x = a ∨ x = b ∨ x = c ∨ x = d ∨ x = e := by simp
theorem tup_ok {X : Cx} {H : Hp} {h : Heap} {T : Addr} {us : List Value} {xs : List V} (r : Vals xs us) (hz : xs.length ≤ sizeLine) (hT : h.IsTuple T us.toArray) : ObjOk X.prog X.w (upd H T (.tup xs)) h T (.tup xs) := ⟨hz, us, r, hT⟩
theorem turn_z2 {P : Program} {w : World} {K : PySem.W.Frag} {elts : List Expr} {kk : Nat} {tpos : Pos} {c1 c2 : Src} {z TI TO i1 i2 : Addr} (S : ZipSep2 z TI TO i1 i2 [i1, c1.ad] [i2, c2.ad]) (n1 : c1.ad ≠ i1) (n2 : c2.ad ≠ i2) :
    Turn P w K (.Tuple elts kk tpos) (Jz2 K c1 c2) [z, TI, TO, i1, i2] z (fun i h => IsZip h z TI TO .none ∧ IsTupOf2 h TI (.ref i1) (.ref i2) ∧ (∃ a1 a2, IsTupOf2 h TO a1 a2) ∧ c1.it i1 i h ∧ c2.it i2 i h) where
  mem := by simp
  obj := fun i h st c hc => by
    obtain ⟨hz, hTI, ⟨x, y, hTO⟩, t1, t2⟩ := st
    rcases mem5.mp hc with q | q | q | q | q
    · rw [q]; exact ⟨_, hz, fun v q => nomatch q⟩
    · rw [q]; exact ⟨_, hTI, fun v q => nomatch q⟩
    · rw [q]; exact ⟨_, hTO, fun v q => nomatch q⟩
    · rw [q]; exact Src.it_ob t1
    · rw [q]; exact Src.it_ob t2
  keep := fun i h h' st k => by
    obtain ⟨hz, hTI, ⟨x, y, hTO⟩, h1, h2⟩ := st
    exact ⟨k z (by simp) _ hz, k TI (by simp) _ hTI, ⟨x, y, k TO (by simp) _ hTO⟩, Src.it_at h1 fun o q => k i1 (by simp) o q, Src.it_at h2 fun o q => k i2 (by simp) o q⟩
  item := by
    intro X hP hw hK hc i pins s σ H E I hf st hg
    subst hP hw hK
    obtain ⟨hz, hTI, hTO, h1, h2⟩ := st
    obtain ⟨xs, ys, hqx, hqy, hi⟩ := hg
    obtain ⟨its, rv, p, _⟩ := Src.items I hqx
    obtain ⟨its2, rv2, p2, _⟩ := Src.items I hqy
    have hl := rv.length
    have hl2 := rv2.length
    have hh : X.A.in1.handled = none := I.ok.hd hc
    have W := WalksT.zipD2 (prog := X.prog) (w := X.w) (A := X.A) S (c1.draws hh i1 n1 its.toArray) (c2.draws hh i2 n2 its2.toArray)
    have fl : ∀ b ∈ [z, TI, TO, i1, i2], b < s.heap.objs.size := fun b hb => by
      obtain ⟨x0, y0, hTO⟩ := hTO
      rcases mem5.mp hb with q | q | q | q | q
      · rw [q]; exact Heap.lt_size hz
      · rw [q]; exact Heap.lt_size hTI
      · rw [q]; exact Heap.lt_size hTO
      · rw [q]; obtain ⟨o, e, _⟩ := Src.it_ob h1; exact Heap.lt_size e
      · rw [q]; obtain ⟨o, e, _⟩ := Src.it_ob h2; exact Heap.lt_size e
    refine W.item i s _ E (by rw [List.size_toArray, List.size_toArray, ← hl, ← hl2]; exact hi) ⟨hz, hTI, hTO, ⟨h1, p⟩, ⟨h2, p2⟩⟩ fun T vals h' tk hv hle hT hmid hk => ⟨_, rfl, W.go elts kk tpos i T { s with heap := h', toks := tk } _ E hmid fun h3 st3 hk3 => ?_⟩
    obtain ⟨v1, v2, e1, e2, rfl⟩ := hv
    obtain ⟨hz3, hTI3, hTO3, ⟨h13, p3⟩, ⟨h23, p23⟩⟩ := st3
    obtain ⟨x, ex, rx⟩ : ∃ x, xs[i]? = some x ∧ RelV x v1 := by
      have hix : i < xs.length := by omega
      obtain ⟨u, q1, q2⟩ := rv.get (List.getElem?_eq_getElem hix)
      have q3 : its[i]? = some v1 := by simpa using e1
      rw [q1] at q3; cases q3
      exact ⟨_, List.getElem?_eq_getElem hix, q2⟩
    obtain ⟨y, ey, ry⟩ : ∃ x, ys[i]? = some x ∧ RelV x v2 := by
      have hix : i < ys.length := by omega
      obtain ⟨u, q1, q2⟩ := rv2.get (List.getElem?_eq_getElem hix)
      have q3 : its2[i]? = some v2 := by simpa using e2
      rw [q1] at q3; cases q3
      exact ⟨_, List.getElem?_eq_getElem hix, q2⟩
    have hT3 : h3.IsTuple T [v1, v2].toArray := hT.at fun o e => hk3 T o (W.apart i T h' hmid) e
    have wsub : ∀ b, b ∉ [z, TI, TO, i1, i2] → b ∉ [z, TO, i1, i2] := fun b hb z => hb (by simp only [List.mem_cons, List.not_mem_nil, or_false] at z ⊢; rcases z with z | z | z | z <;> simp [z])
    have I1 : Inv X pins σ (upd H T (.tup [x, y])) { s with heap := h3, toks := tk } := I.turnedNew (ch := [z, TI, TO, i1, i2]) (fun b o hb q => hk3 b o (wsub b hb) (hk b o (wsub b hb) q)) hf hle (tup_ok (us := [v1, v2]) (.cons rx (.cons ry .nil)) (by show 2 ≤ sizeLine; decide) hT3)
    refine ⟨.ref T, _, I1, rfl, ⟨T, x, y, rfl, I.hok.fresh hle, rfl, fun l hl => by rw [Src.inj I hl hqx]; exact ex, fun l hl => by rw [Src.inj I hl hqy]; exact ey⟩, ⟨hz3, hTI3, hTO3, h13, h23⟩, fun b hb => ?_⟩
    rw [upd_ne (Nat.ne_of_lt (Nat.lt_of_lt_of_le (fl b hb) hle))]
    exact (hf b hb).1
  done := by
    intro X hP hw hK hc i pins s σ H E I hf st hg
    subst hP hw hK
    obtain ⟨hz, hTI, hTO, h1, h2⟩ := st
    obtain ⟨xs, ys, hqx, hqy, hi⟩ := hg
    obtain ⟨its, rv, p, _⟩ := Src.items I hqx
    obtain ⟨its2, rv2, p2, _⟩ := Src.items I hqy
    have hl := rv.length
    have hl2 := rv2.length
    have hh : X.A.in1.handled = none := I.ok.hd hc
    have W := WalksT.zipD2 (prog := X.prog) (w := X.w) (A := X.A) S (c1.draws hh i1 n1 its.toArray) (c2.draws hh i2 n2 its2.toArray)
    have wsub : ∀ b, b ∉ [z, TI, TO, i1, i2] → b ∉ [z, TO, i1, i2] := fun b hb z => hb (by simp only [List.mem_cons, List.not_mem_nil, or_false] at z ⊢; rcases z with z | z | z | z <;> simp [z])
    have e : i = min its.toArray.size its2.toArray.size := by rw [List.size_toArray, List.size_toArray, ← hl, ← hl2]; exact hi
    subst e
    exact W.done s _ E ⟨hz, hTI, hTO, ⟨h1, p⟩, ⟨h2, p2⟩⟩ fun h' tk hk => ⟨rfl, turnedL I (fun b o hb q => hk b o (wsub b hb) q) hf⟩
  self := fun A i s Q E st h => wpAny_pyIter_zip st.1 h
def Jz3 (K : PySem.W.Frag) (c1 c2 c3 : Src) : L2.It :=
  ⟨fun i H => ∃ xs ys zs, c1.sq K H xs ∧ c2.sq K H ys ∧ c3.sq K H zs ∧ i < min (min xs.length ys.length) zs.length,
    fun i H v H' => ∃ T x y u, v = .ref T ∧ H T = none ∧ H' = upd H T (.tup [x, y, u]) ∧ (∀ xs, c1.sq K H xs → xs[i]? = some x) ∧ (∀ ys, c2.sq K H ys → ys[i]? = some y) ∧ ∀ ys, c3.sq K H ys → ys[i]? = some u,
    fun i H => ∃ xs ys zs, c1.sq K H xs ∧ c2.sq K H ys ∧ c3.sq K H zs ∧ i = min (min xs.length ys.length) zs.length⟩
theorem mem6 {a b c d e f x : Addr} : x ∈ [a, b, c, d, e, f] ↔ x = a ∨ x = b ∨ x = c ∨ x = d ∨ x = e ∨ x = f := by simp
theorem turn_z3 {P : Program} {w : World} {K : PySem.W.Frag} {elts : List Expr} {kk : Nat} {tpos : Pos} {c1 c2 c3 : Src} {z TI TO i1 i2 i3 : Addr} (S : ZipSep3 z TI TO i1 i2 i3 [i1, c1.ad] [i2, c2.ad] [i3, c3.ad]) (n1 : c1.ad ≠ i1) (n2 : c2.ad ≠ i2) (n3 : c3.ad ≠ i3) :
    Turn P w K (.Tuple elts kk tpos) (Jz3 K c1 c2 c3) [z, TI, TO, i1, i2, i3] z (fun i h => IsZip h z TI TO .none ∧ IsTupOf3 h TI (.ref i1) (.ref i2) (.ref i3) ∧ (∃ a1 a2 a3, IsTupOf3 h TO a1 a2 a3) ∧ c1.it i1 i h ∧ c2.it i2 i h ∧ c3.it i3 i h) where
  mem := by simp
  obj := fun i h st c hc => by
    obtain ⟨hz, hTI, ⟨x, y, u, hTO⟩, t1, t2, t3⟩ := st
    rcases mem6.mp hc with q | q | q | q | q | q
    · rw [q]; exact ⟨_, hz, fun v q => nomatch q⟩
    · rw [q]; exact ⟨_, hTI, fun v q => nomatch q⟩
    · rw [q]; exact ⟨_, hTO, fun v q => nomatch q⟩
    · rw [q]; exact Src.it_ob t1
    · rw [q]; exact Src.it_ob t2
    · rw [q]; exact Src.it_ob t3
  keep := fun i h h' st k => by
    obtain ⟨hz, hTI, ⟨x, y, u, hTO⟩, h1, h2, h3⟩ := st
    exact ⟨k z (by simp) _ hz, k TI (by simp) _ hTI, ⟨x, y, u, k TO (by simp) _ hTO⟩, Src.it_at h1 fun o q => k i1 (by simp) o q, Src.it_at h2 fun o q => k i2 (by simp) o q, Src.it_at h3 fun o q => k i3 (by simp) o q⟩
  item := by
    intro X hP hw hK hc i pins s σ H E I hf st hg
    subst hP hw hK
    obtain ⟨hz, hTI, hTO, h1, h2, hh3⟩ := st
    obtain ⟨xs, ys, zs, hqx, hqy, hqz, hi⟩ := hg
    obtain ⟨its, rv, p, _⟩ := Src.items I hqx
    obtain ⟨its2, rv2, p2, _⟩ := Src.items I hqy
    obtain ⟨its3, rv3, p3, _⟩ := Src.items I hqz
    have hl := rv.length
    have hl2 := rv2.length
    have hl3 := rv3.length
    have hh : X.A.in1.handled = none := I.ok.hd hc
    have W := WalksT.zipD3 (prog := X.prog) (w := X.w) (A := X.A) S (c1.draws hh i1 n1 its.toArray) (c2.draws hh i2 n2 its2.toArray) (c3.draws hh i3 n3 its3.toArray)
    have fl : ∀ b ∈ [z, TI, TO, i1, i2, i3], b < s.heap.objs.size := fun b hb => by
      obtain ⟨x0, y0, u0, hTO⟩ := hTO
      rcases mem6.mp hb with q | q | q | q | q | q
      · rw [q]; exact Heap.lt_size hz
      · rw [q]; exact Heap.lt_size hTI
      · rw [q]; exact Heap.lt_size hTO
      · rw [q]; obtain ⟨o, e, _⟩ := Src.it_ob h1; exact Heap.lt_size e
      · rw [q]; obtain ⟨o, e, _⟩ := Src.it_ob h2; exact Heap.lt_size e
      · rw [q]; obtain ⟨o, e, _⟩ := Src.it_ob hh3; exact Heap.lt_size e
    refine W.item i s _ E (by rw [List.size_toArray, List.size_toArray, List.size_toArray, ← hl, ← hl2, ← hl3]; exact hi) ⟨hz, hTI, hTO, ⟨h1, p⟩, ⟨h2, p2⟩, ⟨hh3, p3⟩⟩ fun T vals h' tk hv hle hT hmid hk => ⟨_, rfl, W.go elts kk tpos i T { s with heap := h', toks := tk } _ E hmid fun h3 st3 hk3 => ?_⟩
    obtain ⟨v1, v2, v3, e1, e2, e3, rfl⟩ := hv
    obtain ⟨hz3, hTI3, hTO3, ⟨h13, _⟩, ⟨h23, _⟩, ⟨h33, _⟩⟩ := st3
    obtain ⟨x, ex, rx⟩ : ∃ x, xs[i]? = some x ∧ RelV x v1 := by
      have hix : i < xs.length := by omega
      obtain ⟨u, q1, q2⟩ := rv.get (List.getElem?_eq_getElem hix)
      have q3 : its[i]? = some v1 := by simpa using e1
      rw [q1] at q3; cases q3
      exact ⟨_, List.getElem?_eq_getElem hix, q2⟩
    obtain ⟨y, ey, ry⟩ : ∃ x, ys[i]? = some x ∧ RelV x v2 := by
      have hix : i < ys.length := by omega
      obtain ⟨u, q1, q2⟩ := rv2.get (List.getElem?_eq_getElem hix)
      have q3 : its2[i]? = some v2 := by simpa using e2
      rw [q1] at q3; cases q3
      exact ⟨_, List.getElem?_eq_getElem hix, q2⟩
    obtain ⟨u, eu, ru⟩ : ∃ x, zs[i]? = some x ∧ RelV x v3 := by
      have hix : i < zs.length := by omega
      obtain ⟨u, q1, q2⟩ := rv3.get (List.getElem?_eq_getElem hix)
      have q3 : its3[i]? = some v3 := by simpa using e3
      rw [q1] at q3; cases q3
      exact ⟨_, List.getElem?_eq_getElem hix, q2⟩
    have hT3 : h3.IsTuple T [v1, v2, v3].toArray := hT.at fun o e => hk3 T o (W.apart i T h' hmid) e
    have wsub : ∀ b, b ∉ [z, TI, TO, i1, i2, i3] → b ∉ [z, TO, i1, i2, i3] := fun b hb z => hb (by simp only [List.mem_cons, List.not_mem_nil, or_false] at z ⊢; rcases z with z | z | z | z | z <;> simp [z])
    have I1 : Inv X pins σ (upd H T (.tup [x, y, u])) { s with heap := h3, toks := tk } := I.turnedNew (ch := [z, TI, TO, i1, i2, i3]) (fun b o hb q => hk3 b o (wsub b hb) (hk b o (wsub b hb) q)) hf hle (tup_ok (us := [v1, v2, v3]) (.cons rx (.cons ry (.cons ru .nil))) (by show 3 ≤ sizeLine; decide) hT3)
    refine ⟨.ref T, _, I1, rfl, ⟨T, x, y, u, rfl, I.hok.fresh hle, rfl, fun l hl => by rw [Src.inj I hl hqx]; exact ex, fun l hl => by rw [Src.inj I hl hqy]; exact ey, fun l hl => by rw [Src.inj I hl hqz]; exact eu⟩, ⟨hz3, hTI3, hTO3, h13, h23, h33⟩, fun b hb => ?_⟩
    rw [upd_ne (Nat.ne_of_lt (Nat.lt_of_lt_of_le (fl b hb) hle))]
    exact (hf b hb).1
  done := by
    intro X hP hw hK hc i pins s σ H E I hf st hg
    subst hP hw hK
    obtain ⟨hz, hTI, hTO, h1, h2, hh3⟩ := st
    obtain ⟨xs, ys, zs, hqx, hqy, hqz, hi⟩ := hg
    obtain ⟨its, rv, p, _⟩ := Src.items I hqx
    obtain ⟨its2, rv2, p2, _⟩ := Src.items I hqy
    obtain ⟨its3, rv3, p3, _⟩ := Src.items I hqz
    have hl := rv.length
    have hl2 := rv2.length
    have hl3 := rv3.length
    have hh : X.A.in1.handled = none := I.ok.hd hc
    have W := WalksT.zipD3 (prog := X.prog) (w := X.w) (A := X.A) S (c1.draws hh i1 n1 its.toArray) (c2.draws hh i2 n2 its2.toArray) (c3.draws hh i3 n3 its3.toArray)
    have wsub : ∀ b, b ∉ [z, TI, TO, i1, i2, i3] → b ∉ [z, TO, i1, i2, i3] := fun b hb z => hb (by simp only [List.mem_cons, List.not_mem_nil, or_false] at z ⊢; rcases z with z | z | z | z | z <;> simp [z])
    have e : i = min (min its.toArray.size its2.toArray.size) its3.toArray.size := by rw [List.size_toArray, List.size_toArray, List.size_toArray, ← hl, ← hl2, ← hl3]; exact hi
    subst e
    exact W.done s _ E ⟨hz, hTI, hTO, ⟨h1, p⟩, ⟨h2, p2⟩, ⟨hh3, p3⟩⟩ fun h' tk hk => ⟨rfl, turnedL I (fun b o hb q => hk b o (wsub b hb) q) hf⟩
  self := fun A i s Q E st h => wpAny_pyIter_zip st.1 h
/-- enumerate over a source -/
def Jen (K : PySem.W.Frag) (c : Src) : L2.It :=
  ⟨fun i H => ∃ xs, c.sq K H xs ∧ i < xs.length,
    fun i H v H' => ∃ T x, v = .ref T ∧ H T = none ∧ H' = upd H T (.tup [.int (i : Nat), x]) ∧ (∀ xs, c.sq K H xs → xs[i]? = some x),
    fun i H => ∃ xs, c.sq K H xs ∧ i = xs.length⟩
theorem turn_en {P : Program} {w : World} {K : PySem.W.Frag} {elts : List Expr} {kk : Nat} {tpos : Pos} {c : Src} {e it : Addr} (hei : e ≠ it) (hec : e ≠ c.ad) (n1 : c.ad ≠ it) :
    Turn P w K (.Tuple elts kk tpos) (Jen K c) [e, it] e (fun i h => (∃ old, IsEnum h e it (0 + (i : Int)) old) ∧ c.it it i h) where
  mem := by simp
  obj := fun i h st b hb => by
    obtain ⟨⟨old, he⟩, t1⟩ := st
    have e' : b = e ∨ b = it := by simpa using hb
    rcases e' with z | z
    · rw [z]; exact ⟨_, he, fun v q => nomatch q⟩
    · rw [z]; exact Src.it_ob t1
  keep := fun i h h' st k => ⟨let ⟨old, he⟩ := st.1; ⟨old, k e (by simp) _ he⟩, Src.it_at st.2 fun o q => k it (by simp) o q⟩
  item := by
    intro X hP hw hK hc i pins s σ H E I hf st hg
    subst hP hw hK
    obtain ⟨he, hit⟩ := st
    obtain ⟨xs, hqx, hi⟩ := hg
    obtain ⟨its, rv, p, _⟩ := Src.items I hqx
    have hl := rv.length
    have hh : X.A.in1.handled = none := I.ok.hd hc
    have W := WalksT.enumFrom (prog := X.prog) (w := X.w) (A := X.A) 0 (c.draws hh it n1 its.toArray) e hei (by simp only [List.mem_cons, List.not_mem_nil, or_false, not_or]; exact ⟨hei, hec⟩) (by simp)
    have fl : ∀ b ∈ [e, it], b < s.heap.objs.size := fun b hb => by
      obtain ⟨old, he⟩ := he
      have e' : b = e ∨ b = it := by simpa using hb
      rcases e' with q | q
      · rw [q]; exact Heap.lt_size he
      · rw [q]; obtain ⟨o, e, _⟩ := Src.it_ob hit; exact Heap.lt_size e
    refine W.item i s _ E (by rw [List.size_toArray, ← hl]; exact hi) ⟨he, ⟨hit, p⟩⟩ fun T vals h' tk hv hle hT hmid hk => ⟨_, rfl, W.go elts kk tpos i T { s with heap := h', toks := tk } _ E hmid fun h3 st3 hk3 => ?_⟩
    obtain ⟨t, v1, e1, rfl⟩ := hv
    obtain ⟨he3, ⟨hit3, _⟩⟩ := st3
    obtain ⟨x, ex, rx⟩ : ∃ x, xs[i]? = some x ∧ RelV x v1 := by
      obtain ⟨u, q1, q2⟩ := rv.get (List.getElem?_eq_getElem hi)
      have q3 : its[i]? = some v1 := by simpa using e1
      rw [q1] at q3; cases q3
      exact ⟨_, List.getElem?_eq_getElem hi, q2⟩
    have hT3 : h3.IsTuple T [.int (0 + (i : Int)) t, v1].toArray := hT.at fun o e => hk3 T o (W.apart i T h' hmid) e
    have I1 : Inv X pins σ (upd H T (.tup [.int (i : Nat), x])) { s with heap := h3, toks := tk } := I.turnedNew (ch := [e, it]) (fun b o hb q => hk3 b o hb (hk b o hb q)) hf hle (tup_ok (us := [.int (0 + (i : Int)) t, v1]) (.cons ⟨t, by rw [Int.zero_add]⟩ (.cons rx .nil)) (by show 2 ≤ sizeLine; decide) hT3)
    refine ⟨.ref T, _, I1, rfl, ⟨T, x, rfl, I.hok.fresh hle, rfl, fun l hl => by rw [Src.inj I hl hqx]; exact ex⟩, ⟨he3, hit3⟩, fun b hb => ?_⟩
    rw [upd_ne (Nat.ne_of_lt (Nat.lt_of_lt_of_le (fl b hb) hle))]
    exact (hf b hb).1
  done := by
    intro X hP hw hK hc i pins s σ H E I hf st hg
    subst hP hw hK
    obtain ⟨he, hit⟩ := st
    obtain ⟨xs, hqx, hi⟩ := hg
    obtain ⟨its, rv, p, _⟩ := Src.items I hqx
    have hl := rv.length
    have hh : X.A.in1.handled = none := I.ok.hd hc
    have W := WalksT.enumFrom (prog := X.prog) (w := X.w) (A := X.A) 0 (c.draws hh it n1 its.toArray) e hei (by simp only [List.mem_cons, List.not_mem_nil, or_false, not_or]; exact ⟨hei, hec⟩) (by simp)
    have e : i = its.toArray.size := by rw [List.size_toArray, ← hl]; exact hi
    subst e
    exact W.done s _ E ⟨he, ⟨hit, p⟩⟩ fun h' tk hk => ⟨rfl, turnedL I (fun b o hb q => hk b o hb q) hf⟩
  self := fun A i s Q E st h => let ⟨⟨_, he⟩, _⟩ := st; wpAny_pyIter_enum he h
end Mi
set_option maxRecDepth 100000
set_option maxHeartbeats 2000000
namespace Mi
open PySem L2 PySem.Spec PyProof.Rows
/-- the walk J over the values vs (the data cs) gives the items, turn by turn -/
structure Wlk (K : PySem.W.Frag) (J : L2.It) (vs : List V) (cs : List D) (items : List D) : Prop where
  goes : ∀ i (N : Addr → Prop) H, i < items.length → Paired (RdV K H N) vs cs → J.go i H
  stops : ∀ (N : Addr → Prop) H, Paired (RdV K H N) vs cs → J.stop items.length H
  yields : ∀ i (N : Addr → Prop) H x H', i < items.length → Paired (RdV K H N) vs cs → J.yld i H x H' → Grow H H' ∧ ∀ d, items[i]? = some d → DR K H' N x d
section
variable (K : PySem.W.Frag) (T B : Addr → Prop) (W : WC)
def TIv (x : En → O (List D × List R)) : TI := fun σ H R => ∃ env M, Rel K T M B env σ H ∧ match x env with
  | .ok y e1 => ∀ vs H1 cs J, RPs K T M B env σ H y.2 e1 vs H1 → rds e1 y.2 = some cs → Wlk K J vs cs y.1 → R J H1
  | .ex c e1 => ∀ H', Fre env σ H H' → Sub env e1 → Rel K T M B e1 σ H' → W c σ H'
  | .bad => False
end
section
variable {K : PySem.W.Frag} {T M B : Addr → Prop} {W : WC} {env env' env1 env2 : En} {σ : L2.St} {H H' H1 H2 : Hp}
theorem RPs.drop {rs : List R} {vs : List V} (h : RPs K T M B env σ H rs env1 vs H1) : RPs K T M B env σ H [] env1 [] H1 := by
  obtain ⟨f, s, P, q, r, n, e⟩ := h
  have r' : Rel K T (MP M []) B env1 σ H1 := r.less (M' := MP M []) fun a z => Or.elim z Or.inl (fun y => nomatch y)
  exact ⟨f, s, [], RVs.nil, r', List.nodup_nil, fun _ z => nomatch z⟩
/-- the values of what was evaluated -/
theorem RPs.read {rs : List R} {vs : List V} {ds : List D} (h : RPs K T M B env σ H rs env1 vs H1) (e : rds env1 rs = some ds) : ∃ N, Paired (RdV K H1 N) vs ds := by
  obtain ⟨f1, s1, P, q1, r1, n1, e1⟩ := h
  exact ⟨_, q1.rds r1 e⟩
theorem rds_one {x : R} {d : D} (e : rd env x = some d) : rds env [x] = some [d] := by simp [rds, e]
/-- a list or a tuple -/
def Jsrc (K : PySem.W.Frag) : Src → L2.It
  | .l a => Itl K a
  | .t a => Itt K a
theorem wlk_src {c : Src} {d : D} {ds : List D} (e : itemsOf d = some ds) (k : c.fits d) : Wlk K (Jsrc K c) [.ref c.ad] [d] ds := by
  have key : ∀ {N : Addr → Prop} {H : Hp}, Paired (RdV K H N) [.ref c.ad] [d] → ∃ xs, c.sq K H xs ∧ DRs K H N xs ds := fun h => by
    obtain ⟨d', e', h'⟩ := paired1 h
    cases e'
    exact Src.again h' e k
  refine ⟨fun i N H hi h => ?_, fun N H h => ?_, fun i N H x H' hi h y => ?_⟩
  · obtain ⟨xs, h1, h2⟩ := key h
    have hl := h2.length
    have hx : i < xs.length := by omega
    cases c with
    | l a => exact ⟨xs, xs[i], h1, List.getElem?_eq_getElem hx⟩
    | t a => exact ⟨xs, xs[i], h1, List.getElem?_eq_getElem hx⟩
  · obtain ⟨xs, h1, h2⟩ := key h
    have hl := h2.length
    cases c with
    | l a => exact ⟨xs, h1, by omega⟩
    | t a => exact ⟨xs, h1, by omega⟩
  · obtain ⟨xs, h1, h2⟩ := key h
    cases c with
    | l a =>
      obtain ⟨rfl, y⟩ := y
      refine ⟨Grow.refl, fun d' ed => ?_⟩
      obtain ⟨v, e1, e2⟩ := h2.get ed
      have := y xs h1
      rw [e1] at this; cases this
      exact e2
    | t a =>
      obtain ⟨rfl, y⟩ := y
      refine ⟨Grow.refl, fun d' ed => ?_⟩
      obtain ⟨v, e1, e2⟩ := h2.get ed
      have := y xs h1
      rw [e1] at this; cases this
      exact e2
theorem wlk_rng {lo : Int} {n : Nat} : Wlk K (Itr lo n) [] [] (rngD lo n) := by
  have hl : (rngD lo n).length = n := by simp [rngD]
  refine ⟨fun i N H hi h => by rw [hl] at hi; exact hi, fun N H h => by rw [hl]; exact Nat.le_refl _, fun i N H x H' hi h y => ?_⟩
  obtain ⟨rfl, rfl⟩ := y
  refine ⟨Grow.refl, fun d e => ?_⟩
  rw [hl] at hi
  have : (rngD lo n)[i]? = some (.int (lo + i)) := by simp [rngD, hi]
  rw [this] at e; cases e
  exact .int _
theorem zipD_get : ∀ (as bs : List D) (i : Nat) (d : D), (zipD as bs)[i]? = some d → ∃ a b, as[i]? = some a ∧ bs[i]? = some b ∧ d = .tuple [a, b]
  | [], _, i, d, h => by simp [zipD] at h
  | a :: as, [], i, d, h => by simp [zipD] at h
  | a :: as, b :: bs, 0, d, h => by simp [zipD] at h; exact ⟨a, b, rfl, rfl, h.symm⟩
  | a :: as, b :: bs, i + 1, d, h => by
    simp [zipD] at h
    obtain ⟨x, y, h1, h2, h3⟩ := zipD_get as bs i d h
    exact ⟨x, y, by simpa using h1, by simpa using h2, h3⟩
theorem zipD_length : ∀ (as bs : List D), (zipD as bs).length = min as.length bs.length
  | [], _ => by simp [zipD]
  | a :: as, [] => by simp [zipD]
  | a :: as, b :: bs => by simp [zipD, zipD_length as bs]
theorem zipD3_get : ∀ (as bs cs : List D) (i : Nat) (d : D), (zipD3 as bs cs)[i]? = some d → ∃ a b c, as[i]? = some a ∧ bs[i]? = some b ∧ cs[i]? = some c ∧ d = .tuple [a, b, c]
  | [], _, _, i, d, h => by simp [zipD3] at h
  | a :: as, [], _, i, d, h => by simp [zipD3] at h
  | a :: as, b :: bs, [], i, d, h => by simp [zipD3] at h
  | a :: as, b :: bs, c :: cs, 0, d, h => by simp [zipD3] at h; exact ⟨a, b, c, rfl, rfl, rfl, h.symm⟩
  | a :: as, b :: bs, c :: cs, i + 1, d, h => by
    simp [zipD3] at h
    obtain ⟨x, y, z, h1, h2, h3, h4⟩ := zipD3_get as bs cs i d h
    exact ⟨x, y, z, by simpa using h1, by simpa using h2, by simpa using h3, h4⟩
theorem zipD3_length : ∀ (as bs cs : List D), (zipD3 as bs cs).length = min (min as.length bs.length) cs.length
  | [], _, _ => by simp [zipD3]
  | a :: as, [], _ => by simp [zipD3]
  | a :: as, b :: bs, [] => by simp [zipD3]
  | a :: as, b :: bs, c :: cs => by simp [zipD3, zipD3_length as bs cs]
theorem enuD_get : ∀ (as : List D) (n i : Nat) (d : D), (enuD n as)[i]? = some d → ∃ a, as[i]? = some a ∧ d = .tuple [.int ((n + i : Nat) : Int), a]
  | [], n, i, d, h => by simp [enuD] at h
  | a :: as, n, 0, d, h => by simp [enuD] at h; exact ⟨a, rfl, h.symm⟩
  | a :: as, n, i + 1, d, h => by
    simp [enuD] at h
    obtain ⟨x, h1, h2⟩ := enuD_get as (n + 1) i d h
    refine ⟨x, by simpa using h1, ?_⟩
    rw [h2, show n + 1 + i = n + (i + 1) by omega]
theorem enuD_length : ∀ (as : List D) (n : Nat), (enuD n as).length = as.length
  | [], n => rfl
  | a :: as, n => by simp [enuD, enuD_length as (n + 1)]
theorem wlk_z2 {c1 c2 : Src} {d1 d2 : D} {ds1 ds2 : List D} (e1 : itemsOf d1 = some ds1) (k1 : c1.fits d1)
    (e2 : itemsOf d2 = some ds2) (k2 : c2.fits d2) : Wlk K (Jz2 K c1 c2) [.ref c1.ad, .ref c2.ad] [d1, d2] (zipD ds1 ds2) := by
  have key : ∀ {N : Addr → Prop} {H : Hp}, Paired (RdV K H N) [.ref c1.ad, .ref c2.ad] [d1, d2] → ∃ xs ys, c1.sq K H xs ∧ c2.sq K H ys ∧ DRs K H N xs ds1 ∧ DRs K H N ys ds2 := fun h => by
    obtain ⟨d', d'', e', h', h''⟩ := paired2 h
    cases e'
    obtain ⟨xs, a1, a2⟩ := Src.again h' e1 k1
    obtain ⟨ys, b1, b2⟩ := Src.again h'' e2 k2
    exact ⟨xs, ys, a1, b1, a2, b2⟩
  refine ⟨fun i N H hi h => ?_, fun N H h => ?_, fun i N H x H' hi h y => ?_⟩
  · obtain ⟨xs, ys, a1, b1, a2, b2⟩ := key h
    rw [zipD_length, ← a2.length, ← b2.length] at hi
    exact ⟨xs, ys, a1, b1, hi⟩
  · obtain ⟨xs, ys, a1, b1, a2, b2⟩ := key h
    exact ⟨xs, ys, a1, b1, by rw [zipD_length, ← a2.length, ← b2.length]⟩
  · obtain ⟨xs, ys, a1, b1, a2, b2⟩ := key h
    obtain ⟨Tt, x1, x2, rfl, hT, rfl, y1, y2⟩ := y
    refine ⟨Grow.upd hT, fun d ed => ?_⟩
    obtain ⟨da, db, q1, q2, rfl⟩ := zipD_get _ _ _ _ ed
    obtain ⟨v, p1, p2⟩ := a2.get q1
    obtain ⟨v', p3, p4⟩ := b2.get q2
    have := y1 xs a1
    rw [p1] at this; cases this
    have := y2 ys b1
    rw [p3] at this; cases this
    exact .tup (SqT.of upd_same) (.cons (p2.grow (Grow.upd hT)) (.cons (p4.grow (Grow.upd hT)) .nil))
theorem wlk_z3 {c1 c2 c3 : Src} {d1 d2 d3 : D} {ds1 ds2 ds3 : List D} (e1 : itemsOf d1 = some ds1) (k1 : c1.fits d1)
    (e2 : itemsOf d2 = some ds2) (k2 : c2.fits d2) (e3 : itemsOf d3 = some ds3) (k3 : c3.fits d3) :
    Wlk K (Jz3 K c1 c2 c3) [.ref c1.ad, .ref c2.ad, .ref c3.ad] [d1, d2, d3] (zipD3 ds1 ds2 ds3) := by
  have key : ∀ {N : Addr → Prop} {H : Hp}, Paired (RdV K H N) [.ref c1.ad, .ref c2.ad, .ref c3.ad] [d1, d2, d3] → ∃ xs ys zs, c1.sq K H xs ∧ c2.sq K H ys ∧ c3.sq K H zs ∧ DRs K H N xs ds1 ∧ DRs K H N ys ds2 ∧ DRs K H N zs ds3 := fun h => by
    obtain ⟨d', d'', d''', e', h', h'', h'''⟩ := paired3 h
    cases e'
    obtain ⟨xs, a1, a2⟩ := Src.again h' e1 k1
    obtain ⟨ys, b1, b2⟩ := Src.again h'' e2 k2
    obtain ⟨zs, c1, c2⟩ := Src.again h''' e3 k3
    exact ⟨xs, ys, zs, a1, b1, c1, a2, b2, c2⟩
  refine ⟨fun i N H hi h => ?_, fun N H h => ?_, fun i N H x H' hi h y => ?_⟩
  · obtain ⟨xs, ys, zs, a1, b1, g1, a2, b2, g2⟩ := key h
    rw [zipD3_length, ← a2.length, ← b2.length, ← g2.length] at hi
    exact ⟨xs, ys, zs, a1, b1, g1, hi⟩
  · obtain ⟨xs, ys, zs, a1, b1, g1, a2, b2, g2⟩ := key h
    exact ⟨xs, ys, zs, a1, b1, g1, by rw [zipD3_length, ← a2.length, ← b2.length, ← g2.length]⟩
  · obtain ⟨xs, ys, zs, a1, b1, g1, a2, b2, g2⟩ := key h
    obtain ⟨Tt, x1, x2, x3, rfl, hT, rfl, y1, y2, y3⟩ := y
    refine ⟨Grow.upd hT, fun d ed => ?_⟩
    obtain ⟨da, db, dc, q1, q2, q3, rfl⟩ := zipD3_get _ _ _ _ _ ed
    obtain ⟨v, p1, p2⟩ := a2.get q1
    obtain ⟨v', p3, p4⟩ := b2.get q2
    obtain ⟨v'', p5, p6⟩ := g2.get q3
    have := y1 xs a1
    rw [p1] at this; cases this
    have := y2 ys b1
    rw [p3] at this; cases this
    have := y3 zs g1
    rw [p5] at this; cases this
    exact .tup (SqT.of upd_same) (.cons (p2.grow (Grow.upd hT)) (.cons (p4.grow (Grow.upd hT)) (.cons (p6.grow (Grow.upd hT)) .nil)))
theorem wlk_en {c : Src} {d : D} {ds : List D} (e : itemsOf d = some ds) (k : c.fits d) : Wlk K (Jen K c) [.ref c.ad] [d] (enuD 0 ds) := by
  have key : ∀ {N : Addr → Prop} {H : Hp}, Paired (RdV K H N) [.ref c.ad] [d] → ∃ xs, c.sq K H xs ∧ DRs K H N xs ds := fun h => by
    obtain ⟨d', e', h'⟩ := paired1 h
    cases e'
    exact Src.again h' e k
  refine ⟨fun i N H hi h => ?_, fun N H h => ?_, fun i N H x H' hi h y => ?_⟩
  · obtain ⟨xs, h1, h2⟩ := key h
    rw [enuD_length, ← h2.length] at hi
    exact ⟨xs, h1, hi⟩
  · obtain ⟨xs, h1, h2⟩ := key h
    exact ⟨xs, h1, by rw [enuD_length, ← h2.length]⟩
  · obtain ⟨xs, h1, h2⟩ := key h
    obtain ⟨Tt, x1, rfl, hT, rfl, y1⟩ := y
    refine ⟨Grow.upd hT, fun d ed => ?_⟩
    obtain ⟨da, q1, rfl⟩ := enuD_get _ _ _ _ ed
    obtain ⟨v, p1, p2⟩ := h2.get q1
    have := y1 xs h1
    rw [p1] at this; cases this
    rw [Nat.zero_add]
    exact .tup (SqT.of upd_same) (.cons (.int _) (.cons (p2.grow (Grow.upd hT)) .nil))
end
/-! ### what a loop walks -/
section
variable {X : Cx} {tg : Expr}
theorem pi_src {l : Expr} {tl : TE} (hl : PE X l tl) : PI X tg l (fun σ H R => tl σ H fun x H1 => ∃ c xs, x = .ref (Src.ad c) ∧ c.sq X.K H1 xs ∧ R (Jsrc X.K c) H1) := by
  refine ⟨fun pins s σ H R I h => ?_⟩
  refine thn (hl.run pins s σ H _ I h) fun v s1 ⟨x, H1, I1, r1, q1⟩ => ?_
  obtain ⟨c, xs, e, hq, q⟩ := q1
  subst e
  cases r1
  cases c with
  | l a =>
    obtain ⟨its, rv, p, hz⟩ := I1.list hq
    refine wpAny_pyIter_list p.isList ?_
    refine ⟨s1.heap.objs.size, [s1.heap.objs.size], _, _, H1, rfl, I1.kept (t' := s1.toks) fun b o e => Heap.get?_push_of_some _ e, turn_list a _, ⟨_, Heap.get?_push_size _ rfl, rfl, rfl⟩, fun b hb => ?_, q⟩
    have e : b = s1.heap.objs.size := by simpa using hb
    subst e
    exact I1.fpOk (Nat.le_refl _) (I1.hok.fresh (Nat.le_refl _))
  | t a =>
    obtain ⟨its, rv, p, hz⟩ := I1.tuple hq
    refine wpAny_pyIter_tuple (show s1.heap.IsTuple a its.toArray from p) ?_
    refine ⟨s1.heap.objs.size, [s1.heap.objs.size], _, _, H1, rfl, I1.kept (t' := s1.toks) fun b o e => Heap.get?_push_of_some _ e, turn_tuple a _, ⟨_, Heap.get?_push_size _ rfl, rfl, rfl⟩, fun b hb => ?_, q⟩
    have e : b = s1.heap.objs.size := by simpa using hb
    subst e
    exact I1.fpOk (Nat.le_refl _) (I1.hok.fresh (Nat.le_refl _))
theorem pi_z2 {e e2 : Expr} {ta : TA} {p pos tpos : Pos} {elts : List Expr} {kk : Nat} (hg : Gl X "zip") (hm : X.mg "zip" = none) (ha : PA X [e, e2] ta)
    (hs : starEach [e, e2] X.env = (false, eval e X.env) :: starEach [e2] X.env) (hpl : (backTo pos (starEach [e2] X.env)).any (·.1) = false) :
    PI X (.Tuple elts kk tpos) (.Call (.Name "zip" p) [e, e2] [] pos) (fun σ H R => ta σ H fun vs H1 => ∃ c1 c2 xs ys, vs = [.ref (Src.ad c1), .ref (Src.ad c2)] ∧ c1.sq X.K H1 xs ∧ c2.sq X.K H1 ys ∧ R (Jz2 X.K c1 c2) H1) := by
  refine ⟨fun pins s σ H R I h => ?_⟩
  refine Call_ (ld_blt I hg hm PyProof.Rows.boot_zip (PyProof.Rows.callWith_type1 (thn (ha.run pos pins s σ H _ I h) fun us s1 ⟨vs, H1, I1, r1, q1⟩ => ?_) hs hpl))
  obtain ⟨c1, c2, xs, ys, ex, hqx, hqy, q⟩ := q1
  subst ex
  cases r1 with
  | cons r rr =>
    cases rr with
    | cons r' rr =>
      cases rr
      cases r
      cases r'
      obtain ⟨its, rv, p1, _⟩ := Src.items I1 hqx
      obtain ⟨its2, rv2, p2, _⟩ := Src.items I1 hqy
      have la := Src.lt p1
      have lb := Src.lt p2
      refine zip_begins2 (Src.begins c1 _) (Src.begins c2 _) p1 p2 fun h' hz hTI hTO h1 h2 hsz hk => wpAny_pyIter_zip hz ?_
      have I2 : Inv X pins σ H1 { s1 with heap := h' } := I1.kept (t' := s1.toks) hk
      have S := zip_sep2 (N := s1.heap.objs.size) (fp1 := [c1.ad]) (fp2 := [c2.ad]) (fun b hb => by rw [List.mem_singleton.mp hb]; exact la) (fun b hb => by rw [List.mem_singleton.mp hb]; exact lb)
      refine ⟨s1.heap.objs.size + 4, [s1.heap.objs.size + 4, s1.heap.objs.size + 2, s1.heap.objs.size + 3, s1.heap.objs.size, s1.heap.objs.size + 1], _, _, H1, rfl, I2,
        turn_z2 S (Nat.ne_of_lt la) (Nat.ne_of_lt (Nat.lt_of_lt_of_le lb (Nat.le_succ _))), ⟨hz, hTI, ⟨_, _, hTO⟩, Src.it_new _ h1, Src.it_new _ h2⟩, fun c hcm => ?_, q⟩
      have hle : s1.heap.objs.size ≤ c := by
        rcases mem5.mp hcm with z | z | z | z | z <;> rw [z] <;> first | exact Nat.le_add_right _ _ | exact Nat.le_refl _
      exact I1.fpOk hle (I1.hok.fresh hle)
theorem pi_z3 {e e2 e3 : Expr} {ta : TA} {p pos tpos : Pos} {elts : List Expr} {kk : Nat} (hg : Gl X "zip") (hm : X.mg "zip" = none) (ha : PA X [e, e2, e3] ta)
    (hs : starEach [e, e2, e3] X.env = (false, eval e X.env) :: starEach [e2, e3] X.env) (hpl : (backTo pos (starEach [e2, e3] X.env)).any (·.1) = false) :
    PI X (.Tuple elts kk tpos) (.Call (.Name "zip" p) [e, e2, e3] [] pos) (fun σ H R => ta σ H fun vs H1 => ∃ c1 c2 c3 xs ys zs, vs = [.ref (Src.ad c1), .ref (Src.ad c2), .ref (Src.ad c3)] ∧ c1.sq X.K H1 xs ∧ c2.sq X.K H1 ys ∧ c3.sq X.K H1 zs ∧ R (Jz3 X.K c1 c2 c3) H1) := by
  refine ⟨fun pins s σ H R I h => ?_⟩
  refine Call_ (ld_blt I hg hm PyProof.Rows.boot_zip (PyProof.Rows.callWith_type1 (thn (ha.run pos pins s σ H _ I h) fun us s1 ⟨vs, H1, I1, r1, q1⟩ => ?_) hs hpl))
  obtain ⟨c1, c2, c3, xs, ys, zs, ex, hqx, hqy, hqz, q⟩ := q1
  subst ex
  cases r1 with
  | cons r rr =>
    cases rr with
    | cons r' rr =>
      cases rr with
      | cons r'' rr =>
        cases rr
        cases r
        cases r'
        cases r''
        obtain ⟨its, rv, p1, _⟩ := Src.items I1 hqx
        obtain ⟨its2, rv2, p2, _⟩ := Src.items I1 hqy
        obtain ⟨its3, rv3, p3, _⟩ := Src.items I1 hqz
        have la := Src.lt p1
        have lb := Src.lt p2
        have lc := Src.lt p3
        refine zip_begins3 (Src.begins c1 _) (Src.begins c2 _) (Src.begins c3 _) p1 p2 p3 fun h' hz hTI hTO h1 h2 h3 hsz hk => wpAny_pyIter_zip hz ?_
        have I2 : Inv X pins σ H1 { s1 with heap := h' } := I1.kept (t' := s1.toks) hk
        have S := zip_sep3 (N := s1.heap.objs.size) (fp1 := [c1.ad]) (fp2 := [c2.ad]) (fp3 := [c3.ad]) (fun b hb => by rw [List.mem_singleton.mp hb]; exact la) (fun b hb => by rw [List.mem_singleton.mp hb]; exact lb) (fun b hb => by rw [List.mem_singleton.mp hb]; exact lc)
        refine ⟨s1.heap.objs.size + 5, [s1.heap.objs.size + 5, s1.heap.objs.size + 3, s1.heap.objs.size + 4, s1.heap.objs.size, s1.heap.objs.size + 1, s1.heap.objs.size + 2], _, _, H1, rfl, I2,
          turn_z3 S (Nat.ne_of_lt la) (Nat.ne_of_lt (Nat.lt_of_lt_of_le lb (Nat.le_succ _))) (Nat.ne_of_lt (Nat.lt_of_lt_of_le lc (Nat.le_add_right _ _))), ⟨hz, hTI, ⟨_, _, _, hTO⟩, Src.it_new _ h1, Src.it_new _ h2, Src.it_new _ h3⟩, fun c hcm => ?_, q⟩
        have hle : s1.heap.objs.size ≤ c := by
          rcases mem6.mp hcm with z | z | z | z | z | z <;> rw [z] <;> first | exact Nat.le_add_right _ _ | exact Nat.le_refl _
        exact I1.fpOk hle (I1.hok.fresh hle)
end
end Mi
set_option maxRecDepth 100000
set_option maxHeartbeats 2000000
namespace Mi
open PySem L2 PySem.Spec PyProof.Rows
section
variable {K : PySem.W.Frag} {T M B : Addr → Prop} {W : WC} {env env' env1 env2 : En} {σ : L2.St} {H H' H1 H2 : Hp} {C : Den}
theorem rds_length : ∀ {rs : List R} {ds : List D}, rds env rs = some ds → ds.length = rs.length
  | [], ds, e => by simp [rds] at e; subst e; rfl
  | r :: rs, ds, e => by
    obtain ⟨d, ds', e1, e2, rfl⟩ := rds_cons e
    simp [rds_length e2]
theorem RVs_len {rs : List R} {vs : List V} (h : RPs K T M B env σ H rs env1 vs H1) : rs.length = vs.length := by
  obtain ⟨_, _, P, q, _⟩ := h
  exact q.length
theorem TIv.val {e : E} {Q : L2.It → Hp → Prop} (h : TIv K T B W (evIt C (.val e)) σ H Q) : TEv K T B W (ev C e) σ H fun x H1 => ∃ c xs, x = .ref (Src.ad c) ∧ c.sq K H1 xs ∧ Q (Jsrc K c) H1 := by
  obtain ⟨env, M, r, h⟩ := h
  refine ⟨env, M, r, ?_⟩
  unfold evIt at h
  cases ex : ev C e env with
  | bad => rw [ex] at h; exact h
  | ex c e1 => rw [ex] at h; exact h
  | ok x e1 =>
    rw [ex] at h
    simp only [O.bind_ok] at h
    intro v H1 q
    cases e2 : rd e1 x with
    | none => rw [e2] at h; exact h.elim
    | some d =>
      rw [e2] at h
      simp only [O.of_some, O.bind_ok] at h
      cases e3 : itemsOf d with
      | none => rw [e3] at h; exact h.elim
      | some ds =>
        rw [e3] at h
        simp only [O.of_some, O.bind_ok] at h
        obtain ⟨N, pr⟩ := q.read (rds_one e2)
        obtain ⟨d', ed, rv⟩ := paired1 pr
        cases ed
        obtain ⟨c, xs, rfl, h1, h2, k⟩ := Src.of_rdv rv e3
        exact ⟨c, xs, rfl, h1, h _ H1 [d] _ q (rds_one e2) (wlk_src e3 k)⟩
theorem as1 {a : E} : evAs C (.cons a .nil) = fun env => (ev C a env).bind fun x e1 => .ok [x] e1 := by
  funext env
  simp only [evAs, O.bind_ok]
theorem as2 {a b : E} : evAs C (.cons a (.cons b .nil)) = fun env => (ev C a env).bind fun x e1 => (ev C b e1).bind fun y e2 => .ok [x, y] e2 := by
  funext env
  simp only [evAs, O.bind_ok, O.bind_assoc]
theorem as3 {a b c : E} : evAs C (.cons a (.cons b (.cons c .nil))) = fun env => (ev C a env).bind fun x e1 => (ev C b e1).bind fun y e2 => (ev C c e2).bind fun z e3 => .ok [x, y, z] e3 := by
  funext env
  simp only [evAs, O.bind_ok, O.bind_assoc]
theorem len1 {a : E} {rs : List R} {e1 : En} (h : evAs C (.cons a .nil) env = .ok rs e1) : rs.length = 1 := by
  rw [as1] at h; dsimp only at h
  cases ex : ev C a env <;> rw [ex] at h <;> simp at h
  obtain ⟨rfl, rfl⟩ := h
  rfl
theorem len2 {a b : E} {rs : List R} {e1 : En} (h : evAs C (.cons a (.cons b .nil)) env = .ok rs e1) : rs.length = 2 := by
  rw [as2] at h; dsimp only at h
  cases ex : ev C a env <;> rw [ex] at h <;> simp at h
  rename_i x e2
  cases ey : ev C b e2 <;> rw [ey] at h <;> simp at h
  obtain ⟨rfl, rfl⟩ := h
  rfl
theorem len3 {a b c : E} {rs : List R} {e1 : En} (h : evAs C (.cons a (.cons b (.cons c .nil))) env = .ok rs e1) : rs.length = 3 := by
  rw [as3] at h; dsimp only at h
  cases ex : ev C a env <;> rw [ex] at h <;> simp at h
  rename_i x e2
  cases ey : ev C b e2 <;> rw [ey] at h <;> simp at h
  rename_i y e3
  cases ez : ev C c e3 <;> rw [ez] at h <;> simp at h
  obtain ⟨rfl, rfl⟩ := h
  rfl
theorem TIv.rng1 {a : E} {Q : L2.It → Hp → Prop} (h : TIv K T B W (evIt C (.rng (.cons a .nil))) σ H Q) : iRng1 (TAv K T B W (evAs C (.cons a .nil))) σ H Q := by
  obtain ⟨env, M, r, h⟩ := h
  refine ⟨env, M, r, ?_⟩
  unfold evIt at h
  cases ex : evAs C (.cons a .nil) env with
  | bad => rw [ex] at h; exact h
  | ex c e1 => rw [ex] at h; exact h
  | ok rs e1 =>
    rw [ex] at h
    simp only [O.bind_ok] at h
    have hl := len1 ex
    intro vs H1 q
    cases e2 : rds e1 rs with
    | none => rw [e2] at h; exact h.elim
    | some ds =>
      rw [e2] at h
      simp only [O.of_some, O.bind_ok] at h
      cases e3 : rngO ds with
      | none => rw [e3] at h; exact h.elim
      | some is =>
        rw [e3] at h
        simp only [O.of_some, O.bind_ok] at h
        obtain ⟨N, pr⟩ := q.read e2
        have hl2 := rds_length e2
        unfold rngO at e3
        split at e3
        · split at e3 <;> cases e3
          rename_i hz
          obtain ⟨v, rfl, rv⟩ := args1 pr
          cases rv.int
          exact ⟨_, rfl, hz.1, hz.2, h [] H1 [] _ q.drop rfl wlk_rng⟩
        · simp at hl2; omega
        · cases e3
theorem TIv.rng2 {a b : E} {Q : L2.It → Hp → Prop} (h : TIv K T B W (evIt C (.rng (.cons a (.cons b .nil)))) σ H Q) : iRng2 (TAv K T B W (evAs C (.cons a (.cons b .nil)))) σ H Q := by
  obtain ⟨env, M, r, h⟩ := h
  refine ⟨env, M, r, ?_⟩
  unfold evIt at h
  cases ex : evAs C (.cons a (.cons b .nil)) env with
  | bad => rw [ex] at h; exact h
  | ex c e1 => rw [ex] at h; exact h
  | ok rs e1 =>
    rw [ex] at h
    simp only [O.bind_ok] at h
    have hl := len2 ex
    intro vs H1 q
    cases e2 : rds e1 rs with
    | none => rw [e2] at h; exact h.elim
    | some ds =>
      rw [e2] at h
      simp only [O.of_some, O.bind_ok] at h
      cases e3 : rngO ds with
      | none => rw [e3] at h; exact h.elim
      | some is =>
        rw [e3] at h
        simp only [O.of_some, O.bind_ok] at h
        obtain ⟨N, pr⟩ := q.read e2
        have hl2 := rds_length e2
        unfold rngO at e3
        split at e3
        · simp at hl2; omega
        · split at e3 <;> cases e3
          rename_i hz
          obtain ⟨v, w, rfl, rv, rw'⟩ := args2 pr
          cases rv.int
          cases rw'.int
          exact ⟨_, _, rfl, ⟨hz.1.1, hz.1.2, hz.2.1, hz.2.2⟩, h [] H1 [] _ q.drop rfl wlk_rng⟩
        · cases e3
theorem TIv.zip2 {a b : E} {Q : L2.It → Hp → Prop} (h : TIv K T B W (evIt C (.zip (.cons a (.cons b .nil)))) σ H Q) : TAv K T B W (evAs C (.cons a (.cons b .nil))) σ H fun vs H1 =>
    ∃ c1 c2 xs ys, vs = [.ref (Src.ad c1), .ref (Src.ad c2)] ∧ c1.sq K H1 xs ∧ c2.sq K H1 ys ∧ Q (Jz2 K c1 c2) H1 := by
  obtain ⟨env, M, r, h⟩ := h
  refine ⟨env, M, r, ?_⟩
  unfold evIt at h
  cases ex : evAs C (.cons a (.cons b .nil)) env with
  | bad => rw [ex] at h; exact h
  | ex c e1 => rw [ex] at h; exact h
  | ok rs e1 =>
    rw [ex] at h
    simp only [O.bind_ok] at h
    have hl := len2 ex
    intro vs H1 q
    cases e2 : rds e1 rs with
    | none => rw [e2] at h; exact h.elim
    | some ds =>
      rw [e2] at h
      simp only [O.of_some, O.bind_ok] at h
      cases e3 : zipO ds with
      | none => rw [e3] at h; exact h.elim
      | some is =>
        rw [e3] at h
        simp only [O.of_some, O.bind_ok] at h
        obtain ⟨N, pr⟩ := q.read e2
        have hl2 := rds_length e2
        unfold zipO at e3
        split at e3
        · split at e3 <;> cases e3
          rename_i i1 i2
          obtain ⟨v, w, rfl, rv, rw'⟩ := args2 pr
          obtain ⟨c, xs, rfl, h1, h2, k⟩ := Src.of_rdv rv i1
          obtain ⟨c', ys, rfl, h1', h2', k'⟩ := Src.of_rdv rw' i2
          exact ⟨c, c', xs, ys, rfl, h1, h1', h _ H1 _ _ q e2 (wlk_z2 i1 k i2 k')⟩
        · simp at hl2; omega
        · cases e3
theorem TIv.zip3 {a b c : E} {Q : L2.It → Hp → Prop} (h : TIv K T B W (evIt C (.zip (.cons a (.cons b (.cons c .nil))))) σ H Q) : TAv K T B W (evAs C (.cons a (.cons b (.cons c .nil)))) σ H fun vs H1 =>
    ∃ c1 c2 c3 xs ys zs, vs = [.ref (Src.ad c1), .ref (Src.ad c2), .ref (Src.ad c3)] ∧ c1.sq K H1 xs ∧ c2.sq K H1 ys ∧ c3.sq K H1 zs ∧ Q (Jz3 K c1 c2 c3) H1 := by
  obtain ⟨env, M, r, h⟩ := h
  refine ⟨env, M, r, ?_⟩
  unfold evIt at h
  cases ex : evAs C (.cons a (.cons b (.cons c .nil))) env with
  | bad => rw [ex] at h; exact h
  | ex c e1 => rw [ex] at h; exact h
  | ok rs e1 =>
    rw [ex] at h
    simp only [O.bind_ok] at h
    have hl := len3 ex
    intro vs H1 q
    cases e2 : rds e1 rs with
    | none => rw [e2] at h; exact h.elim
    | some ds =>
      rw [e2] at h
      simp only [O.of_some, O.bind_ok] at h
      cases e3 : zipO ds with
      | none => rw [e3] at h; exact h.elim
      | some is =>
        rw [e3] at h
        simp only [O.of_some, O.bind_ok] at h
        obtain ⟨N, pr⟩ := q.read e2
        have hl2 := rds_length e2
        unfold zipO at e3
        split at e3
        · simp at hl2; omega
        · split at e3 <;> cases e3
          rename_i i1 i2 i3
          obtain ⟨v, w, u, rfl, rv, rw', ru⟩ : ∃ v w u, vs = [v, w, u] ∧ RdV K H1 N v _ ∧ RdV K H1 N w _ ∧ RdV K H1 N u _ := by
            cases pr with
            | cons a1 t => cases t with
              | cons b1 t => cases t with
                | cons c1 t => cases t; exact ⟨_, _, _, rfl, a1, b1, c1⟩
          obtain ⟨c, xs, rfl, h1, h2, k⟩ := Src.of_rdv rv i1
          obtain ⟨c', ys, rfl, h1', h2', k'⟩ := Src.of_rdv rw' i2
          obtain ⟨c'', zs, rfl, h1'', h2'', k''⟩ := Src.of_rdv ru i3
          exact ⟨c, c', c'', xs, ys, zs, rfl, h1, h1', h1'', h _ H1 _ _ q e2 (wlk_z3 i1 k i2 k' i3 k'')⟩
        · cases e3
theorem TIv.enu {e : E} {Q : L2.It → Hp → Prop} (h : TIv K T B W (evIt C (.enu e)) σ H Q) : TEv K T B W (ev C e) σ H fun x H1 => ∃ c xs, x = .ref (Src.ad c) ∧ c.sq K H1 xs ∧ Q (Jen K c) H1 := by
  obtain ⟨env, M, r, h⟩ := h
  refine ⟨env, M, r, ?_⟩
  unfold evIt at h
  cases ex : ev C e env with
  | bad => rw [ex] at h; exact h
  | ex c e1 => rw [ex] at h; exact h
  | ok x e1 =>
    rw [ex] at h
    simp only [O.bind_ok] at h
    intro v H1 q
    cases e2 : rd e1 x with
    | none => rw [e2] at h; exact h.elim
    | some d =>
      rw [e2] at h
      simp only [O.of_some, O.bind_ok] at h
      cases e3 : itemsOf d with
      | none => rw [e3] at h; exact h.elim
      | some ds =>
        rw [e3] at h
        simp only [O.of_some, O.bind_ok] at h
        obtain ⟨N, pr⟩ := q.read (rds_one e2)
        obtain ⟨d', ed, rv⟩ := paired1 pr
        cases ed
        obtain ⟨c, xs, rfl, h1, h2, k⟩ := Src.of_rdv rv e3
        exact ⟨c, xs, rfl, h1, h _ H1 [d] _ q (rds_one e2) (wlk_en e3 k)⟩
end
end Mi
set_option maxRecDepth 100000
set_option maxHeartbeats 2000000
namespace Mi
open PySem L2 PySem.Spec PyProof.Rows
/-- what a statement leaves as it was -/
structure StP (env : En) (σ : L2.St) (H : Hp) (env' : En) (σ' : L2.St) (H' : Hp) : Prop where
  fre : Fre env σ H H'
  ow : ∀ a, Ow env' σ' a → Ow env σ a ∨ H a = none
  lk : ∀ (i : Nat) (d : D) (k : Kd), env'[i]? = some (some (d, k)) → k.locked = true → env[i]? = some (some (d, k)) ∧ σ'[i]? = σ[i]?
  len : env'.length = env.length
  io : ∀ (i : Nat) (d : D) (k : Kd), env'[i]? = some (some (d, k)) → k.unlock = .io → (∃ d0 k0, env[i]? = some (some (d0, k0)) ∧ k0.unlock = .io) ∧ σ'[i]? = σ[i]?
section
variable {K : PySem.W.Frag} {T M B : Addr → Prop} {W : WC} {env env' env1 env2 : En} {σ σ' σ1 σ2 : L2.St} {H H' H1 H2 : Hp} {N N' : Addr → Prop}
theorem lk_ne {k : Kd} (h : k.locked = true) : k ≠ .fz := fun z => by subst z; cases h
theorem StP.refl : StP env σ H env σ H := ⟨Fre.refl, fun _ h => .inl h, fun _ _ _ h _ => ⟨h, rfl⟩, rfl, fun _ d k h hk => ⟨⟨d, k, h, hk⟩, rfl⟩⟩
theorem StP.trans (a : StP env σ H env1 σ1 H1) (b : StP env1 σ1 H1 env2 σ2 H2) : StP env σ H env2 σ2 H2 where
  fre := ⟨fun x o h hn ht => b.fre.kp x o (a.fre.kp x o h hn ht) (fun q => (a.ow x q).elim hn fun z => by rw [h] at z; cases z) ht, fun x h => b.fre.dm x (a.fre.dm x h)⟩
  ow := fun x h => (b.ow x h).elim (a.ow x) fun z => .inr (by
    cases q : H x with
    | none => rfl
    | some o => exact absurd z (a.fre.dm x (by rw [q]; simp)))
  lk := fun i d k h hk => by
    obtain ⟨h1, e1⟩ := b.lk i d k h hk
    obtain ⟨h2, e2⟩ := a.lk i d k h1 hk
    exact ⟨h2, e1.trans e2⟩
  len := b.len.trans a.len
  io := fun i d k h hk => by
    obtain ⟨⟨d1, k1, h1, hk1⟩, e1⟩ := b.io i d k h hk
    obtain ⟨h2, e2⟩ := a.io i d1 k1 h1 hk1
    exact ⟨h2, e1.trans e2⟩
theorem StP.of (f : Fre env σ H H') (s : Sub env env') : StP env σ H env' σ H' := ⟨f, fun _ h => .inl (s.ow h), fun i d k h hk => by
  obtain ⟨d0, e, l⟩ := s.2 i d k h (lk_ne hk)
  rw [l hk] at e
  exact ⟨e, rfl⟩, s.1, fun i d k h hk => by
  obtain ⟨d0, e, l⟩ := s.2 i d k h fun z => by subst z; cases hk
  exact ⟨⟨d0, k, e, hk⟩, rfl⟩⟩
theorem RPs.stp {rs : List R} {vs : List V} (h : RPs K T M B env σ H rs env1 vs H1) : StP env σ H env1 σ H1 := StP.of h.1 h.2.1
/-! ### slots -/
theorem get_set_self {α : Type} {l : List α} {i : Nat} {x : α} (h : i < l.length) : (l.set i x)[i]? = some x := by simp [h]
theorem get_set_ne {α : Type} {l : List α} {i j : Nat} {x : α} (h : j ≠ i) : (l.set i x)[j]? = l[j]? := by simp [List.getElem?_set, Ne.symm h]
/-- slots that own behind a slot's store -/
theorem ow_set {i : Nat} {d : D} {k : Kd} {v : V} {a : Addr} (hi : i < env.length) (hs : i < σ.length) (h : Ow (env.set i (some (d, k))) (σ.set i (some v)) a) : Ow env σ a ∨ (k ≠ .fz ∧ v = .ref a) := by
  obtain ⟨j, d', k', h1, h2, h3⟩ := h
  by_cases e : j = i
  · subst e
    rw [get_set_self hi] at h1
    rw [get_set_self hs] at h3
    cases h1
    cases h3
    exact .inr ⟨h2, rfl⟩
  · rw [get_set_ne e] at h1 h3
    exact .inl ⟨j, d', k', h1, h2, h3⟩
/-- a slot takes a value that stays as it is -/
theorem Rel.setFz {i : Nat} {d : D} {v : V} (r : Rel K T M B env σ H) (hi : i < env.length) (h : DR K H (NS M env σ) v d) : Rel K T M B (env.set i (some (d, .fz))) (σ.set i (some v)) H := by
  have hs : i < σ.length := by rw [← r.len]; exact hi
  have ow : ∀ a, Ow (env.set i (some (d, .fz))) (σ.set i (some v)) a → Ow env σ a := fun a q => (ow_set hi hs q).elim id fun z => (z.1 rfl).elim
  have hn : ∀ a, NS M (env.set i (some (d, .fz))) (σ.set i (some v)) a → NS M env σ a := fun a q => q.elim .inl fun z => .inr (ow a z)
  refine ⟨by simp [r.len], fun j d' e => ?_, fun j d' k' e hk => ?_, fun j j' d1 k1 d2 k2 a e1 h1 e2 h2 q1 q2 => ?_, fun j d' a e q => ?_, fun a q => r.od a (ow a q), r.dm, r.db, r.tb⟩
  · by_cases ej : j = i
    · subst ej
      rw [get_set_self hi] at e
      cases e
      exact ⟨v, get_set_self hs, h.anti hn⟩
    · rw [get_set_ne ej] at e
      obtain ⟨w, e1, e2⟩ := r.fz j d' e
      exact ⟨w, by rw [get_set_ne ej]; exact e1, e2.anti hn⟩
  · by_cases ej : j = i
    · subst ej
      rw [get_set_self hi] at e
      cases e
      exact (hk rfl).elim
    · rw [get_set_ne ej] at e
      obtain ⟨a, e1, e2⟩ := r.ow j d' k' e hk
      exact ⟨a, by rw [get_set_ne ej]; exact e1, e2.step (Kp.refl _ _) (fun x q => .inl (hn x q)) fun _ z => z⟩
  · have n1 : j ≠ i := fun z => by subst z; rw [get_set_self hi] at e1; cases e1; exact h1 rfl
    have n2 : j' ≠ i := fun z => by subst z; rw [get_set_self hi] at e2; cases e2; exact h2 rfl
    rw [get_set_ne n1] at e1 q1
    rw [get_set_ne n2] at e2 q2
    exact r.dis j j' d1 k1 d2 k2 a e1 h1 e2 h2 q1 q2
  · have n1 : j ≠ i := fun z => by subst z; rw [get_set_self hi] at e; cases e
    rw [get_set_ne n1] at e q
    exact r.fr j d' a e q
theorem StP.setFz {i : Nat} {d : D} {v : V} (r : Rel K T M B env σ H) (hi : i < env.length) : StP env σ H (env.set i (some (d, .fz))) (σ.set i (some v)) H := by
  have hs : i < σ.length := by rw [← r.len]; exact hi
  refine ⟨Fre.refl, fun a q => (ow_set hi hs q).elim .inl fun z => (z.1 rfl).elim, fun j d' k h hk => ?_, by simp, fun j d' k h hk => ?_⟩
  · have n1 : j ≠ i := fun z => by subst z; rw [get_set_self hi] at h; cases h; cases hk
    rw [get_set_ne n1] at h
    exact ⟨h, by rw [get_set_ne n1]⟩
  · have n1 : j ≠ i := fun z => by subst z; rw [get_set_self hi] at h; cases h; cases hk
    rw [get_set_ne n1] at h
    exact ⟨⟨d', k, h, hk⟩, by rw [get_set_ne n1]⟩
/-- a slot takes a new list or dict as its own -/
theorem Rel.setOw {i : Nat} {d : D} {p : Addr} (r : Rel K T (MP M [p]) B env σ H) (hi : i < env.length) (hM : ¬ M p) (hB : ¬ B p) (h : Ob K H (NS (MP M [p]) env σ) p d) : Rel K T M B (env.set i (some (d, .ow))) (σ.set i (some (.ref p))) H := by
  have hs : i < σ.length := by rw [← r.len]; exact hi
  have hp : ¬ Ow env σ p := fun q => r.od p q (.inr (by simp))
  have ow : ∀ a, Ow (env.set i (some (d, .ow))) (σ.set i (some (.ref p))) a → Ow env σ a ∨ a = p := fun a q => (ow_set hi hs q).elim .inl fun z => .inr (by cases z.2; rfl)
  have hn : ∀ a, NS M (env.set i (some (d, .ow))) (σ.set i (some (.ref p))) a → NS (MP M [p]) env σ a := fun a q => q.elim (fun z => .inl (.inl z)) fun z => (ow a z).elim .inr fun y => .inl (.inr (by simp [y]))
  have step : ∀ {a d}, Ob K H (NS (MP M [p]) env σ) a d → Ob K H (NS M (env.set i (some (d, .ow))) (σ.set i (some (.ref p)))) a d := fun q => q.step (Kp.refl _ _) (fun x z => .inl (z.elim (fun y => .inl (.inl y)) fun y => by
    obtain ⟨j, d', k', h1, h2, h3⟩ := y
    by_cases ej : j = i
    · subst ej
      rw [get_set_self hs] at h3
      cases h3
      exact .inl (.inr (by simp))
    · rw [get_set_ne ej] at h1 h3
      exact .inr ⟨j, d', k', h1, h2, h3⟩)) fun _ z => z
  refine ⟨by simp [r.len], fun j d' e => ?_, fun j d' k' e hk => ?_, fun j j' d1 k1 d2 k2 a e1 h1 e2 h2 q1 q2 => ?_, fun j d' a e q => ?_, fun a q z => ?_, fun a q => r.dm a (.inl q), r.db, r.tb⟩
  · have ej : j ≠ i := fun z => by subst z; rw [get_set_self hi] at e; cases e
    rw [get_set_ne ej] at e
    obtain ⟨w, e1, e2⟩ := r.fz j d' e
    exact ⟨w, by rw [get_set_ne ej]; exact e1, e2.anti hn⟩
  · by_cases ej : j = i
    · subst ej
      rw [get_set_self hi] at e
      cases e
      exact ⟨p, get_set_self hs, h.step (Kp.refl _ _) (fun x q => .inl (hn x q)) fun _ z => z⟩
    · rw [get_set_ne ej] at e
      obtain ⟨a, e1, e2⟩ := r.ow j d' k' e hk
      exact ⟨a, by rw [get_set_ne ej]; exact e1, e2.step (Kp.refl _ _) (fun x q => .inl (hn x q)) fun _ z => z⟩
  · by_cases n1 : j = i
    · subst n1
      rw [get_set_self hs] at q1
      cases q1
      by_cases n2 : j' = j
      · exact n2.symm
      · rw [get_set_ne n2] at e2 q2
        exact (hp ⟨j', d2, k2, e2, h2, q2⟩).elim
    · rw [get_set_ne n1] at e1 q1
      by_cases n2 : j' = i
      · subst n2
        rw [get_set_self hs] at q2
        cases q2
        exact (hp ⟨j, d1, k1, e1, h1, q1⟩).elim
      · rw [get_set_ne n2] at e2 q2
        exact r.dis j j' d1 k1 d2 k2 a e1 h1 e2 h2 q1 q2
  · by_cases n1 : j = i
    · subst n1
      rw [get_set_self hs] at q
      cases q
      exact hB
    · rw [get_set_ne n1] at e q
      exact r.fr j d' a e q
  · rcases ow a q with y | rfl
    · exact r.od a y (.inl z)
    · exact hM z
theorem StP.setOw {i : Nat} {d : D} {p : Addr} (r : Rel K T M B env σ H) (hi : i < env.length) (hp : Ow env1 σ p ∨ H1 p = none) (f : Fre env1 σ H1 H) (s : Sub env1 env) : StP env1 σ H1 (env.set i (some (d, .ow))) (σ.set i (some (.ref p))) H := by
  have hs : i < σ.length := by rw [← r.len]; exact hi
  refine ⟨f, fun a q => (ow_set hi hs q).elim (fun z => .inl (s.ow z)) fun z => (by cases z.2; exact hp), fun j d' k h hk => ?_, by simp [s.1], fun j d' k h hk => ?_⟩
  · have n1 : j ≠ i := fun z => by subst z; rw [get_set_self hi] at h; cases h; cases hk
    rw [get_set_ne n1] at h
    obtain ⟨d0, e, l⟩ := s.2 j d' k h (lk_ne hk)
    rw [l hk] at e
    exact ⟨e, by rw [get_set_ne n1]⟩
  · have n1 : j ≠ i := fun z => by subst z; rw [get_set_self hi] at h; cases h; cases hk
    rw [get_set_ne n1] at h
    obtain ⟨d0, e, l⟩ := s.2 j d' k h fun z => by subst z; cases hk
    exact ⟨⟨d0, k, e, hk⟩, by rw [get_set_ne n1]⟩
/-- a slot that owns is emptied; its list or dict is kept apart from then on -/
theorem Rel.take {i : Nat} {d : D} {k : Kd} {p : Addr} (r : Rel K T M B env σ H) (e : env[i]? = some (some (d, k))) (hk : k ≠ .fz) (hp : σ[i]? = some (some (.ref p))) :
    Rel K T (MP M [p]) B (env.set i none) σ H ∧ Ob K H (NS (MP M [p]) (env.set i none) σ) p d ∧ Sub env (env.set i none) ∧ ¬ Ow (env.set i none) σ p := by
  have hi : i < env.length := (List.getElem?_eq_some_iff.mp e).1
  have hp' : Ow env σ p := ⟨i, d, k, e, hk, hp⟩
  have sub : ∀ {j : Nat} {d' : D} {k' : Kd}, (env.set i none)[j]? = some (some (d', k')) → j ≠ i ∧ env[j]? = some (some (d', k')) := fun {j d' k'} h => by
    have n1 : j ≠ i := fun z => by subst z; rw [get_set_self hi] at h; cases h
    rw [get_set_ne n1] at h
    exact ⟨n1, h⟩
  have ow : ∀ a, Ow (env.set i none) σ a → Ow env σ a := fun a ⟨j, d', k', h1, h2, h3⟩ => ⟨j, d', k', (sub h1).2, h2, h3⟩
  have np : ¬ Ow (env.set i none) σ p := fun ⟨j, d', k', h1, h2, h3⟩ => (sub h1).1 (r.dis j i d' k' d k p (sub h1).2 h2 e hk h3 hp)
  have hn : ∀ a, NS (MP M [p]) (env.set i none) σ a → NS M env σ a := fun a q => q.elim (fun z => (MP_one z).elim .inl fun y => .inr (by rw [y]; exact hp')) fun z => .inr (ow a z)
  refine ⟨⟨by simp [r.len], fun j d' h => ?_, fun j d' k' h hk' => ?_, fun j j' d1 k1 d2 k2 a e1 h1 e2 h2 q1 q2 => r.dis j j' d1 k1 d2 k2 a (sub e1).2 h1 (sub e2).2 h2 q1 q2, fun j d' a h q => r.fr j d' a (sub h).2 q, fun a q z => ?_, fun a q => ?_, r.db, r.tb⟩, ?_, ⟨by simp, fun j d' k' h hk' => ⟨d', (sub h).2, fun _ => rfl⟩⟩, np⟩
  · obtain ⟨v, e1, e2⟩ := r.fz j d' (sub h).2
    exact ⟨v, e1, e2.anti hn⟩
  · obtain ⟨a, e1, e2⟩ := r.ow j d' k' (sub h).2 hk'
    exact ⟨a, e1, e2.step (Kp.refl _ _) (fun x q => .inl (hn x q)) fun _ z => z⟩
  · rcases MP_one z with z | rfl
    · exact r.od a (ow a q) z
    · exact np q
  · rcases MP_one q with q | rfl
    · exact r.dm a q
    · obtain ⟨xs, z⟩ := r.owlst hp'
      rw [z]; simp
  · obtain ⟨a, e1, e2⟩ := r.ow i d k e hk
    rw [hp] at e1; cases e1
    exact e2.step (Kp.refl _ _) (fun x q => .inl (hn x q)) fun _ z => z
end
end Mi
set_option maxRecDepth 100000
set_option maxHeartbeats 2000000
namespace Mi
open PySem L2 PySem.Spec PyProof.Rows
section
variable (K : PySem.W.Frag) (T B : Addr → Prop)
/-- a target's reading -/
def gPt (p : Pt) : TG := fun v σ H Q => ∃ env M d env2, Rel K T M B env σ H ∧ DR K H (NS M env σ) v d ∧ bindP p d env = some env2 ∧
  ∀ σ2, StP env σ H env2 σ2 H → Rel K T M B env2 σ2 H → (∀ (i : Nat), i ∉ slotsP p → σ2[i]? = σ[i]?) → σ2.length = σ.length → (∀ (i : Nat), i ∉ slotsP p → env2[i]? = env[i]?) → Q σ2 H
def gPts (ps : List Pt) : TGs := fun vs σ H Q => ∃ env M ds env2, Rel K T M B env σ H ∧ DRs K H (NS M env σ) vs ds ∧ bindPs ps ds env = some env2 ∧
  ∀ σ2, StP env σ H env2 σ2 H → Rel K T M B env2 σ2 H → (∀ (i : Nat), i ∉ slotsPs ps → σ2[i]? = σ[i]?) → σ2.length = σ.length → (∀ (i : Nat), i ∉ slotsPs ps → env2[i]? = env[i]?) → Q σ2 H
end
section
variable {X : Cx} {T B : Addr → Prop}
theorem pg_weak {tg : Expr} {g g' : TG} (h : PG X tg g) (w : ∀ v σ H Q, g' v σ H Q → g v σ H Q) : PG X tg g' := ⟨fun pins s σ H v u Q I r q => h.run pins s σ H v u Q I r (w v σ H Q q)⟩
theorem pgs_weak {tg : List Expr} {g g' : TGs} (h : PGs X tg g) (w : ∀ v σ H Q, g' v σ H Q → g v σ H Q) : PGs X tg g' := ⟨fun pins s σ H v u Q I r q => h.run pins s σ H v u Q I r (w v σ H Q q)⟩
theorem pgm_name {i : Nat} {x : Str} {pos : Pos} (hN : X.N.Nodup) (hi : X.N[i]? = some x) (hx : Loc X.env.scope x) (hf : X.fn x = true ∨ X.env.scope.names.lookup x = some .local) : PG X (.Name x pos) (gPt X.K T B (.nm i)) := by
  refine pg_weak (pg_name hN hi hx hf) fun v σ H Q h => ?_
  obtain ⟨env, M, d, env2, r, hd, hb, q⟩ := h
  unfold bindP at hb
  split at hb <;> cases hb
  rename_i hl
  exact q _ (StP.setFz r hl) (r.setFz hl hd) (fun j hj => get_set_ne (by simpa [slotsP] using hj)) (by simp) fun j hj => get_set_ne (by simpa [slotsP] using hj)
theorem pgms_nil : PGs X [] (gPts X.K T B []) := by
  refine pgs_weak pgs_nil fun vs σ H Q h => ?_
  obtain ⟨env, M, ds, env2, r, hd, hb, q⟩ := h
  cases ds with
  | nil =>
    cases hd
    simp [bindPs] at hb
    subst hb
    exact ⟨rfl, q σ StP.refl r (fun _ _ => rfl) rfl fun _ _ => rfl⟩
  | cons d ds => simp [bindPs] at hb
theorem pgms_cons {e : Expr} {es : List Expr} {p : Pt} {ps : List Pt} (h1 : PG X e (gPt X.K T B p)) (h2 : PGs X es (gPts X.K T B ps))
    (hs : (assignEach (e :: es) X.env).map (·.2) = assign e X.env :: (assignEach es X.env).map (·.2)) : PGs X (e :: es) (gPts X.K T B (p :: ps)) := by
  refine pgs_weak (pgs_cons h1 h2 hs) fun vs σ H Q h => ?_
  obtain ⟨env, M, ds, env2, r, hd, hb, q⟩ := h
  cases ds with
  | nil => simp [bindPs] at hb
  | cons d ds =>
    cases hd with
    | @cons v _ vs _ d1 d2 =>
      unfold bindPs at hb
      split at hb
      · rename_i env1 hb1
        refine ⟨v, vs, rfl, env, M, d, env1, r, d1, hb1, fun σ1 s1 r1 k1 l1 n1 => ?_⟩
        have hn : ∀ a, NS M env1 σ1 a → NS M env σ a := fun a z => z.elim .inl fun y => by
          rcases s1.ow a y with y | y
          · exact .inr y
          · obtain ⟨xs, e⟩ := r1.owlst ‹Ow env1 σ1 a›
            rw [y] at e; cases e
        refine ⟨env1, M, ds, env2, r1, d2.anti hn, hb, fun σ2 s2 r2 k2 l2 n2 => q σ2 (s1.trans s2) r2 (fun j hj => ?_) (l2.trans l1) fun j hj => ?_⟩
        · simp only [slotsPs, List.mem_append, not_or] at hj
          exact (k2 j hj.2).trans (k1 j hj.1)
        · simp only [slotsPs, List.mem_append, not_or] at hj
          exact (n2 j hj.2).trans (n1 j hj.1)
      · cases hb
theorem pgm_tup {es : List Expr} {k : Nat} {pos : Pos} {ps : List Pt} (hc : X.calm = true) (h : PGs X es (gPts X.K T B ps)) (hl : es.length = ps.length)
    (hn : (assignEach es X.env).length = es.length) (hst : (assignEach es X.env).findIdx? (·.1) = none) : PG X (.Tuple es k pos) (gPt X.K T B (.tp ps)) := by
  have len : ∀ (ps : List Pt) (ds : List D) (env env2 : En), bindPs ps ds env = some env2 → ds.length = ps.length := by
    intro ps
    induction ps with
    | nil => intro ds env env2 h; cases ds <;> simp [bindPs] at h ⊢
    | cons p ps ih =>
      intro ds env env2 h
      cases ds with
      | nil => simp [bindPs] at h
      | cons d ds =>
        simp only [bindPs] at h
        split at h
        · simp [ih _ _ _ h]
        · cases h
  refine ⟨fun pins s σ H v u Q I rv hw => ?_⟩
  obtain ⟨env, M, d, env2, r, hd, hb, q⟩ := hw
  unfold bindP at hb
  split at hb
  · cases hd with
    | @tup a xs _ h1 h2 =>
      exact (pg_tup (n := ps.length) hc h (hn.trans hl) hst).run pins s σ H _ u Q I rv ⟨a, xs, rfl, h1, by rw [h2.length, len _ _ _ _ hb], env, M, _, env2, r, h2, hb, q⟩
  · cases hd with
    | @lst a xs _ h1 h2 =>
      exact (pg_unl (n := ps.length) hc h (hn.trans hl) hst).run pins s σ H _ u Q I rv ⟨a, xs, rfl, h1.imp And.left id, by rw [h2.length, len _ _ _ _ hb], env, M, _, env2, r, h2, hb, q⟩
  · cases hb
end
/-! ### locks -/
section
variable {K : PySem.W.Frag} {T M B : Addr → Prop} {W : WC} {env env' env1 env2 : En} {σ σ' σ1 σ2 : L2.St} {H H' H1 H2 : Hp} {N N' : Addr → Prop}
/-- the same slots, their kinds other -/
structure Kin (env env' : En) : Prop where
  len : env'.length = env.length
  fz : ∀ (i : Nat) (d : D), env'[i]? = some (some (d, .fz)) ↔ env[i]? = some (some (d, .fz))
  ow : ∀ (i : Nat) (d : D) (k' : Kd), env'[i]? = some (some (d, k')) → k' ≠ .fz → ∃ k, env[i]? = some (some (d, k)) ∧ k ≠ .fz ∧ k.unlock = k'.unlock
  wo : ∀ (i : Nat) (d : D) (k : Kd), env[i]? = some (some (d, k)) → k ≠ .fz → ∃ k', env'[i]? = some (some (d, k')) ∧ k' ≠ .fz
theorem Kin.refl : Kin env env := ⟨rfl, fun _ _ => Iff.rfl, fun _ _ k h hk => ⟨k, h, hk, rfl⟩, fun _ _ k h hk => ⟨k, h, hk⟩⟩
theorem Kin.trans (a : Kin env env1) (b : Kin env1 env2) : Kin env env2 := ⟨b.len.trans a.len, fun i d => (b.fz i d).trans (a.fz i d), fun i d k' h hk => by
  obtain ⟨k, h1, h2, h3⟩ := b.ow i d k' h hk
  obtain ⟨k0, h4, h5, h6⟩ := a.ow i d k h1 h2
  exact ⟨k0, h4, h5, h6.trans h3⟩, fun i d k h hk => by
  obtain ⟨k1, h1, h2⟩ := a.wo i d k h hk
  exact b.wo i d k1 h1 h2⟩
theorem Kin.oww (a : Kin env env') {x : Addr} : Ow env' σ x ↔ Ow env σ x := by
  constructor
  · rintro ⟨i, d, k, h1, h2, h3⟩
    obtain ⟨k0, h4, h5, _⟩ := a.ow i d k h1 h2
    exact ⟨i, d, k0, h4, h5, h3⟩
  · rintro ⟨i, d, k, h1, h2, h3⟩
    obtain ⟨k0, h4, h5⟩ := a.wo i d k h1 h2
    exact ⟨i, d, k0, h4, h5, h3⟩
theorem Kin.ns (a : Kin env env') {x : Addr} : NS M env' σ x ↔ NS M env σ x := by
  unfold NS
  rw [a.oww]
theorem Kin.kin1 {i : Nat} {d : D} {k k' : Kd} (e : env[i]? = some (some (d, k))) (h1 : k = .fz ↔ k' = .fz) (h2 : k'.unlock = k.unlock) : Kin env (env.set i (some (d, k'))) := by
  have hi : i < env.length := (List.getElem?_eq_some_iff.mp e).1
  refine ⟨by simp, fun j d' => ?_, fun j d' k1 h hk => ?_, fun j d' k1 h hk => ?_⟩
  · by_cases ej : j = i
    · subst ej
      rw [get_set_self hi, e]
      constructor
      · intro h; cases h; rw [h1.mpr rfl]
      · intro h; cases h; rw [h1.mp rfl]
    · rw [get_set_ne ej]
  · by_cases ej : j = i
    · subst ej
      rw [get_set_self hi] at h
      cases h
      exact ⟨k, e, fun z => hk (h1.mp z), h2.symm⟩
    · rw [get_set_ne ej] at h
      exact ⟨k1, h, hk, rfl⟩
  · by_cases ej : j = i
    · subst ej
      rw [e] at h
      cases h
      exact ⟨k', get_set_self hi, fun z => hk (h1.mpr z)⟩
    · exact ⟨k1, by rw [get_set_ne ej]; exact h, hk⟩
theorem lock_fz {k : Kd} : k = .fz ↔ k.lock = .fz := by cases k <;> simp [Kd.lock]
theorem unlock_fz {k : Kd} : k = .fz ↔ k.unlock = .fz := by cases k <;> simp [Kd.unlock]
theorem lock_unlock {k : Kd} : k.lock.unlock = k.unlock := by cases k <;> rfl
theorem unlock_unlock {k : Kd} : k.unlock.unlock = k.unlock := by cases k <;> rfl
theorem kin_lock : ∀ (rs : List R) (env : En), Kin env (lockE rs env)
  | [], env => Kin.refl
  | .v d :: rs, env => kin_lock rs env
  | .o d :: rs, env => kin_lock rs env
  | .s i :: rs, env => by
    unfold lockE
    split
    · rename_i d k e
      exact (Kin.kin1 e lock_fz lock_unlock).trans (kin_lock rs _)
    · exact kin_lock rs env
theorem kin_unlock : ∀ (is : List Nat) (env : En), Kin env (unlockE is env)
  | [], env => Kin.refl
  | i :: is, env => by
    show Kin env (unlockE is (match env[i]? with | some (some (d, k)) => env.set i (some (d, k.unlock)) | _ => env))
    split
    · rename_i d k e
      exact (Kin.kin1 e unlock_fz unlock_unlock).trans (kin_unlock is _)
    · exact kin_unlock is env
/-- the state with other kinds: slots that become own must be new since the entry -/
theorem Rel.kin (r : Rel K T M B env σ H) (a : Kin env env') (hf : ∀ (i : Nat) (d : D) (p : Addr), env'[i]? = some (some (d, .ow)) → σ[i]? = some (some (.ref p)) → ¬ B p) : Rel K T M B env' σ H := by
  have hn : ∀ x, NS M env' σ x → NS M env σ x := fun x => a.ns.mp
  refine ⟨a.len.trans r.len, fun i d e => ?_, fun i d k e hk => ?_, fun i j d k d' k' x e1 h1 e2 h2 q1 q2 => ?_, hf, fun x q => r.od x (a.oww.mp q), r.dm, r.db, r.tb⟩
  · obtain ⟨v, e1, e2⟩ := r.fz i d ((a.fz i d).mp e)
    exact ⟨v, e1, e2.anti hn⟩
  · obtain ⟨k0, e0, h0, _⟩ := a.ow i d k e hk
    obtain ⟨x, e1, e2⟩ := r.ow i d k0 e0 h0
    exact ⟨x, e1, e2.step (Kp.refl _ _) (fun y q => .inl (hn y q)) fun _ z => z⟩
  · obtain ⟨k0, e0, h0, _⟩ := a.ow i d k e1 h1
    obtain ⟨k0', e0', h0', _⟩ := a.ow j d' k' e2 h2
    exact r.dis i j d k0 d' k0' x e0 h0 e0' h0' q1 q2
theorem lock_get : ∀ (rs : List R) (env : En) (i : Nat), (lockE rs env)[i]? = env[i]? ∨ ∃ d k, env[i]? = some (some (d, k)) ∧ (lockE rs env)[i]? = some (some (d, k.lock)) ∧ .s i ∈ rs
  | [], env, i => .inl rfl
  | .v d :: rs, env, i => (lock_get rs env i).imp id fun ⟨d, k, h1, h2, h3⟩ => ⟨d, k, h1, h2, by simp [h3]⟩
  | .o d :: rs, env, i => (lock_get rs env i).imp id fun ⟨d, k, h1, h2, h3⟩ => ⟨d, k, h1, h2, by simp [h3]⟩
  | .s j :: rs, env, i => by
    unfold lockE
    split
    · rename_i d k e
      have hj : j < env.length := (List.getElem?_eq_some_iff.mp e).1
      by_cases ej : i = j
      · subst ej
        refine .inr ⟨d, k, e, ?_, by simp⟩
        rcases lock_get rs (env.set i (some (d, k.lock))) i with h | ⟨d', k', h1, h2, _⟩
        · rw [h, get_set_self hj]
        · rw [get_set_self hj] at h1
          cases h1
          rw [h2]
          cases k <;> rfl
      · rcases lock_get rs (env.set j (some (d, k.lock))) i with h | ⟨d', k', h1, h2, h3⟩
        · left; rw [h, get_set_ne ej]
        · rw [get_set_ne ej] at h1
          exact .inr ⟨d', k', h1, h2, by simp [h3]⟩
    · exact (lock_get rs env i).imp id fun ⟨d, k, h1, h2, h3⟩ => ⟨d, k, h1, h2, by simp [h3]⟩
theorem unlock_get : ∀ (is : List Nat) (env : En) (i : Nat), (i ∉ is ∧ (unlockE is env)[i]? = env[i]?) ∨ (i ∈ is ∧ ((unlockE is env)[i]? = env[i]? ∧ (∀ d k, env[i]? ≠ some (some (d, k))) ∨ ∃ d k, env[i]? = some (some (d, k)) ∧ (unlockE is env)[i]? = some (some (d, k.unlock))))
  | [], env, i => .inl ⟨by simp, rfl⟩
  | j :: is, env, i => by
    have step : unlockE (j :: is) env = unlockE is (match env[j]? with | some (some (d, k)) => env.set j (some (d, k.unlock)) | _ => env) := rfl
    rw [step]
    split
    · rename_i d k e
      have hj : j < env.length := (List.getElem?_eq_some_iff.mp e).1
      by_cases ej : i = j
      · subst ej
        refine .inr ⟨by simp, .inr ⟨d, k, e, ?_⟩⟩
        rcases unlock_get is (env.set i (some (d, k.unlock))) i with ⟨_, h⟩ | ⟨_, ⟨h, hh⟩ | ⟨d', k', h1, h2⟩⟩
        · rw [h, get_set_self hj]
        · exact (hh d k.unlock (get_set_self hj)).elim
        · rw [get_set_self hj] at h1
          cases h1
          rw [h2, unlock_unlock]
      · rcases unlock_get is (env.set j (some (d, k.unlock))) i with ⟨h0, h⟩ | ⟨h0, ⟨h, hh⟩ | ⟨d', k', h1, h2⟩⟩
        · exact .inl ⟨by simp [ej, h0], by rw [h, get_set_ne ej]⟩
        · rw [get_set_ne ej] at h hh
          exact .inr ⟨by simp [h0], .inl ⟨h, hh⟩⟩
        · rw [get_set_ne ej] at h1
          exact .inr ⟨by simp [h0], .inr ⟨d', k', h1, h2⟩⟩
    · rename_i hno
      rcases unlock_get is env i with ⟨h0, h⟩ | ⟨h0, h⟩
      · by_cases ej : i = j
        · subst ej
          exact .inr ⟨by simp, .inl ⟨h, hno⟩⟩
        · exact .inl ⟨by simp [ej, h0], h⟩
      · exact .inr ⟨by simp [h0], h⟩
end
end Mi
set_option maxRecDepth 100000
set_option maxHeartbeats 2000000
namespace Mi
open PySem L2 PySem.Spec PyProof.Rows
/-- a returned value -/
def RtV (K : PySem.W.Frag) (T M B : Addr → Prop) (env : En) (σ : L2.St) (H : Hp) (d : D) (own : Bool) (v : V) : Prop :=
  if own = true then ∃ p, v = .ref p ∧ ¬ M p ∧ ¬ B p ∧ Rel K T (MP M [p]) B env σ H ∧ Ob K H (NS (MP M [p]) env σ) p d
  else Rel K T M B env σ H ∧ DR K H (NS M env σ) v d
section
variable (K : PySem.W.Frag) (T B : Addr → Prop) (W : WC)
def OutS (M : Addr → Prop) (env : En) (σ : L2.St) (H : Hp) (o : O Fl) (Dn : Ends) : Prop := match o with
  | .ok x env' => (match x with
    | .nx => ∀ σ' H', StP env σ H env' σ' H' → Rel K T M B env' σ' H' → Dn.nx σ' H'
    | .brk => ∀ σ' H', StP env σ H env' σ' H' → Rel K T M B env' σ' H' → Dn.bk σ' H'
    | .ret d own => ∀ v σ' H', StP env σ H env' σ' H' → RtV K T M B env' σ' H' d own v → Dn.rt v H')
  | .ex c env' => ∀ σ' H', StP env σ H env' σ' H' → Rel K T M B env' σ' H' → W c σ' H'
  | .bad => False
def TSv (x : En → O Fl) : TS := fun Dn σ H => ∃ env M, Rel K T M B env σ H ∧ OutS K T B W M env σ H (x env) Dn
end
section
variable {K : PySem.W.Frag} {T M B : Addr → Prop} {W : WC} {env env' env1 env2 : En} {σ σ' σ1 σ2 : L2.St} {H H' H1 H2 : Hp} {N N' : Addr → Prop} {Dn : Ends}
theorem RtV.rel {d : D} {own : Bool} {v : V} (h : RtV K T M B env σ H d own v) : Rel K T M B env σ H := by
  unfold RtV at h
  split at h
  · obtain ⟨p, _, _, _, r, _⟩ := h
    exact r.less fun a z => .inl z
  · exact h.1
theorem RtV.less {M' : Addr → Prop} {d : D} {own : Bool} {v : V} (hm : ∀ a, M' a → M a) (h : RtV K T M B env σ H d own v) : RtV K T M' B env σ H d own v := by
  unfold RtV at h ⊢
  have hn : ∀ (Q : List Addr) a, NS (MP M' Q) env σ a → NS (MP M Q) env σ a := fun Q a q => q.elim (fun z => z.elim (fun y => .inl (.inl (hm a y))) fun y => .inl (.inr y)) .inr
  split at h
  · rename_i ho
    rw [if_pos ho]
    obtain ⟨p, e, n1, n2, r, o⟩ := h
    exact ⟨p, e, fun z => n1 (hm p z), n2, r.less fun a z => z.elim (fun y => .inl (hm a y)) .inr, o.step (Kp.refl _ _) (fun a q => .inl (hn _ a q)) fun _ z => z⟩
  · rename_i ho
    rw [if_neg ho]
    have := hn []
    rw [MP_nil, MP_nil] at this
    exact ⟨h.1.less hm, h.2.anti this⟩
/-- the outcome from an earlier state on -/
theorem OutS.back {o : O Fl} {M' : Addr → Prop} (s : StP env σ H env1 σ1 H1) (hm : ∀ a, M a → M' a) (h : OutS K T B W M env σ H o Dn) : OutS K T B W M' env1 σ1 H1 o Dn := by
  unfold OutS at h ⊢
  cases o with
  | bad => exact h
  | ex c e => exact fun σ' H' s' r => h σ' H' (s.trans s') (r.less hm)
  | ok x e =>
    cases x with
    | nx => exact fun σ' H' s' r => h σ' H' (s.trans s') (r.less hm)
    | brk => exact fun σ' H' s' r => h σ' H' (s.trans s') (r.less hm)
    | ret d own => exact fun v σ' H' s' r => h v σ' H' (s.trans s') (r.less hm)
theorem OutS.imp {o : O Fl} {Dn' : Ends} (h : OutS K T B W M env σ H o Dn) (n : ∀ σ' H', Dn.nx σ' H' → Dn'.nx σ' H') (b : ∀ σ' H', Dn.bk σ' H' → Dn'.bk σ' H') (r : ∀ v H', Dn.rt v H' → Dn'.rt v H') : OutS K T B W M env σ H o Dn' := by
  unfold OutS at h ⊢
  cases o with
  | bad => exact h
  | ex c e => exact h
  | ok x e =>
    cases x with
    | nx => exact fun σ' H' s' q => n _ _ (h σ' H' s' q)
    | brk => exact fun σ' H' s' q => b _ _ (h σ' H' s' q)
    | ret d own => exact fun v σ' H' s' q => r _ _ (h v σ' H' s' q)
/-! ### locks around a loop -/
theorem mem_fresh {ws : List R} {i : Nat} {d : D} {k : Kd} (h : .s i ∈ ws) (e : env[i]? = some (some (d, k))) (hk : k = .ow ∨ k = .io) : i ∈ ws.filterMap (fresh1 env) := by
  refine List.mem_filterMap.mpr ⟨.s i, h, ?_⟩
  unfold fresh1
  rcases hk with rfl | rfl <;> simp [e]
theorem of_fresh {ws : List R} {i : Nat} (h : i ∈ ws.filterMap (fresh1 env)) : .s i ∈ ws ∧ ∃ d k, env[i]? = some (some (d, k)) ∧ (k = .ow ∨ k = .io) := by
  obtain ⟨r, h1, h2⟩ := List.mem_filterMap.mp h
  cases r with
  | v d => simp [fresh1] at h2
  | o d => simp [fresh1] at h2
  | s j =>
    cases e : env[j]? with
    | none => simp [fresh1, e] at h2
    | some x =>
      cases x with
      | none => simp [fresh1, e] at h2
      | some y =>
        obtain ⟨d, k⟩ := y
        cases k <;> simp [fresh1, e] at h2
        · subst h2; exact ⟨h1, d, _, e, .inl rfl⟩
        · subst h2; exact ⟨h1, d, _, e, .inr rfl⟩
theorem Rel.lock (r : Rel K T M B env σ H) (ws : List R) : Rel K T M B (lockE ws env) σ H := by
  refine r.kin (kin_lock ws env) fun i d p e q => ?_
  rcases lock_get ws env i with h | ⟨d', k, h1, h2, _⟩
  · rw [h] at e
    exact r.fr i d p e q
  · rw [h2] at e
    cases k <;> simp [Kd.lock] at e
theorem unlock_out {ws : List R} (r1 : Rel K T M B env σ H) (s : StP (lockE ws env) σ H env2 σ2 H2) :
    (∀ {M'}, Rel K T M' B env2 σ2 H2 → Rel K T M' B (unlockE (ws.filterMap (fresh1 env)) env2) σ2 H2) ∧ StP env σ H (unlockE (ws.filterMap (fresh1 env)) env2) σ2 H2 := by
  have kl := kin_lock ws env
  have ku := kin_unlock (ws.filterMap (fresh1 env)) env2
  refine ⟨fun {M'} r => r.kin ku fun i d p e q => ?_, ⟨⟨fun x o h hn ht => s.fre.kp x o h (fun z => hn (kl.oww.mp z)) ht, s.fre.dm⟩, fun x z => (s.ow x (ku.oww.mp z)).imp (fun y => kl.oww.mp y) id, fun i d k h hk => ?_, ku.len.trans (s.len.trans kl.len), fun i d k h hk => ?_⟩⟩
  · rcases unlock_get (ws.filterMap (fresh1 env)) env2 i with ⟨_, h⟩ | ⟨hi, ⟨h, hh⟩ | ⟨d', k, h1, h2⟩⟩
    · rw [h] at e; exact r.fr i d p e q
    · rw [h] at e; exact r.fr i d p e q
    · rw [h2] at e
      cases k <;> simp [Kd.unlock] at e
      · subst e; exact r.fr i d' p h1 q
      · subst e
        obtain ⟨e0, es⟩ := s.lk i d' .lo h1 rfl
        rw [es] at q
        obtain ⟨_, d1, k1, e1, hk1⟩ := of_fresh hi
        rcases lock_get ws env i with h | ⟨d'', k, g1, g2, _⟩
        · rw [h, e1] at e0
          cases e0
          rcases hk1 with z | z <;> cases z
        · rw [g2] at e0
          rw [e1] at g1
          cases g1
          rcases hk1 with z | z
          · subst z
            exact r1.fr i d1 p e1 q
          · subst z
            simp [Kd.lock] at e0
  · rcases unlock_get (ws.filterMap (fresh1 env)) env2 i with ⟨hi, h0⟩ | ⟨hi, ⟨h0, hh⟩ | ⟨d', k', h1, h2⟩⟩
    · rw [h0] at h
      obtain ⟨e0, es⟩ := s.lk i d k h hk
      refine ⟨?_, es⟩
      rcases lock_get ws env i with g | ⟨d'', k', g1, g2, g3⟩
      · rw [← g]; exact e0
      · rw [g2] at e0
        have hk' : k' ≠ .ow ∧ k' ≠ .io := ⟨fun z => hi (mem_fresh g3 g1 (.inl z)), fun z => hi (mem_fresh g3 g1 (.inr z))⟩
        have : k'.lock = k' := by cases k' <;> simp_all [Kd.lock]
        rw [this] at e0
        rw [g1]; exact e0
    · rw [h0] at h
      exact (hh d k h).elim
    · rw [h2] at h
      cases h
      cases k' <;> cases hk
  · obtain ⟨d1, k1, e1, hk1⟩ : ∃ d1 k1, env2[i]? = some (some (d1, k1)) ∧ k1.unlock = .io := by
      rcases unlock_get (ws.filterMap (fresh1 env)) env2 i with ⟨hi, h0⟩ | ⟨hi, ⟨h0, hh⟩ | ⟨d', k', h1, h2⟩⟩
      · rw [h0] at h; exact ⟨d, k, h, hk⟩
      · rw [h0] at h; exact (hh d k h).elim
      · rw [h2] at h
        cases h
        exact ⟨_, _, h1, by rw [unlock_unlock] at hk; exact hk⟩
    obtain ⟨⟨d2, k2, e2, hk2⟩, es⟩ := s.io i d1 k1 e1 hk1
    refine ⟨?_, es⟩
    rcases lock_get ws env i with g | ⟨d'', k', g1, g2, g3⟩
    · rw [g] at e2; exact ⟨d2, k2, e2, hk2⟩
    · rw [g2] at e2
      cases e2
      exact ⟨_, _, g1, by rw [lock_unlock] at hk2; exact hk2⟩
theorem RVs.sigma {ws : List R} {vs : List V} {P : List Addr} (q : RVs K H N σ ws vs P) : (∀ (i : Nat) (v : V), .s i ∈ ws → σ[i]? = some (some v) → σ2[i]? = some (some v)) → RVs K H N σ2 ws vs P := by
  induction q with
  | nil => exact fun _ => .nil
  | v h t ih => exact fun f => .v h (ih fun i v hm => f i v (by simp [hm]))
  | o h t ih => exact fun f => .o h (ih fun i v hm => f i v (by simp [hm]))
  | s h t ih => exact fun f => .s (f _ _ (by simp) h) (ih fun i v hm => f i v (by simp [hm]))
/-- what is walked, behind a turn -/
theorem RVs.turn {ws : List R} {vs : List V} {P : List Addr} (q : RVs K H (NS (MP M P) env σ) σ ws vs P) (r : Rel K T (MP M P) B env σ H) (s : StP env σ H env2 σ2 H2) (r2 : Rel K T (MP M P) B env2 σ2 H2) (hl : lkd env2 ws = true) :
    RVs K H2 (NS (MP M P) env2 σ2) σ2 ws vs P := by
  have hn : ∀ a, NS (MP M P) env2 σ2 a → NS (MP M P) env σ a ∨ H a = none := fun a z => z.elim (fun y => .inl (.inl y)) fun y => (s.ow a y).imp .inr id
  have q2 : RVs K H2 (NS (MP M P) env2 σ2) σ ws vs P := q.step (s.fre.toKp r fun a y => .inr y) hn fun p hp o ho => by
    obtain ⟨xs, e⟩ := q.lst p hp
    rw [e] at ho; cases ho
    exact s.fre.kp p _ e (fun z => r.od p z (.inr hp)) fun ps z => by cases z
  refine q2.sigma fun i v hm h => ?_
  have h1 := List.all_eq_true.mp hl _ hm
  simp only at h1
  split at h1
  · rename_i d k e
    rw [(s.lk i d k e h1).2]
    exact h
  · cases h1
theorem rds_lock : ∀ (ws : List R) {ds : List D} (f : ∀ (i : Nat) d k, env[i]? = some (some (d, k)) → .s i ∈ ws → ∃ k', env2[i]? = some (some (d, k'))) , rds env ws = some ds → rds env2 ws = some ds
  | [], ds, f, e => e
  | r :: rs, ds, f, e => by
    obtain ⟨d, ds', e1, e2, rfl⟩ := rds_cons e
    have h2 := rds_lock rs (fun i d k h hm => f i d k h (by simp [hm])) e2
    have h1 : rd env2 r = some d := by
      cases r with
      | v x => exact e1
      | o x => exact e1
      | s i =>
        simp only [rd] at e1 ⊢
        split at e1 <;> cases e1
        rename_i k ek
        obtain ⟨k', ek'⟩ := f i d k ek (by simp)
        rw [ek']
    simp [rds, h1, h2]
theorem lkd_mem {ws : List R} {i : Nat} (h : lkd env ws = true) (hm : .s i ∈ ws) : ∃ d k, env[i]? = some (some (d, k)) ∧ k.locked = true := by
  have := List.all_eq_true.mp h _ hm
  simp only at this
  split at this
  · rename_i d k e
    exact ⟨d, k, e, this⟩
  · cases this
end
end Mi
set_option maxRecDepth 100000
set_option maxHeartbeats 2000000
namespace Mi
open PySem L2 PySem.Spec PyProof.Rows
section
variable {K : PySem.W.Frag} {T M B : Addr → Prop} {W : WC} {env env' env1 env2 : En} {σ σ' σ1 σ2 : L2.St} {H H' H1 H2 : Hp} {N N' : Addr → Prop} {Dn : Ends}
theorem RtV.kin {d : D} {own : Bool} {v : V} (h : RtV K T M B env σ H d own v) (a : Kin env env') (hf : ∀ {M'}, Rel K T M' B env σ H → Rel K T M' B env' σ H) : RtV K T M B env' σ H d own v := by
  unfold RtV at h ⊢
  split at h
  · rename_i ho
    rw [if_pos ho]
    obtain ⟨p, e, n1, n2, r, o⟩ := h
    exact ⟨p, e, n1, n2, hf r, o.step (Kp.refl _ _) (fun x q => .inl (a.ns.mp q)) fun _ z => z⟩
  · rename_i ho
    rw [if_neg ho]
    exact ⟨hf h.1, h.2.anti fun x q => a.ns.mp q⟩
theorem OutS.unl {ws : List R} {o : O Fl} (r1 : Rel K T M B env σ H) (h : OutS K T B W M env σ H (o.unl (ws.filterMap (fresh1 env))) Dn) : OutS K T B W M (lockE ws env) σ H o Dn := by
  unfold OutS at h ⊢
  cases o with
  | bad => exact h
  | ex c e => exact fun σ' H' s' r => h σ' H' (unlock_out r1 s').2 ((unlock_out r1 s').1 r)
  | ok x e =>
    cases x with
    | nx => exact fun σ' H' s' r => h σ' H' (unlock_out r1 s').2 ((unlock_out r1 s').1 r)
    | brk => exact fun σ' H' s' r => h σ' H' (unlock_out r1 s').2 ((unlock_out r1 s').1 r)
    | ret d own => exact fun v σ' H' s' r => h v σ' H' (unlock_out r1 s').2 (r.kin (kin_unlock _ _) fun {M'} q => (unlock_out r1 s').1 q)
theorem StP.grow (g : Grow H H') : StP env σ H env σ H' := ⟨g.fre, fun _ h => .inl h, fun _ _ _ h _ => ⟨h, rfl⟩, rfl, fun _ d k h hk => ⟨⟨d, k, h, hk⟩, rfl⟩⟩
theorem Rel.grow' (r : Rel K T M B env σ H) (g : Grow H H') : Rel K T M B env σ H' := r.grow g (fun a q => .inl q) fun a q => g.fre.dm (env := env) (σ := σ) a (r.dm a q)
/-- what is walked reads as it did -/
theorem rds_kept {ws : List R} {cs : List D} (s : StP (lockE ws env) σ H env2 σ2 H2) (hl : lkd env2 ws = true) (e : rds env ws = some cs) : rds env2 ws = some cs := by
  refine rds_lock ws (fun i d k h hm => ?_) e
  obtain ⟨d', k', h1, h2⟩ := lkd_mem hl hm
  obtain ⟨e0, _⟩ := s.lk i d' k' h1 h2
  rcases lock_get ws env i with g | ⟨d'', k'', g1, g2, _⟩
  · rw [g, h] at e0
    cases e0
    exact ⟨_, h1⟩
  · rw [h] at g1
    cases g1
    rw [g2] at e0
    cases e0
    exact ⟨_, h1⟩
end
section
variable {X : Cx} {T B : Addr → Prop} {W : WC} {C : Den}
theorem ps_weak {st : Stmt} {t t' : TS} (h : PS X st t) (w : ∀ Dn σ H, t' Dn σ H → t Dn σ H) : PS X st t' := ⟨fun pins s σ H Dn I q => h.run pins s σ H Dn I (w Dn σ H q)⟩
theorem pss_weak {st : List Stmt} {t t' : TS} (h : PSs X st t) (w : ∀ Dn σ H, t' Dn σ H → t Dn σ H) : PSs X st t' := ⟨fun pins s σ H Dn I q => h.run pins s σ H Dn I (w Dn σ H q)⟩
theorem pe_weak {e : Expr} {t t' : TE} (h : PE X e t) (w : ∀ σ H Q, t' σ H Q → t σ H Q) : PE X e t' := ⟨fun pins s σ H Q I q => h.run pins s σ H Q I (w σ H Q q)⟩
theorem pt_weak {e : Expr} {t t' : TT} (h : PT X e t) (w : ∀ σ H Q, t' σ H Q → t σ H Q) : PT X e t' := ⟨fun pins s σ H Q I q => h.run pins s σ H Q I (w σ H Q q)⟩
theorem pw_weak {e : Expr} {t t' : TT} (h : PW X e t) (w : ∀ σ H Q, t' σ H Q → t σ H Q) : PW X e t' := ⟨fun wh pins s σ H Q I q => h.run wh pins s σ H Q I (w σ H Q q)⟩
theorem pa_weak {es : List Expr} {t t' : TA} (h : PA X es t) (w : ∀ σ H Q, t' σ H Q → t σ H Q) : PA X es t' := ⟨fun pos pins s σ H Q I q => h.run pos pins s σ H Q I (w σ H Q q)⟩
theorem pi_weak {tg iter : Expr} {t t' : TI} (h : PI X tg iter t) (w : ∀ σ H R, t' σ H R → t σ H R) : PI X tg iter t' := ⟨fun pins s σ H R I q => h.run pins s σ H R I (w σ H R q)⟩
theorem psm_for {tg iter : Expr} {body : List Stmt} {pos : Pos} {p : Pt} {it : It} {b : Ss} (hp : PassesOwn (model X.prog X.w) X.A X.env X.xe) (hc : X.calm = true) (hi : PI X tg iter (TIv X.K T B W (evIt C it))) (hg : PG X tg (gPt X.K T B p))
    (hb : PSs X body (TSv X.K T B W (exSs C b))) (hs : ∀ x, foldedSetIterable iter X.env x = pure x) : PS X (.For tg iter body [] pos) (TSv X.K T B W (exS C (.for p it b))) := by
  refine ps_weak (ps_for hp hc hi hg hb hs) fun Dn σ H h => ?_
  obtain ⟨env, M, r, h⟩ := h
  rw [exS] at h
  refine ⟨env, M, r, ?_⟩
  cases ex : evIt C it env with
  | bad => rw [ex] at h; exact h
  | ex c e1 => rw [ex] at h; exact fun H' f s r' => h σ H' (StP.of f s) r'
  | ok y e1 =>
    obtain ⟨items, ws⟩ := y
    rw [ex] at h
    simp only [O.bind_ok] at h
    intro vs H1 cs J q erd wk
    obtain ⟨f1, s1, P, qv, r1, nd, fr⟩ := q
    have h1 := h.back (M' := MP M P) (StP.of f1 s1) (fun a z => .inl z)
    have h2 := h1.unl r1
    have r0 := r1.lock ws
    have kl := kin_lock ws e1
    have qv0 : RVs X.K H1 (NS (MP M P) (lockE ws e1) σ) σ ws vs P := qv.step (Kp.refl _ _) (fun a z => .inl (kl.ns.mp z)) fun _ _ _ z => z
    refine ⟨fun i m σ' H' => m = items.length - i ∧ i ≤ items.length ∧ ∃ env', Rel X.K T (MP M P) B env' σ' H' ∧ StP (lockE ws e1) σ H1 env' σ' H' ∧ (lkd env' ws = true → RVs X.K H' (NS (MP M P) env' σ') σ' ws vs P) ∧
      OutS X.K T B W (MP M P) env' σ' H' (loopS ws (fun d e2 => (O.of (bindP p d e2) e2).bind fun e3 _ => exSs C b e3) (items.drop i) env') Dn, ⟨_, rfl, Nat.zero_le _, _, r0, StP.refl, fun _ => qv0, h2⟩, ?_⟩
    rintro i m σ' H' ⟨rfl, hi', env', r', s', qv', h'⟩
    have hl : lkd env' ws = true := by
      cases e : lkd env' ws with
      | true => rfl
      | false =>
        cases ei : items.drop i with
        | nil => rw [ei] at h'; simp [loopS, e, OutS] at h'
        | cons d ds => rw [ei] at h'; simp [loopS, e, OutS] at h'
    have qv := qv' hl
    have pr : Paired (RdV X.K H' (NS (MP M P) env' σ')) vs cs := qv.rds r' (rds_kept s' hl erd)
    by_cases hi2 : i < items.length
    · have ed : items.drop i = items[i] :: items.drop (i + 1) := List.drop_eq_getElem_cons hi2
      rw [ed] at h'
      simp only [loopS, hl, if_true] at h'
      refine .inr ⟨wk.goes i _ H' hi2 pr, fun σ'' H'' => ∃ env'', Rel X.K T (MP M P) B env'' σ'' H'' ∧ StP (lockE ws e1) σ H1 env'' σ'' H'' ∧ (lkd env'' ws = true → RVs X.K H'' (NS (MP M P) env'' σ'') σ'' ws vs P) ∧
        OutS X.K T B W (MP M P) env'' σ'' H'' (loopS ws (fun d e2 => (O.of (bindP p d e2) e2).bind fun e3 _ => exSs C b e3) (items.drop (i + 1)) env'') Dn, fun σ'' H'' n'' => ⟨items.length - (i + 1), by omega, rfl, hi2, n''⟩, fun x H'' y => ?_⟩
      obtain ⟨g, dr⟩ := wk.yields i _ H' x H'' hi2 pr y
      have r'' := r'.grow' g
      cases eb : bindP p items[i] env' with
      | none => rw [eb] at h'; exact h'.elim
      | some e3 =>
        rw [eb] at h'
        simp only [O.of_some, O.bind_ok] at h'
        refine ⟨env', MP M P, _, e3, r'', dr _ (List.getElem?_eq_getElem hi2), eb, fun σ2 s2 r2 k2 l2 n2 => ⟨e3, MP M P, r2, ?_⟩⟩
        have sA : StP env' σ' H' e3 σ2 H'' := (StP.grow g).trans s2
        cases es : exSs C b e3 with
        | bad => rw [es] at h'; exact h'
        | ex c e4 => rw [es] at h'; exact fun σ4 H4 s4 r4 => h' σ4 H4 (sA.trans s4) r4
        | ok fl e4 =>
          rw [es] at h'
          simp only [O.bind_ok] at h'
          cases fl with
          | nx => exact fun σ4 H4 s4 r4 => ⟨e4, r4, s'.trans (sA.trans s4), fun hl4 => qv.turn r' (sA.trans s4) r4 hl4, h'.back (sA.trans s4) fun _ z => z⟩
          | brk => exact fun σ4 H4 s4 r4 => h' σ4 H4 (sA.trans s4) r4
          | ret d own => exact fun v σ4 H4 s4 r4 => h' v σ4 H4 (sA.trans s4) r4
    · have e : i = items.length := by omega
      subst e
      refine .inl ⟨wk.stops _ H' pr, ?_⟩
      rw [List.drop_length] at h'
      simp only [loopS, hl, if_true] at h'
      exact h' σ' H' StP.refl r'
end
end Mi
set_option maxRecDepth 100000
set_option maxHeartbeats 2000000
namespace Mi
open PySem L2 PySem.Spec PyProof.Rows
section
variable {K : PySem.W.Frag} {T M B : Addr → Prop} {W : WC} {env env' env1 env2 : En} {σ σ' σ1 σ2 : L2.St} {H H' H1 H2 : Hp} {N N' : Addr → Prop} {Dn : Ends}
/-- an own list or dict that is not changed any more -/
theorem Ob.dr {p : Addr} {d : D} (h : Ob K H N p d) (hn : ∀ a, N' a → N a) (hp : ¬ N' p) : DR K H N' (.ref p) d := by
  cases d <;> first | exact h.elim | skip
  obtain ⟨xs, h1, h2⟩ := h
  exact .lst (.inl ⟨.inl h1, hp⟩) (h2.anti hn)
theorem tk_cases {r : R} {d : D} {e2 : En} (e : tk env r = some (d, e2)) : (r = .v d ∧ e2 = env) ∨ (r = .o d ∧ e2 = env) ∨ ∃ j, r = .s j ∧ env[j]? = some (some (d, .ow)) ∧ e2 = env.set j none := by
  cases r with
  | v x => cases e; exact .inl ⟨rfl, rfl⟩
  | o x => cases e; exact .inr (.inl ⟨rfl, rfl⟩)
  | s j =>
    simp only [tk] at e
    split at e <;> cases e
    rename_i h
    exact .inr (.inr ⟨j, rfl, h, rfl⟩)
/-- one result, taken -/
theorem RPs.tk1 {r : R} {v : V} {d : D} {e2 : En} (r0 : Rel K T M B env σ H) (h : RP K T M B env σ H r env1 v H1) (e : tk env1 r = some (d, e2)) :
    Fre env σ H H1 ∧ Sub env e2 ∧ Rel K T M B e2 σ H1 ∧ DR K H1 (NS M e2 σ) v d ∧ ((∃ d', r = .v d') ∨ ∃ p, v = .ref p ∧ ¬ M p ∧ ¬ B p ∧ (Ow env σ p ∨ H p = none) ∧ Rel K T (MP M [p]) B e2 σ H1 ∧ Ob K H1 (NS (MP M [p]) e2 σ) p d) := by
  obtain ⟨f, s, P, q, r1, nd, fr⟩ := h
  rcases q.one with ⟨d', rfl, rfl, hd⟩ | ⟨d', p, rfl, rfl, rfl, ho⟩ | ⟨i, rfl, rfl, hs⟩
  · cases e
    rw [MP_nil] at r1 hd
    exact ⟨f, s, r1, hd, .inl ⟨_, rfl⟩⟩
  · cases e
    have hp := fr p (by simp)
    have nM : ¬ M p := fun z => r0.dm p z hp
    have nO : ¬ Ow env1 σ p := fun z => r1.od p z (.inr (by simp))
    refine ⟨f, s, r1.less fun a z => .inl z, ho.dr (fun a z => z.elim (fun y => .inl (.inl y)) .inr) fun z => z.elim nM nO, .inr ⟨p, rfl, nM, fun z => r0.db p z hp, .inr hp, r1, ho⟩⟩
  · rw [MP_nil] at r1
    rcases tk_cases e with ⟨z, _⟩ | ⟨z, _⟩ | ⟨j, z, ej, rfl⟩
    · cases z
    · cases z
    · cases z
      obtain ⟨p, e1, _⟩ := r1.ow i d .ow ej (by simp)
      rw [hs] at e1; cases e1
      obtain ⟨r2, ho, s2, nO⟩ := r1.take ej (by simp) hs
      have hO : Ow env1 σ p := ⟨i, d, .ow, ej, by simp, hs⟩
      have nM : ¬ M p := r1.od p hO
      exact ⟨f, s.trans s2, r2.less fun a z => .inl z, ho.dr (fun a z => z.elim (fun y => .inl (.inl y)) .inr) fun z => z.elim nM nO, .inr ⟨p, rfl, nM, r1.fr i d p ej hs, .inl (s.ow hO), r2, ho⟩⟩
/-- results that are kept elsewhere -/
theorem RVs.tks {P0 : List Addr} : ∀ {rs : List R} {vs : List V} {P : List Addr} {ds : List D} {env e2 : En}, Rel K T (MP M P0) B env σ H → RVs K H (NS (MP M P0) env σ) σ rs vs P → (∀ p ∈ P, p ∈ P0 ∧ ¬ M p) → tks env rs = some (ds, e2) →
    Rel K T (MP M P0) B e2 σ H ∧ Sub env e2 ∧ DRs K H (NS M e2 σ) vs ds
  | [], _, _, ds, env, e2, r, q, hP, e => by
    cases q
    simp [Mi.tks] at e
    obtain ⟨rfl, rfl⟩ := e
    exact ⟨r, Sub.refl, .nil⟩
  | a :: rs, vs, P, ds, env, e2, r, q, hP, e => by
    simp only [Mi.tks] at e
    split at e <;> try (cases e; done)
    rename_i d e1 h1
    split at e <;> cases e
    rename_i ds' h2
    have back : ∀ {e2 : En} (s : Sub env e2) x, NS M e2 σ x → NS (MP M P0) env σ x := fun s x z => z.elim (fun y => .inl (.inl y)) fun y => .inr (s.ow y)
    cases q with
    | v hd t =>
      cases h1
      obtain ⟨r2, s2, q2⟩ := RVs.tks r t hP h2
      exact ⟨r2, s2, .cons (hd.anti (back s2)) q2⟩
    | @o d p _ vs' P' ho t =>
      cases h1
      obtain ⟨r2, s2, q2⟩ := RVs.tks r t (fun p hp => hP p (by simp [hp])) h2
      have hp := hP p (by simp)
      exact ⟨r2, s2, .cons (ho.dr (back s2) fun z => z.elim hp.2 fun y => r2.od p y (.inr hp.1)) q2⟩
    | @s i v _ vs' _ hs t =>
      rcases tk_cases h1 with ⟨z, _⟩ | ⟨z, _⟩ | ⟨j, z, ej, rfl⟩
      · cases z
      · cases z
      · cases z
        obtain ⟨p, g1, _⟩ := r.ow i d .ow ej (by simp)
        rw [hs] at g1; cases g1
        obtain ⟨r2, ho, s2, nO⟩ := r.take ej (by simp) hs
        have hO : Ow env σ p := ⟨i, d, .ow, ej, by simp, hs⟩
        have nM : ¬ M p := fun z => r.od p hO (.inl z)
        have t' : RVs K H (NS (MP M P0) (env.set i none) σ) σ rs vs' P := t.step (Kp.refl _ _) (fun x z => .inl (z.elim .inl fun y => .inr (s2.ow y))) fun _ _ _ z => z
        obtain ⟨r3, s3, q3⟩ := RVs.tks (r2.less fun a z => .inl z) t' hP h2
        refine ⟨r3, s2.trans s3, .cons (ho.dr (fun x z => z.elim (fun y => .inl (.inl (.inl y))) fun y => .inr (s3.ow y)) fun z => z.elim nM fun y => nO (s3.ow y)) q3⟩
theorem RPs.taken {rs : List R} {vs : List V} {ds : List D} {e2 : En} (r0 : Rel K T M B env σ H) (h : RPs K T M B env σ H rs env1 vs H1) (e : Mi.tks env1 rs = some (ds, e2)) :
    Fre env σ H H1 ∧ Sub env e2 ∧ Rel K T M B e2 σ H1 ∧ DRs K H1 (NS M e2 σ) vs ds := by
  obtain ⟨f, s, P, q, r1, nd, fr⟩ := h
  obtain ⟨r2, s2, q2⟩ := q.tks r1 (fun p hp => ⟨hp, fun z => r0.dm p z (fr p hp)⟩) e
  exact ⟨f, s.trans s2, r2.less fun a z => .inl z, q2⟩
/-- a new tuple, a new list -/
theorem RP.newTup {vs : List V} {ds : List D} {p : Addr} (f : Fre env σ H H1) (s : Sub env env1) (r : Rel K T M B env1 σ H1) (q : DRs K H1 (NS M env1 σ) vs ds) (hp : H1 p = none) : RP K T M B env σ H (.v (.tuple ds)) env1 (.ref p) (upd H1 p (.tup vs)) := by
  have g : Grow H1 (upd H1 p (.tup vs)) := Grow.upd hp
  refine ⟨Fre.trans r s f g.fre, s, [], .v ?_ .nil, by rw [MP_nil]; exact r.grow' g, .nil, fun _ h => nomatch h⟩
  rw [MP_nil]
  exact .tup (.inl (.inl (upd_same))) (q.grow g)
theorem RP.newLst {vs : List V} {ds : List D} {p : Addr} (f : Fre env σ H H1) (s : Sub env env1) (r : Rel K T M B env1 σ H1) (q : DRs K H1 (NS M env1 σ) vs ds) (hp : H1 p = none) : RP K T M B env σ H (.o (.list ds)) env1 (.ref p) (upd H1 p (.lst vs)) := by
  have g : Grow H1 (upd H1 p (.lst vs)) := Grow.upd hp
  have hpH : H p = none := by
    cases z : H p with
    | none => rfl
    | some o => exact absurd hp (f.dm p (by rw [z]; simp))
  refine ⟨Fre.trans r s f g.fre, s, [p], .o ⟨vs, upd_same, q.step (g.kp _) fun a z => ?_⟩ .nil, r.grow g (fun a z => (MP_one z).imp id fun y => by rw [y]; exact hp) fun a z => ?_, by simp, fun a ha => ?_⟩
  · rcases z with z | z
    · exact (MP_one z).imp .inl fun y => by rw [y]; exact hp
    · exact .inl (.inr z)
  · rcases MP_one z with z | rfl
    · have := r.dm a z
      cases e : H1 a with
      | none => exact absurd e this
      | some o => rw [g a o e]; simp
    · rw [upd_same]; simp
  · obtain rfl : a = p := by simpa using ha
    exact hpH
end
section
variable {X : Cx} {T B : Addr → Prop} {W : WC} {C : Den}
theorem pem_tup {es : List Expr} {as : As} {x1 : Nat} {pos : Pos} (h : PA X es (TAv X.K T B W (evAs C as))) : PE X (.Tuple es x1 pos) (TEv X.K T B W (ev C (.tup as))) := by
  refine pe_weak (pe_tup h) fun σ H Q q => ?_
  obtain ⟨env, M, r, q⟩ := q
  rw [ev] at q
  refine ⟨env, M, r, ?_⟩
  cases ex : evAs C as env with
  | bad => rw [ex] at q; exact q
  | ex c e1 => rw [ex] at q; exact q
  | ok rs e1 =>
    rw [ex] at q
    simp only [O.bind_ok] at q
    intro vs H1 h1
    cases et : Mi.tks e1 rs with
    | none => rw [et] at q; exact q.elim
    | some x =>
      obtain ⟨ds, e2⟩ := x
      rw [et] at q
      simp only [O.of_some, O.bind_ok] at q
      obtain ⟨f, s, r2, d2⟩ := h1.taken r et
      split at q
      · rename_i hl
        exact ⟨by rw [d2.length]; exact hl, fun p hp => q _ _ (RP.newTup f s r2 d2 hp)⟩
      · exact q.elim
theorem pem_lst {es : List Expr} {as : As} {pos : Pos} (h : PA X es (TAv X.K T B W (evAs C as))) : PE X (.List es pos) (TEv X.K T B W (ev C (.lst as))) := by
  refine pe_weak (pe_lst h) fun σ H Q q => ?_
  obtain ⟨env, M, r, q⟩ := q
  rw [ev] at q
  refine ⟨env, M, r, ?_⟩
  cases ex : evAs C as env with
  | bad => rw [ex] at q; exact q
  | ex c e1 => rw [ex] at q; exact q
  | ok rs e1 =>
    rw [ex] at q
    simp only [O.bind_ok] at q
    intro vs H1 h1
    cases et : Mi.tks e1 rs with
    | none => rw [et] at q; exact q.elim
    | some x =>
      obtain ⟨ds, e2⟩ := x
      rw [et] at q
      simp only [O.of_some, O.bind_ok] at q
      obtain ⟨f, s, r2, d2⟩ := h1.taken r et
      split at q
      · rename_i hl
        exact ⟨by rw [d2.length]; exact hl, fun p hp => q _ _ (RP.newLst f s r2 d2 hp)⟩
      · exact q.elim
def kdOf (r : R) (own : Bool) : Kd := match r with
  | .v _ => .fz
  | _ => if own then .ow else .fz
theorem setR_tk {i : Nat} {own : Bool} {r : R} {env e' : En} (h : setR i own r env = some e') : i < env.length ∧ ∃ d e2, tk env r = some (d, e2) ∧ e2.length = env.length ∧ e' = e2.set i (some (d, kdOf r own)) := by
  unfold setR at h
  split at h
  · rename_i hl
    refine ⟨hl, ?_⟩
    cases r with
    | v d => cases h; exact ⟨d, env, rfl, rfl, rfl⟩
    | o d => cases h; exact ⟨d, env, rfl, rfl, rfl⟩
    | s j =>
      simp only at h
      split at h <;> cases h
      rename_i d e
      exact ⟨d, env.set j none, by simp [tk, e], by simp, rfl⟩
  · cases h
/-- a slot's store -/
theorem store1 {K : PySem.W.Frag} {M : Addr → Prop} {env env1 e' : En} {σ : L2.St} {H H1 : Hp} {r : R} {v : V} {i : Nat} {own : Bool} (r0 : Rel K T M B env σ H) (h : RP K T M B env σ H r env1 v H1) (e : setR i own r env1 = some e') :
    StP env σ H e' (σ.set i (some v)) H1 ∧ Rel K T M B e' (σ.set i (some v)) H1 := by
  obtain ⟨hl, d, e2, et, el, rfl⟩ := setR_tk e
  obtain ⟨f, s, r2, hd, hc⟩ := h.tk1 r0 et
  have hl2 : i < e2.length := by rw [el]; exact hl
  have fz : StP env σ H (e2.set i (some (d, .fz))) (σ.set i (some v)) H1 ∧ Rel K T M B (e2.set i (some (d, .fz))) (σ.set i (some v)) H1 := ⟨(StP.of f s).trans (StP.setFz r2 hl2), r2.setFz hl2 hd⟩
  rcases hc with ⟨d', rfl⟩ | ⟨p, rfl, nM, nB, hp, r3, ho⟩
  · exact fz
  · cases r with
    | v _ => exact fz
    | o _ =>
      cases own with
      | false => exact fz
      | true => exact ⟨StP.setOw r2 hl2 hp f s, r3.setOw hl2 nM nB ho⟩
    | s _ =>
      cases own with
      | false => exact fz
      | true => exact ⟨StP.setOw r2 hl2 hp f s, r3.setOw hl2 nM nB ho⟩
/-- the reading of a set -/
theorem set_read {i : Nat} {own : Bool} {e : E} {Dn : Ends} {σ : L2.St} {H : Hp} (q : TSv X.K T B W (exS C (.set i own e)) Dn σ H) : tAsg (TEv X.K T B W (ev C e)) (gName i) Dn σ H := by
  obtain ⟨env, M, r, q⟩ := q
  rw [exS] at q
  refine ⟨env, M, r, ?_⟩
  cases ex : ev C e env with
  | bad => rw [ex] at q; exact q
  | ex c e1 => rw [ex] at q; exact fun H' f s r' => q σ H' (StP.of f s) r'
  | ok x e1 =>
    rw [ex] at q
    simp only [O.bind_ok] at q
    intro v H1 h1
    cases es : setR i own x e1 with
    | none => rw [es] at q; exact q.elim
    | some e2 =>
      rw [es] at q
      obtain ⟨s2, r2⟩ := store1 r h1 es
      exact q _ _ s2 r2
theorem psm_set {i : Nat} {x : Str} {e : Expr} {own : Bool} {e' : E} {pos pos' : Pos} (hN : X.N.Nodup) (hi : X.N[i]? = some x) (hx : Loc X.env.scope x) (he : PE X e (TEv X.K T B W (ev C e'))) (hs : swapsWith e (some (.Name x pos')) pos.line X.env = pure false)
    (hf : X.fn x = true ∨ X.env.scope.names.lookup x = some .local) : PS X (.Assign [.Name x pos'] e pos) (TSv X.K T B W (exS C (.set i own e'))) :=
  ps_weak (ps_set hN hi hx he hs hf) fun Dn σ H q => set_read q
theorem psm_unp {tg e : Expr} {p : Pt} {e' : E} {pos : Pos} (he : PE X e (TEv X.K T B W (ev C e'))) (hg : PG X tg (gPt X.K T B p)) (hs : swapsWithSole [tg] e pos.line X.env = pure false) (hw : swappedStores [tg] e X.env = pure none)
    (h1 : (assignEach [tg] X.env).map (·.2) = [assign tg X.env]) : PS X (.Assign [tg] e pos) (TSv X.K T B W (exS C (.unp p e'))) := by
  refine ps_weak (ps_asg he hg hs hw h1) fun Dn σ H q => ?_
  obtain ⟨env, M, r, q⟩ := q
  rw [exS] at q
  refine ⟨env, M, r, ?_⟩
  cases ex : ev C e' env with
  | bad => rw [ex] at q; exact q
  | ex c e1 => rw [ex] at q; exact fun H' f s r' => q σ H' (StP.of f s) r'
  | ok x e1 =>
    rw [ex] at q
    simp only [O.bind_ok] at q
    intro v H1 h1
    cases et : tk e1 x with
    | none => rw [et] at q; exact q.elim
    | some y =>
      obtain ⟨d, e2⟩ := y
      rw [et] at q
      simp only [O.of_some, O.bind_ok] at q
      obtain ⟨f, s, r2, hd, _⟩ := h1.tk1 r et
      cases eb : bindP p d e2 with
      | none => rw [eb] at q; exact q.elim
      | some e3 =>
        rw [eb] at q
        simp only [O.of_some, O.bind_ok] at q
        exact ⟨e2, M, d, e3, r2, hd, eb, fun σ2 s2 r3 _ _ _ => q σ2 H1 ((StP.of f s).trans s2) r3⟩
theorem psm_expr {e : Expr} {e' : E} {pos : Pos} (he : PE X e (TEv X.K T B W (ev C e'))) (hs : swapsWith e none pos.line X.env = pure false) : PS X (.Expr e pos) (TSv X.K T B W (exS C (.expr e'))) := by
  refine ps_weak (ps_expr he hs) fun Dn σ H q => ?_
  obtain ⟨env, M, r, q⟩ := q
  rw [exS] at q
  refine ⟨env, M, r, ?_⟩
  cases ex : ev C e' env with
  | bad => rw [ex] at q; exact q
  | ex c e1 => rw [ex] at q; exact fun H' f s r' => q σ H' (StP.of f s) r'
  | ok x e1 =>
    rw [ex] at q
    simp only [O.bind_ok] at q
    intro v H1 h1
    obtain ⟨f, s, P, _, r1, _, _⟩ := h1
    exact q σ H1 (StP.of f s) (r1.less fun a z => .inl z)
theorem psm_ret {e : Expr} {e' : E} {pos : Pos} (he : PE X e (TEv X.K T B W (ev C e'))) : PS X (.Return (some e) pos) (TSv X.K T B W (exS C (.ret e'))) := by
  refine ps_weak (ps_ret he) fun Dn σ H q => ?_
  obtain ⟨env, M, r, q⟩ := q
  rw [exS] at q
  refine ⟨env, M, r, ?_⟩
  cases ex : ev C e' env with
  | bad => rw [ex] at q; exact q
  | ex c e1 => rw [ex] at q; exact fun H' f s r' => q σ H' (StP.of f s) r'
  | ok x e1 =>
    rw [ex] at q
    simp only [O.bind_ok] at q
    intro v H1 h1
    cases x with
    | v d =>
      obtain ⟨f, s, r2, hd, _⟩ := h1.tk1 r (rfl : tk e1 (.v d) = _)
      exact q v σ H1 (StP.of f s) ⟨r2, hd⟩
    | o d =>
      obtain ⟨f, s, r2, hd, hc⟩ := h1.tk1 r (rfl : tk e1 (.o d) = _)
      rcases hc with ⟨_, z⟩ | ⟨p, rfl, nM, nB, hp, r3, ho⟩
      · cases z
      · exact q _ σ H1 (StP.of f s) ⟨p, rfl, nM, nB, r3, ho⟩
    | s i =>
      simp only [retO] at q
      split at q
      · rename_i d ei
        obtain ⟨f, s, r2, hd, hc⟩ := h1.tk1 r (show tk e1 (.s i) = some (d, e1.set i none) by simp [tk, ei])
        rcases hc with ⟨_, z⟩ | ⟨p, rfl, nM, nB, hp, r3, ho⟩
        · cases z
        · exact q _ σ H1 (StP.of f s) ⟨p, rfl, nM, nB, r3, ho⟩
      · exact q.elim
theorem psm_retN {pos : Pos} : PS X (.Return none pos) (TSv X.K T B W (exS C .retN)) := by
  refine ps_weak ps_retN fun Dn σ H q => ?_
  obtain ⟨env, M, r, q⟩ := q
  rw [exS] at q
  exact q .non σ H StP.refl ⟨r, .non⟩
theorem psm_pass {pos : Pos} : PS X (.Pass pos) (TSv X.K T B W (exS C .pass)) := by
  refine ps_weak ps_pass fun Dn σ H q => ?_
  obtain ⟨env, M, r, q⟩ := q
  rw [exS] at q
  exact q σ H StP.refl r
theorem psm_brk {pos : Pos} : PS X (.Break pos) (TSv X.K T B W (exS C .brk)) := by
  refine ps_weak ps_break fun Dn σ H q => ?_
  obtain ⟨env, M, r, q⟩ := q
  rw [exS] at q
  exact q σ H StP.refl r
theorem pssm_nil : PSs X [] (TSv X.K T B W (exSs C .nil)) := by
  refine pss_weak pss_nil fun Dn σ H q => ?_
  obtain ⟨env, M, r, q⟩ := q
  rw [exSs] at q
  exact q σ H StP.refl r
theorem pssm_cons {st : Stmt} {rest : List Stmt} {s : S} {ss : Ss} (h1 : PS X st (TSv X.K T B W (exS C s))) (h2 : PSs X rest (TSv X.K T B W (exSs C ss))) : PSs X (st :: rest) (TSv X.K T B W (exSs C (.cons s ss))) := by
  refine pss_weak (pss_cons h1 h2) fun Dn σ H q => ?_
  obtain ⟨env, M, r, q⟩ := q
  rw [exSs] at q
  refine ⟨env, M, r, ?_⟩
  cases ex : exS C s env with
  | bad => rw [ex] at q; exact q
  | ex c e1 => rw [ex] at q; exact q
  | ok x e1 =>
    rw [ex] at q
    simp only [O.bind_ok] at q
    cases x with
    | nx => exact fun σ' H' s' r' => ⟨e1, M, r', q.back s' fun _ z => z⟩
    | brk => exact q
    | ret d own => exact q
/-- a test's reading -/
def OutT (K : PySem.W.Frag) (T B : Addr → Prop) (W : WC) (M : Addr → Prop) (env : En) (σ : L2.St) (H : Hp) (o : O Bool) (Q : Bool → Hp → Prop) : Prop := match o with
  | .ok b env' => ∀ H', Fre env σ H H' → Sub env env' → Rel K T M B env' σ H' → Q b H'
  | .ex c env' => ∀ H', Fre env σ H H' → Sub env env' → Rel K T M B env' σ H' → W c σ H'
  | .bad => False
def TTv (K : PySem.W.Frag) (T B : Addr → Prop) (W : WC) (x : En → O Bool) : TT := fun σ H Q => ∃ env M, Rel K T M B env σ H ∧ OutT K T B W M env σ H (x env) Q
noncomputable def evT (C : Den) (e : E) (env : En) : O Bool := (ev C e env).bind fun x e1 => boolR x e1
theorem evT_bind {α : Type} {e : E} {env : En} {f : Bool → En → O α} : (ev C e env).bind (fun x e1 => (boolR x e1).bind fun t _ => f t e1) = (evT C e env).bind f := by
  unfold evT
  rw [O.bind_assoc]
  congr 1
  funext x e1
  unfold boolR
  split <;> rfl
theorem OutT.back {K : PySem.W.Frag} {M M' : Addr → Prop} {env env1 : En} {σ : L2.St} {H H1 : Hp} {o : O Bool} {Q : Bool → Hp → Prop} (r1 : Rel K T M' B env1 σ H1) (f : Fre env σ H H1) (s : Sub env env1) (hm : ∀ a, M a → M' a) (h : OutT K T B W M env σ H o Q) : OutT K T B W M' env1 σ H1 o Q := by
  unfold OutT at h ⊢
  cases o with
  | bad => exact h
  | ex c e => exact fun H' f' s' r' => h H' (Fre.trans r1 s f f') (s.trans s') (r'.less hm)
  | ok x e => exact fun H' f' s' r' => h H' (Fre.trans r1 s f f') (s.trans s') (r'.less hm)
theorem psm_iff {c : Expr} {a b : List Stmt} {c' : E} {a' b' : Ss} {pos : Pos} (hc : PT X c (TTv X.K T B W (evT C c'))) (ha : PSs X a (TSv X.K T B W (exSs C a'))) (hb : PSs X b (TSv X.K T B W (exSs C b'))) : PS X (.If c a b pos) (TSv X.K T B W (exS C (.iff c' a' b'))) := by
  refine ps_weak (ps_if hc ha hb) fun Dn σ H q => ?_
  obtain ⟨env, M, r, q⟩ := q
  rw [exS] at q
  refine ⟨env, M, r, ?_⟩
  rw [evT_bind] at q
  cases ex : evT C c' env with
  | bad => rw [ex] at q; exact q
  | ex c e1 => rw [ex] at q; exact fun H' f s r' => q σ H' (StP.of f s) r'
  | ok t e1 =>
    rw [ex] at q
    simp only [O.bind_ok] at q
    intro H1 f s r1
    cases t with
    | true => rw [if_pos rfl] at q ⊢; exact ⟨e1, M, r1, q.back (StP.of f s) fun _ z => z⟩
    | false => rw [if_neg (by simp)] at q ⊢; exact ⟨e1, M, r1, q.back (StP.of f s) fun _ z => z⟩
theorem whileN_choose {c : En → O Bool} {b : En → O Fl} {env : En} (h : whileO c b env ≠ .bad) : ∃ n, whileO c b env = whileN c b n env := by
  unfold whileO at h ⊢
  split
  · exact ⟨_, rfl⟩
  · rename_i hn
    rw [dif_neg hn] at h
    exact (h rfl).elim
theorem psm_whl {c : Expr} {body : List Stmt} {c' : E} {b : Ss} {pos : Pos} (hp : PassesOwn (model X.prog X.w) X.A X.env X.xe) (hc : PT X c (TTv X.K T B W (evT C c'))) (hb : PSs X body (TSv X.K T B W (exSs C b))) :
    PS X (.While c body [] pos) (TSv X.K T B W (exS C (.whl c' b))) := by
  refine ps_weak (ps_while hp hc hb) fun Dn σ H q => ?_
  obtain ⟨env, M, r, q⟩ := q
  rw [exS] at q
  change OutS _ _ _ _ _ _ _ _ (whileO (evT C c') (exSs C b) env) _ at q
  obtain ⟨n, en⟩ := whileN_choose (c := evT C c') (b := exSs C b) (env := env) fun z => by rw [z] at q; exact q
  rw [en] at q
  refine ⟨fun m σ' H' => ∃ env', Rel X.K T M B env' σ' H' ∧ OutS X.K T B W M env' σ' H' (whileN (evT C c') (exSs C b) m env') Dn, ⟨n, env, r, q⟩, ?_⟩
  rintro m σ' H' ⟨env', r', q'⟩
  cases m with
  | zero => exact q'.elim
  | succ m =>
    rw [whileN] at q'
    refine ⟨env', M, r', ?_⟩
    cases ex : evT C c' env' with
    | bad => rw [ex] at q'; exact q'
    | ex c e1 => rw [ex] at q'; exact fun H' f s r' => q' _ H' (StP.of f s) r'
    | ok t e1 =>
      rw [ex] at q'
      simp only [O.bind_ok] at q'
      intro H1 f s r1
      cases t with
      | false =>
        rw [if_neg (by simp)] at q' ⊢
        exact q' _ _ (StP.of f s) r1
      | true =>
        rw [if_pos rfl] at q' ⊢
        refine ⟨fun σ'' H'' => ∃ env'', Rel X.K T M B env'' σ'' H'' ∧ OutS X.K T B W M env'' σ'' H'' (whileN (evT C c') (exSs C b) m env'') Dn, fun σ'' H'' z => ⟨m, Nat.lt_succ_self m, z⟩, e1, M, r1, ?_⟩
        cases eb : exSs C b e1 with
        | bad => rw [eb] at q'; exact q'
        | ex c e2 => rw [eb] at q'; exact fun σ'' H'' s'' r'' => q' _ _ ((StP.of f s).trans s'') r''
        | ok x e2 =>
          rw [eb] at q'
          simp only [O.bind_ok] at q'
          cases x with
          | nx => exact fun σ'' H'' s'' r'' => ⟨e2, r'', q'.back ((StP.of f s).trans s'') fun _ z => z⟩
          | brk => exact fun σ'' H'' s'' r'' => q' _ _ ((StP.of f s).trans s'') r''
          | ret d own => exact fun v σ'' H'' s'' r'' => q' v _ _ ((StP.of f s).trans s'') r''
end
end Mi
set_option maxRecDepth 100000
set_option maxHeartbeats 2000000
namespace Mi
open PySem L2 PySem.Spec PyProof.Rows
section
variable {X : Cx} {T B : Addr → Prop} {W : WC} {C : Den}
theorem ev_op {o : Op} {as : As} : ev C (.op o as) = fun env => (evAs C as env).bind fun rs e1 => (O.of (rds e1 rs) e1).bind fun ds _ => O.of (opO o ds) e1 := by
  funext env; rw [ev]
theorem evAs_nil : evAs C .nil = fun env => .ok [] env := by funext env; rw [evAs]
theorem evAs_cons {a : E} {r : As} : evAs C (.cons a r) = fun env => (ev C a env).bind fun x e1 => (evAs C r e1).bind fun xs e2 => .ok (x :: xs) e2 := by funext env; rw [evAs]
theorem pam_nil : PA X [] (TAv X.K T B W (evAs C .nil)) := pa_weak pa_nil fun σ H Q q => by rw [evAs_nil] at q; exact q.nil
theorem pam_cons {e : Expr} {es : List Expr} {a : E} {r : As} (h1 : PE X e (TEv X.K T B W (ev C a))) (h2 : PA X es (TAv X.K T B W (evAs C r))) (hs : starEach (e :: es) X.env = (false, eval e X.env) :: starEach es X.env) : PA X (e :: es) (TAv X.K T B W (evAs C (.cons a r))) :=
  pa_weak (pa_cons h1 h2 hs) fun σ H Q q => by rw [evAs_cons] at q; exact q.cons
theorem RdV.items {K : PySem.W.Frag} {H : Hp} {N : Addr → Prop} {v : V} {d : D} {ds : List D} (h : RdV K H N v d) (e : itemsOf d = some ds) : ∃ p xs, v = V.ref p ∧ (SqT K H p xs ∨ SqL K H p xs) ∧ DRs K H N xs ds := by
  cases d <;> simp [itemsOf] at e
  · subst e
    obtain ⟨a, xs, rfl, h1, h2⟩ := h.list
    exact ⟨a, xs, rfl, .inr h1, h2⟩
  · subst e
    obtain ⟨a, xs, rfl, h1, h2⟩ := h.tuple
    exact ⟨a, xs, rfl, .inl h1, h2⟩
theorem DRs.rvs {K : PySem.W.Frag} {H : Hp} {N : Addr → Prop} {σ : L2.St} : ∀ {xs : List V} {ds : List D}, DRs K H N xs ds → RVs K H N σ (vLst ds) xs []
  | _, [], h => by cases h; exact .nil
  | _, d :: ds, h => by cases h with | cons h1 h2 => exact .v h1 h2.rvs
/-- items of a walked argument that are shared: the walked value must be kept -/
theorem RPs.shed {K : PySem.W.Frag} {M : Addr → Prop} {env env1 : En} {σ : L2.St} {H H1 : Hp} {r : R} {v : V} {d : D} {ds : List D} (h : RP K T M B env σ H r env1 v H1) (e : rd env1 r = some d) (ei : itemsOf d = some ds) :
    ∃ p xs, v = V.ref p ∧ (SqT K H1 p xs ∨ SqL K H1 p xs) ∧ RPs K T M B env σ H (vLst ds) env1 xs H1 := by
  obtain ⟨f, s, P, q, r1, nd, fr⟩ := h
  have pr := q.rds r1 (rds_one e)
  cases pr with
  | cons h1 _ =>
    obtain ⟨p, xs, rfl, hs, hd⟩ := h1.items ei
    have hn : ∀ a, NS M env1 σ a → NS (MP M P) env1 σ a := fun a z => z.elim (fun y => .inl (.inl y)) .inr
    refine ⟨p, xs, rfl, hs, f, s, [], (hd.anti fun a z => ?_).rvs, by rw [MP_nil]; exact r1.less fun a z => .inl z, .nil, fun _ h => nomatch h⟩
    rw [MP_nil] at z
    exact hn a z
theorem pam_star {e : Expr} {es : List Expr} {a : E} {r : As} {p : Pos} (h1 : PE X e (TEv X.K T B W (ev C a))) (h2 : PA X es (TAv X.K T B W (evAs C r))) (hs : starEach (.Starred e p :: es) X.env = (true, eval e X.env) :: starEach es X.env) : PA X (.Starred e p :: es) (TAv X.K T B W (evAs C (.star a r))) := by
  refine pa_weak (StX.pa_star h1 h2 hs) fun σ H Q q => ?_
  obtain ⟨env, M, r0, q⟩ := q
  rw [evAs] at q
  refine ⟨env, M, r0, ?_⟩
  cases ex : ev C a env with
  | bad => rw [ex] at q; exact q
  | ex c e1 => rw [ex] at q; exact q
  | ok x e1 =>
    rw [ex] at q
    simp only [O.bind_ok] at q
    intro v H1 h1
    cases ed : rd e1 x with
    | none => rw [ed] at q; exact q.elim
    | some d =>
      rw [ed] at q
      simp only [O.of_some, O.bind_ok] at q
      cases ei : itemsOf d with
      | none => rw [ei] at q; exact q.elim
      | some ds =>
        rw [ei] at q
        simp only [O.of_some, O.bind_ok] at q
        obtain ⟨p, xs, rfl, hq, h2⟩ := h1.shed ed ei
        obtain ⟨f, s, P, qv, r1, nd, fr⟩ := h2
        refine ⟨p, xs, rfl, hq, e1, MP M P, r1, ?_⟩
        cases ey : evAs C r e1 with
        | bad => rw [ey] at q; exact q
        | ex c e2 => rw [ey] at q; exact fun H' f' s' r' => q H' (Fre.trans r1 s f f') (s.trans s') (r'.less fun a z => .inl z)
        | ok rs e2 =>
          rw [ey] at q
          intro ys H2 h3
          exact q _ _ (RPs.seq r0 f s qv r1 nd fr h3)
theorem pem_var {i : Nat} {x : Str} {pos : Pos} (hi : X.N[i]? = some x) (hv : Vis X.env.scope x) (hd : (x == ("__debug__" : Str)) = false) (hcd : (x == ("__classdict__" : Str)) = false) : PE X (.Name x pos) (TEv X.K T B W (ev C (.var i))) := by
  refine pe_weak (pe_var hi hv hd hcd) fun σ H Q q => ?_
  obtain ⟨env, M, r, q⟩ := q
  rw [ev] at q
  cases e : env[i]? with
  | none => rw [e] at q; exact q.elim
  | some x =>
    rw [e] at q
    cases x with
    | none => exact q.elim
    | some y =>
      obtain ⟨d, k⟩ := y
      by_cases hk : k = .fz
      · subst hk
        obtain ⟨v, e1, e2⟩ := r.fz i d e
        exact ⟨v, e1, q v H ⟨Fre.refl, Sub.refl, [], .v (by rw [MP_nil]; exact e2) .nil, by rw [MP_nil]; exact r, .nil, fun _ h => nomatch h⟩⟩
      · obtain ⟨a, e1, e2⟩ := r.ow i d k e hk
        have q' : OutE X.K T B W M env σ H (.ok (.s i) env) Q := by cases k <;> first | exact (hk rfl).elim | exact q
        exact ⟨_, e1, q' _ H ⟨Fre.refl, Sub.refl, [], .s e1 .nil, by rw [MP_nil]; exact r, .nil, fun _ h => nomatch h⟩⟩
theorem con_read {v : V} {d : D} {σ : L2.St} {H : Hp} {Q : VK} (hd : ∀ {H N}, DR X.K H N v d) (q : TEv X.K T B W (ev C (.con d)) σ H Q) : tC v σ H Q := by
  obtain ⟨env, M, r, q⟩ := q
  rw [ev] at q
  exact q v H ⟨Fre.refl, Sub.refl, [], .v hd .nil, by rw [MP_nil]; exact r, .nil, fun _ h => nomatch h⟩
theorem pem_int {i : Int} {j pos} : PE X (.Constant (.int i) j pos) (TEv X.K T B W (ev C (.con (.int i)))) := pe_weak pe_int fun σ H Q q => con_read (.int i) q
theorem pem_bl {i : Bool} {j pos} : PE X (.Constant (.bool i) j pos) (TEv X.K T B W (ev C (.con (.bool i)))) := pe_weak pe_bl fun σ H Q q => con_read (.bl i) q
theorem pem_non {j pos} : PE X (.Constant .none j pos) (TEv X.K T B W (ev C (.con .none))) := pe_weak pe_non fun σ H Q q => con_read .non q
theorem pem_str {i : Str} {j pos} : PE X (.Constant (.str i) j pos) (TEv X.K T B W (ev C (.con (.str i)))) := pe_weak pe_str fun σ H Q q => con_read (.str i) q
/-! ### operations -/
theorem tav1 {a : E} {Q : List V → Hp → Prop} {σ : L2.St} {H : Hp} (h : TAv X.K T B W (evAs C (.cons a .nil)) σ H Q) : TEv X.K T B W (ev C a) σ H fun x H1 => Q [x] H1 := by
  rw [as1] at h
  exact h.one
theorem tav2 {a b : E} {Q : List V → Hp → Prop} {σ : L2.St} {H : Hp} (h : TAv X.K T B W (evAs C (.cons a (.cons b .nil))) σ H Q) : TEv X.K T B W (ev C a) σ H fun x H1 => TEv X.K T B W (ev C b) σ H1 fun y H2 => Q [x, y] H2 := by
  rw [evAs_cons] at h
  have h1 := h.cons
  obtain ⟨env, M, r, h1⟩ := h1
  refine ⟨env, M, r, ?_⟩
  unfold OutE at h1 ⊢
  cases ex : ev C a env with
  | bad => rw [ex] at h1; exact h1
  | ex c e1 => rw [ex] at h1; exact h1
  | ok x e1 => rw [ex] at h1; exact fun v H1 q => tav1 (h1 v H1 q)
theorem tav3 {a b c : E} {Q : List V → Hp → Prop} {σ : L2.St} {H : Hp} (h : TAv X.K T B W (evAs C (.cons a (.cons b (.cons c .nil)))) σ H Q) :
    TEv X.K T B W (ev C a) σ H fun x H1 => TEv X.K T B W (ev C b) σ H1 fun y H2 => TEv X.K T B W (ev C c) σ H2 fun z H3 => Q [x, y, z] H3 := by
  rw [evAs_cons] at h
  have h1 := h.cons
  obtain ⟨env, M, r, h1⟩ := h1
  refine ⟨env, M, r, ?_⟩
  unfold OutE at h1 ⊢
  cases ex : ev C a env with
  | bad => rw [ex] at h1; exact h1
  | ex c e1 => rw [ex] at h1; exact h1
  | ok x e1 => rw [ex] at h1; exact fun v H1 q => tav2 (h1 v H1 q)
theorem top1 {o : Op} {a : E} {Q : VK} {σ : L2.St} {H : Hp} (h : TEv X.K T B W (ev C (.op o (.cons a .nil))) σ H Q) : TEv X.K T B W (ev C a) σ H fun x H1 => OpV X.K o [x] H1 Q := by
  rw [ev_op] at h
  exact tav1 h.op
theorem top2 {o : Op} {a b : E} {Q : VK} {σ : L2.St} {H : Hp} (h : TEv X.K T B W (ev C (.op o (.cons a (.cons b .nil)))) σ H Q) : TEv X.K T B W (ev C a) σ H fun x H1 => TEv X.K T B W (ev C b) σ H1 fun y H2 => OpV X.K o [x, y] H2 Q := by
  rw [ev_op] at h
  exact tav2 h.op
theorem pem_bin {a b : Expr} {a' b' : E} {o : BOp} {pos : Pos} (ha : PE X a (TEv X.K T B W (ev C a'))) (hb : PE X b (TEv X.K T B W (ev C b'))) : PE X (.BinOp a (pyB o) b pos) (TEv X.K T B W (ev C (.op (.bin o) (.cons a' (.cons b' .nil))))) :=
  pe_weak (pe_op (or_bin o) ha hb) fun σ H Q q => top2 q
theorem pem_neg {a : Expr} {a' : E} {pos : Pos} (ha : PE X a (TEv X.K T B W (ev C a'))) : PE X (.UnaryOp .USub a pos) (TEv X.K T B W (ev C (.op .neg (.cons a' .nil)))) :=
  pe_weak (pe_un ur_neg ha) fun σ H Q q => top1 q
theorem pem_not {a : Expr} {a' : E} {pos : Pos} (ha : PE X a (TEv X.K T B W (ev C a'))) : PE X (.UnaryOp .Not a pos) (TEv X.K T B W (ev C (.op .not (.cons a' .nil)))) :=
  pe_weak (pe_not ha) fun σ H Q q => by
    obtain ⟨env, M, r, h⟩ := top1 q
    refine ⟨env, M, r, ?_⟩
    unfold OutE at h ⊢
    cases ex : ev C a' env with
    | bad => rw [ex] at h; exact h
    | ex c e1 => rw [ex] at h; exact h
    | ok x e1 =>
      rw [ex] at h
      intro v H1 q
      obtain ⟨N, ds, r', pr, e, k⟩ := h v H1 q
      obtain ⟨d, rfl, hd⟩ := paired1 pr
      cases d <;> simp [opO] at e
      subst e
      cases hd.bool
      exact ⟨_, rfl, k _ _ res_bl⟩
theorem pem_cmp {a b : Expr} {a' b' : E} {o : COp} {pos : Pos} (hu : X.A.units + 65 < cLine) (ha : PE X a (TEv X.K T B W (ev C a'))) (hb : PE X b (TEv X.K T B W (ev C b'))) (hm : behindInMarks (pyC o) b = false) : PE X (.Compare a [pyC o] [b] pos) (TEv X.K T B W (ev C (.op (.cmp o) (.cons a' (.cons b' .nil))))) :=
  pe_weak (pe_cmpR (or_cmp hu o) ha hb hm) fun σ H Q q => top2 q
theorem pem_idx {a b : Expr} {a' b' : E} {pos : Pos} (ha : PE X a (TEv X.K T B W (ev C a'))) (hb : PE X b (TEv X.K T B W (ev C b'))) (hs : PlainIx b) : PE X (.Subscript a b pos) (TEv X.K T B W (ev C (.op .idx (.cons a' (.cons b' .nil))))) :=
  pe_weak (pe_ix ixr ha hb hs) fun σ H Q q => top2 q
/-! slices -/
def partV : Option Int → V
  | none => .non
  | some i => .int i
structure PartM (X : Cx) (T B : Addr → Prop) (W : WC) (C : Den) (lo : Option Expr) (l : E) : Prop where
  ex : ∃ tl, PO X lo tl ∧ ∀ (σ : L2.St) (H : Hp) (Q : Option Int → Hp → Prop), (TEv X.K T B W (ev C l) σ H fun y H1 => ∀ o, y = partV o → Q o H1) → tl σ H Q
theorem part_none : PartM X T B W C none (.con .none) := ⟨_, po_none, fun σ H Q q => (con_read .non q) none rfl⟩
theorem part_some {e : Expr} {l : E} (h : PE X e (TEv X.K T B W (ev C l))) : PartM X T B W C (some e) (.op .asInt (.cons l .nil)) := ⟨_, po_some h, fun σ H Q q => by
  obtain ⟨env, M, r, h⟩ := top1 q
  refine ⟨env, M, r, ?_⟩
  unfold OutE at h ⊢
  cases ex : ev C l env with
  | bad => rw [ex] at h; exact h
  | ex c e1 => rw [ex] at h; exact h
  | ok x e1 =>
    rw [ex] at h
    intro v H1 q
    obtain ⟨N, ds, r', pr, e, k⟩ := h v H1 q
    obtain ⟨d, rfl, hd⟩ := paired1 pr
    cases d <;> simp [opO] at e
    subst e
    cases hd.int
    exact ⟨_, rfl, k _ _ res_int _ rfl⟩⟩
theorem OutE.mono {K : PySem.W.Frag} {M : Addr → Prop} {env : En} {σ : L2.St} {H : Hp} {o : O R} {Q Q' : VK} (h : OutE K T B W M env σ H o Q) (w : ∀ v H', Q v H' → Q' v H') : OutE K T B W M env σ H o Q' := by
  unfold OutE at h ⊢
  cases o with
  | bad => exact h
  | ex c e1 => exact h
  | ok x e1 => exact fun v H1 q => w _ _ (h v H1 q)
theorem TEv.mono {K : PySem.W.Frag} {x : En → O R} {σ : L2.St} {H : Hp} {Q Q' : VK} (h : TEv K T B W x σ H Q) (w : ∀ v H', Q v H' → Q' v H') : TEv K T B W x σ H Q' := by
  obtain ⟨env, M, r, h⟩ := h
  exact ⟨env, M, r, h.mono w⟩
theorem opI_part {K : PySem.W.Frag} {H : Hp} {N : Addr → Prop} {o : Option Int} {d : D} (h : RdV K H N (partV o) d) (d' : Option Int) (e : opI d = some d') : d' = o := by
  cases d <;> simp [opI] at e
  · subst e
    cases o with
    | none => rfl
    | some i => cases h.none
  · subst e
    cases o with
    | none => cases h.int
    | some i => cases h.int; rfl
theorem pem_sl {a : Expr} {a' l h : E} {lo hi : Option Expr} {p2 pos : Pos} (ha : PE X a (TEv X.K T B W (ev C a'))) (hl : PartM X T B W C lo l) (hh : PartM X T B W C hi h) : PE X (.Subscript a (.Slice lo hi none p2) pos) (TEv X.K T B W (ev C (.op .sl (.cons a' (.cons l (.cons h .nil)))))) := by
  obtain ⟨tl, pl, wl⟩ := hl.ex
  obtain ⟨th, ph, wh⟩ := hh.ex
  refine pe_weak (pe_slice slr ha pl ph) fun σ H Q q => ?_
  rw [ev_op] at q
  refine (tav3 q.op).mono fun x H1 q1 => wl _ _ _ (q1.mono fun y H2 q2 o e1 => wh _ _ _ (q2.mono fun z H3 q3 u e2 => ?_))
  subst e1 e2
  obtain ⟨N, ds, r', pr, e, k⟩ := q3
  obtain ⟨d1, d2, d3, rfl, h1, h2, h3⟩ := paired3 pr
  simp only [opO, slO] at e
  split at e
  · rename_i l' h' el eh
    obtain rfl := opI_part h2 _ el
    obtain rfl := opI_part h3 _ eh
    exact ⟨N, d1, r', h1, e, k⟩
  · cases e
/-! ### tests -/
theorem TTv.val {e : E} {σ : L2.St} {H : Hp} {Q : Bool → Hp → Prop} (h : TTv X.K T B W (evT C e) σ H Q) : TEv X.K T B W (ev C e) σ H fun x H1 => ∃ k, x = .bl k ∧ Q k H1 := by
  obtain ⟨env, M, r, h⟩ := h
  refine ⟨env, M, r, ?_⟩
  unfold evT at h
  unfold OutE
  cases ex : ev C e env with
  | bad => rw [ex] at h; exact h
  | ex c e1 => rw [ex] at h; exact h
  | ok x e1 =>
    rw [ex] at h
    simp only [O.bind_ok] at h
    intro v H1 q
    unfold boolR at h
    split at h
    · obtain ⟨f, s, r1, hd, _⟩ := q.tk1 r (rfl : tk e1 (.v _) = _)
      cases hd
      exact ⟨_, rfl, h H1 f s r1⟩
    · exact h.elim
theorem ptm_cmp {a b : Expr} {a' b' : E} {o : COp} {pos : Pos} (hu : X.A.units + 65 < cLine) (ha : PE X a (TEv X.K T B W (ev C a'))) (hb : PE X b (TEv X.K T B W (ev C b'))) (hm : behindInMarks (pyC o) b = false) : PT X (.Compare a [pyC o] [b] pos) (TTv X.K T B W (evT C (.op (.cmp o) (.cons a' (.cons b' .nil))))) :=
  pt_weak (pt_cmpR (or_cmp hu o) ha hb hm) fun σ H Q q => top2 q.val
theorem ev_not {e : E} {env : En} : evT C (.ite e (.con (.bool false)) (.con (.bool true))) env = (evT C e env).bind fun t e1 => .ok (!t) e1 := by
  unfold evT
  rw [ev, O.bind_assoc, O.bind_assoc]
  congr 1
  funext x e1
  unfold boolR
  split
  · rename_i b
    cases b <;> simp [ev]
  · rfl
theorem ptm_not {a : Expr} {a' : E} {pos : Pos} (ha : PT X a (TTv X.K T B W (evT C a'))) : PT X (.UnaryOp .Not a pos) (TTv X.K T B W (evT C (.ite a' (.con (.bool false)) (.con (.bool true))))) := by
  refine pt_weak (pt_not ha) fun σ H Q q => ?_
  obtain ⟨env, M, r, q⟩ := q
  rw [ev_not] at q
  refine ⟨env, M, r, ?_⟩
  cases ex : evT C a' env with
  | bad => rw [ex] at q; exact q
  | ex c e1 => rw [ex] at q; exact q
  | ok x e1 => rw [ex] at q; exact q
theorem ev_and {a b : E} {env : En} : evT C (.and a b) env = (evT C a env).bind fun t e1 => if t = true then evT C b e1 else .ok false e1 := by
  unfold evT
  rw [ev, O.bind_assoc, O.bind_assoc]
  congr 1
  funext x e1
  unfold boolR
  split
  · rename_i b
    cases b <;> simp [ev]
  · rfl
theorem ev_or {a b : E} {env : En} : evT C (.or a b) env = (evT C a env).bind fun t e1 => if t = true then .ok true e1 else evT C b e1 := by
  unfold evT
  rw [ev, O.bind_assoc, O.bind_assoc]
  congr 1
  funext x e1
  unfold boolR
  split
  · rename_i b
    cases b <;> simp [ev]
  · rfl
theorem pwm_and {a b : Expr} {rest : List Expr} {a' b' : E} {pos : Pos} (ha : PT X a (TTv X.K T B W (evT C a'))) (hb : PW X (.BoolOp .And (b :: rest) pos) (TTv X.K T B W (evT C b'))) : PW X (.BoolOp .And (a :: b :: rest) pos) (TTv X.K T B W (evT C (.and a' b'))) := by
  refine pw_weak (pw_and ha hb) fun σ H Q q => ?_
  obtain ⟨env, M, r, q⟩ := q
  rw [ev_and] at q
  refine ⟨env, M, r, ?_⟩
  cases ex : evT C a' env with
  | bad => rw [ex] at q; exact q
  | ex c e1 => rw [ex] at q; exact q
  | ok x e1 =>
    rw [ex] at q
    simp only [O.bind_ok] at q
    intro H1 f s r1
    cases x with
    | true => rw [if_pos rfl] at q ⊢; exact ⟨e1, M, r1, q.back r1 f s fun _ z => z⟩
    | false => rw [if_neg (by simp)] at q ⊢; exact q H1 f s r1
theorem pwm_or {a b : Expr} {rest : List Expr} {a' b' : E} {pos : Pos} (ha : PT X a (TTv X.K T B W (evT C a'))) (hb : PW X (.BoolOp .Or (b :: rest) pos) (TTv X.K T B W (evT C b'))) : PW X (.BoolOp .Or (a :: b :: rest) pos) (TTv X.K T B W (evT C (.or a' b'))) := by
  refine pw_weak (pw_or ha hb) fun σ H Q q => ?_
  obtain ⟨env, M, r, q⟩ := q
  rw [ev_or] at q
  refine ⟨env, M, r, ?_⟩
  cases ex : evT C a' env with
  | bad => rw [ex] at q; exact q
  | ex c e1 => rw [ex] at q; exact q
  | ok x e1 =>
    rw [ex] at q
    simp only [O.bind_ok] at q
    intro H1 f s r1
    cases x with
    | true => rw [if_pos rfl] at q ⊢; exact q H1 f s r1
    | false => rw [if_neg (by simp)] at q ⊢; exact ⟨e1, M, r1, q.back r1 f s fun _ z => z⟩
theorem ptm_tru {a : Expr} {a' : E} (ha : PE X a (TEv X.K T B W (ev C a'))) (he : ∀ whole, isTrue a X.env whole = (do let v ← whole; standAt a.pos; holding [v] (truthy v))) : PT X a (TTv X.K T B W (evT C (.op .tru (.cons a' .nil)))) := by
  refine pt_weak (pt_truth ha he) fun σ H Q q => (top1 q.val).mono fun x H1 q1 => ?_
  obtain ⟨N, ds, r', pr, e, k⟩ := q1
  obtain ⟨d, rfl, hd⟩ := paired1 pr
  simp only [opO] at e
  cases et : truO d with
  | none => rw [et] at e; cases e
  | some b =>
    rw [et] at e
    cases e
    obtain ⟨k', e', q'⟩ := k _ _ res_bl
    cases e'
    exact ⟨b, tru_v hd et, q'⟩
/-! and, or, if, chains as values -/
theorem OutE.back {K : PySem.W.Frag} {M : Addr → Prop} {env env1 : En} {σ : L2.St} {H H1 : Hp} {o : O R} {Q : VK} (r0 : Rel K T M B env σ H) (r1 : Rel K T M B env1 σ H1) (f : Fre env σ H H1) (s : Sub env env1) (h : OutE K T B W M env σ H o Q) : OutE K T B W M env1 σ H1 o Q := by
  unfold OutE at h ⊢
  cases o with
  | bad => exact h
  | ex c e => exact fun H' f' s' r' => h H' (Fre.trans r1 s f f') (s.trans s') r'
  | ok x e =>
    intro v H' q
    have := RPs.seq (P := []) (rs := []) (vs := []) r0 f s .nil (by rw [MP_nil]; exact r1) .nil (fun _ h => nomatch h) (by rw [MP_nil]; exact q)
    exact h v H' this
theorem RP.bool {K : PySem.W.Frag} {M : Addr → Prop} {env env1 : En} {σ : L2.St} {H H1 : Hp} {b : Bool} {v : V} (r0 : Rel K T M B env σ H) (q : RP K T M B env σ H (.v (.bool b)) env1 v H1) : v = .bl b ∧ Fre env σ H H1 ∧ Sub env env1 ∧ Rel K T M B env1 σ H1 := by
  obtain ⟨f, s, r1, hd, _⟩ := q.tk1 r0 (rfl : tk env1 (.v _) = _)
  cases hd
  exact ⟨rfl, f, s, r1⟩
theorem RP.ofBool {K : PySem.W.Frag} {M : Addr → Prop} {env env1 : En} {σ : L2.St} {H H1 : Hp} {b : Bool} (f : Fre env σ H H1) (s : Sub env env1) (r1 : Rel K T M B env1 σ H1) : RP K T M B env σ H (.v (.bool b)) env1 (.bl b) H1 :=
  ⟨f, s, [], .v (.bl b) .nil, by rw [MP_nil]; exact r1, .nil, fun _ h => nomatch h⟩
theorem pem_and {a b : Expr} {rest : List Expr} {a' b' : E} {pos : Pos} (ha : PE X a (TEv X.K T B W (ev C a'))) (hb : PE X (.BoolOp .And (b :: rest) pos) (TEv X.K T B W (ev C b'))) : PE X (.BoolOp .And (a :: b :: rest) pos) (TEv X.K T B W (ev C (.and a' b'))) := by
  refine pe_weak (pe_and ha hb) fun σ H Q q => ?_
  obtain ⟨env, M, r, q⟩ := q
  rw [ev] at q
  refine ⟨env, M, r, ?_⟩
  unfold OutE
  cases ex : ev C a' env with
  | bad => rw [ex] at q; exact q
  | ex c e1 => rw [ex] at q; exact q
  | ok x e1 =>
    rw [ex] at q
    simp only [O.bind_ok] at q
    intro v H1 h1
    unfold boolR at q
    split at q
    · rename_i x' env' c
      obtain ⟨rfl, f, s, r1⟩ := h1.bool r
      refine ⟨c, rfl, ?_⟩
      simp only [O.bind_ok] at q
      cases c with
      | true => rw [if_pos rfl] at q ⊢; exact ⟨e1, M, r1, q.back r r1 f s⟩
      | false => rw [if_neg (by simp)] at q ⊢; exact q _ _ (RP.ofBool f s r1)
    · exact q.elim
theorem pem_or {a b : Expr} {rest : List Expr} {a' b' : E} {pos : Pos} (ha : PE X a (TEv X.K T B W (ev C a'))) (hb : PE X (.BoolOp .Or (b :: rest) pos) (TEv X.K T B W (ev C b'))) : PE X (.BoolOp .Or (a :: b :: rest) pos) (TEv X.K T B W (ev C (.or a' b'))) := by
  refine pe_weak (pe_or ha hb) fun σ H Q q => ?_
  obtain ⟨env, M, r, q⟩ := q
  rw [ev] at q
  refine ⟨env, M, r, ?_⟩
  unfold OutE
  cases ex : ev C a' env with
  | bad => rw [ex] at q; exact q
  | ex c e1 => rw [ex] at q; exact q
  | ok x e1 =>
    rw [ex] at q
    simp only [O.bind_ok] at q
    intro v H1 h1
    unfold boolR at q
    split at q
    · rename_i x' env' c
      obtain ⟨rfl, f, s, r1⟩ := h1.bool r
      refine ⟨c, rfl, ?_⟩
      simp only [O.bind_ok] at q
      cases c with
      | true => rw [if_pos rfl] at q ⊢; exact q _ _ (RP.ofBool f s r1)
      | false => rw [if_neg (by simp)] at q ⊢; exact ⟨e1, M, r1, q.back r r1 f s⟩
    · exact q.elim
theorem pem_ite {c a b : Expr} {c' a' b' : E} {pos : Pos} (hc : PT X c (TTv X.K T B W (evT C c'))) (ha : PE X a (TEv X.K T B W (ev C a'))) (hb : PE X b (TEv X.K T B W (ev C b'))) : PE X (.IfExp c a b pos) (TEv X.K T B W (ev C (.ite c' a' b'))) := by
  refine pe_weak (pe_ifExp hc ha hb) fun σ H Q q => ?_
  obtain ⟨env, M, r, q⟩ := q
  rw [ev, evT_bind] at q
  refine ⟨env, M, r, ?_⟩
  cases ex : evT C c' env with
  | bad => rw [ex] at q; exact q
  | ex c e1 => rw [ex] at q; exact q
  | ok x e1 =>
    rw [ex] at q
    simp only [O.bind_ok] at q
    intro H1 f s r1
    cases x with
    | true => rw [if_pos rfl] at q ⊢; exact ⟨e1, M, r1, q.back r r1 f s⟩
    | false => rw [if_neg (by simp)] at q ⊢; exact ⟨e1, M, r1, q.back r r1 f s⟩
end
end Mi
set_option maxRecDepth 100000
set_option maxHeartbeats 2000000
namespace Mi
open PySem L2 PySem.Spec PyProof.Rows
section
variable {K : PySem.W.Frag} {T M B : Addr → Prop} {W : WC} {env env' env1 env2 : En} {σ σ' σ1 σ2 : L2.St} {H H' H1 H2 : Hp} {N N' : Addr → Prop}
theorem RPs.tail {x : R} {rs : List R} {v : V} {vs : List V} (h : RPs K T M B env σ H (x :: rs) env1 (v :: vs) H1) : RPs K T M B env σ H rs env1 vs H1 := by
  obtain ⟨f, s, P, q, r1, nd, fr⟩ := h
  cases q with
  | v hd t => exact ⟨f, s, P, t, r1, nd, fr⟩
  | s hd t => exact ⟨f, s, P, t, r1, nd, fr⟩
  | @o d p _ _ P' ho t =>
    refine ⟨f, s, P', t.step (Kp.refl _ _) (fun a z => .inl (z.elim (fun y => .inl (y.elim .inl fun w => .inr (by simp [w]))) .inr)) (fun _ _ _ z => z), r1.less fun a z => z.elim .inl fun y => .inr (by simp [y]), ?_, fun p hp => fr p (by simp [hp])⟩
    exact (List.nodup_cons.mp nd).2
theorem RVs.grow {rs : List R} {vs : List V} {P : List Addr} (q : RVs K H N σ rs vs P) (g : Grow H H') : RVs K H' N σ rs vs P := q.step (g.kp _) (fun _ z => .inl z) fun p _ o e => g p o e
end
section
variable {X : Cx} {T B : Addr → Prop} {W : WC} {C : Den}
theorem chain_read {o o' : COp} {a b c : E} {σ : L2.St} {H : Hp} {Q : VK} (q : TEv X.K T B W (ev C (.chain o o' a b c)) σ H Q) :
    tChain (fun x y H Q => OpV X.K (.cmp o) [x, y] H Q) (fun x y H Q => OpV X.K (.cmp o') [x, y] H Q) (TEv X.K T B W (ev C a)) (TEv X.K T B W (ev C b)) (TEv X.K T B W (ev C c)) σ H Q := by
  obtain ⟨env, M, r0, q⟩ := q
  rw [ev] at q
  refine ⟨env, M, r0, ?_⟩
  unfold OutE
  cases ex : ev C a env with
  | bad => rw [ex] at q; exact q
  | ex c e1 => rw [ex] at q; exact q
  | ok x e1 =>
    rw [ex] at q
    simp only [O.bind_ok] at q
    intro v H1 h1
    obtain ⟨f1, s1, P1, qv1, r1, nd1, fr1⟩ := h1
    refine ⟨e1, MP M P1, r1, ?_⟩
    unfold OutE
    cases ey : ev C b e1 with
    | bad => rw [ey] at q; exact q
    | ex c e2 => rw [ey] at q; exact fun H' f' s' r' => q H' (Fre.trans r1 s1 f1 f') (s1.trans s') (r'.less fun a z => .inl z)
    | ok y e2 =>
      rw [ey] at q
      simp only [O.bind_ok] at q
      intro u H2 h2
      have h12 := RPs.seq r0 f1 s1 qv1 r1 nd1 fr1 h2
      simp only [List.singleton_append] at h12
      cases erd : rds e2 [x, y] with
      | none => rw [erd] at q; exact q.elim
      | some ds =>
        rw [erd] at q
        simp only [O.of_some, O.bind_ok] at q
        cases eop : opO (.cmp o) ds with
        | none => rw [eop] at q; exact q.elim
        | some t =>
          rw [eop] at q
          simp only [O.of_some, O.bind_ok] at q
          unfold boolR at q
          split at q
          · rename_i t' env' k
            obtain ⟨f, s, P, qv, r2, nd, fr⟩ := h12
            refine ⟨_, ds, .v (.bool k), qv.rds r2 erd, eop, fun z H3 hz => ?_⟩
            obtain ⟨g, dz⟩ := hz
            cases dz
            refine ⟨k, rfl, ?_⟩
            simp only [O.bind_ok] at q
            have r3 := r2.grow' g
            have f3 : Fre env σ H H3 := Fre.trans r2 s f g.fre
            cases k with
            | false =>
              rw [if_neg (by simp)] at q ⊢
              exact q _ _ (RP.ofBool f3 s (r3.less fun a z => .inl z))
            | true =>
              rw [if_pos rfl] at q ⊢
              refine ⟨e2, MP M P, r3, ?_⟩
              unfold OutE
              cases ec : ev C c e2 with
              | bad => rw [ec] at q; exact q
              | ex c e3 => rw [ec] at q; exact fun H' f' s' r' => q H' (Fre.trans r3 s f3 f') (s.trans s') (r'.less fun a z => .inl z)
              | ok w e3 =>
                rw [ec] at q
                simp only [O.bind_ok] at q
                intro wv H4 h4
                have h3 := (RPs.seq r0 f3 s (qv.grow g) r3 nd fr h4)
                simp only [List.cons_append, List.nil_append] at h3
                have h3 := h3.tail
                cases erd' : rds e3 [y, w] with
                | none => rw [erd'] at q; exact q.elim
                | some ds' =>
                  rw [erd'] at q
                  simp only [O.of_some, O.bind_ok] at q
                  cases eop' : opO (.cmp o') ds' with
                  | none => rw [eop'] at q; exact q.elim
                  | some t' =>
                    rw [eop'] at q
                    obtain ⟨N, q1, q2⟩ := h3.op erd'
                    exact ⟨N, ds', t', q1, eop', fun v H' z => q v H' (q2 t' v H' z)⟩
          · exact q.elim
theorem pem_chain {a b c : Expr} {a' b' c' : E} {o o' : COp} {pos : Pos} (hu : X.A.units + 65 < cLine) (ha : PE X a (TEv X.K T B W (ev C a'))) (hb : PE X b (TEv X.K T B W (ev C b'))) (hc : PE X c (TEv X.K T B W (ev C c'))) (hm : lastMarks [pyC o, pyC o'] [b, c] = false) :
    PE X (.Compare a [pyC o, pyC o'] [b, c] pos) (TEv X.K T B W (ev C (.chain o o' a' b' c'))) :=
  pe_weak (pe_chain (or_cmp hu o) (or_cmp hu o') ha hb hc hm) fun σ H Q q => chain_read q
theorem ptm_chain {a b c : Expr} {a' b' c' : E} {o o' : COp} {pos : Pos} (hu : X.A.units + 65 < cLine) (ha : PE X a (TEv X.K T B W (ev C a'))) (hb : PE X b (TEv X.K T B W (ev C b'))) (hc : PE X c (TEv X.K T B W (ev C c'))) (hm : lastMarks [pyC o, pyC o'] [b, c] = false) :
    PT X (.Compare a [pyC o, pyC o'] [b, c] pos) (TTv X.K T B W (evT C (.chain o o' a' b' c'))) :=
  pt_weak (pt_chain (or_cmp hu o) (or_cmp hu o') ha hb hc hm) fun σ H Q q => chain_read q.val
/-! ### methods -/
section
variable {K : PySem.W.Frag} {M : Addr → Prop} {env env' env1 env2 : En} {σ : L2.St} {H H' H1 H2 : Hp} {N N' : Addr → Prop}
/-- a slot's list takes other items -/
theorem Rel.put {i : Nat} {a : Addr} {k : Kd} {d0 : D} {xs : List V} {ds : List D} (r : Rel K T M B env σ H) (e : env[i]? = some (some (d0, k))) (hk : k ≠ .fz) (hs : σ[i]? = some (some (.ref a))) (h : DRs K H (NS M env σ) xs ds) :
    Rel K T M B (env.set i (some (.list ds, k))) σ (upd H a (.lst xs)) ∧ (∀ x, NS M (env.set i (some (.list ds, k))) σ x → NS M env σ x) ∧ Kp (NS M env σ) H (upd H a (.lst xs)) ∧ Fre env σ H (upd H a (.lst xs)) := by
  have hi : i < env.length := (List.getElem?_eq_some_iff.mp e).1
  have hO : Ow env σ a := ⟨i, d0, k, e, hk, hs⟩
  obtain ⟨ys, ha⟩ := r.owlst hO
  have ow : ∀ x, Ow (env.set i (some (.list ds, k))) σ x → Ow env σ x := fun x ⟨j, d', k', h1, h2, h3⟩ => by
    by_cases ej : j = i
    · subst ej
      rw [get_set_self hi] at h1
      cases h1
      rw [hs] at h3; cases h3
      exact hO
    · rw [get_set_ne ej] at h1
      exact ⟨j, d', k', h1, h2, h3⟩
  have hn : ∀ x, NS M (env.set i (some (.list ds, k))) σ x → NS M env σ x := fun x z => z.elim .inl fun y => .inr (ow x y)
  have ne : ∀ b o, H b = some o → ¬ (o = .lst ys ∧ b = a) → upd H a (.lst xs) b = some o := fun b o hb hne => by
    rw [upd_ne fun z => hne ⟨by subst z; rw [ha] at hb; cases hb; rfl, z⟩]; exact hb
  have kp : Kp (NS M env σ) H (upd H a (.lst xs)) := ⟨fun b zs hb hnb => ne b _ hb fun z => hnb (.inr (by rw [z.2]; exact hO)), fun b zs hb => ne b _ hb fun z => (by cases z.1), fun b o u hb => ne b _ hb fun z => (by cases z.1)⟩
  have some' : ∀ b, H b ≠ none → upd H a (.lst xs) b ≠ none := fun b hb => by
    by_cases z : b = a
    · subst z; rw [upd_same]; simp
    · rw [upd_ne z]; exact hb
  refine ⟨⟨by simp [r.len], fun j d' h' => ?_, fun j d' k' h' hk' => ?_, fun j j' d1 k1 d2 k2 x e1 h1 e2 h2 q1 q2 => ?_, fun j d' x h' q => ?_, fun x q => r.od x (ow x q), fun x q => some' x (r.dm x q), fun x q => some' x (r.db x q), fun P q => ?_⟩, hn, kp, ⟨fun b o hb hnb _ => ne b _ hb fun z => hnb (by rw [z.2]; exact hO), some'⟩⟩
  · have ej : j ≠ i := fun z => by subst z; rw [get_set_self hi] at h'; cases h'; exact hk rfl
    rw [get_set_ne ej] at h'
    obtain ⟨v, e1, e2⟩ := r.fz j d' h'
    exact ⟨v, e1, e2.step kp fun x z => .inl (hn x z)⟩
  · by_cases ej : j = i
    · subst ej
      rw [get_set_self hi] at h'
      cases h'
      exact ⟨a, hs, xs, upd_same, h.step kp fun x z => .inl (hn x z)⟩
    · rw [get_set_ne ej] at h'
      obtain ⟨x, e1, e2⟩ := r.ow j d' k' h' hk'
      refine ⟨x, e1, e2.step kp (fun x z => .inl (hn x z)) fun o z => ?_⟩
      rw [upd_ne fun y => ej (by subst y; exact r.dis j i d' k' d0 k x h' hk' e hk e1 hs)]
      exact z
  · have g : ∀ {j : Nat} {d : D} {k' : Kd}, (env.set i (some (.list ds, k)))[j]? = some (some (d, k')) → ∃ d', env[j]? = some (some (d', k')) := fun {j d k'} z => by
      by_cases ej : j = i
      · subst ej
        rw [get_set_self hi] at z
        cases z
        exact ⟨_, e⟩
      · rw [get_set_ne ej] at z
        exact ⟨_, z⟩
    obtain ⟨d1', g1⟩ := g e1
    obtain ⟨d2', g2⟩ := g e2
    exact r.dis j j' d1' k1 d2' k2 x g1 h1 g2 h2 q1 q2
  · by_cases ej : j = i
    · subst ej
      rw [get_set_self hi] at h'
      cases h'
      exact r.fr j d0 x e q
    · rw [get_set_ne ej] at h'
      exact r.fr j d' x h' q
  · obtain ⟨ps, e1, t⟩ := r.tb P q
    refine ⟨ps, ?_, t⟩
    exact ne P _ e1 fun z => by cases z.1
theorem Sub.put {i : Nat} {k : Kd} {d0 d : D} (e : env[i]? = some (some (d0, k))) (hk : k.locked = false) : Sub env (env.set i (some (d, k))) := by
  have hi : i < env.length := (List.getElem?_eq_some_iff.mp e).1
  refine ⟨by simp, fun j d' k' h hk' => ?_⟩
  by_cases ej : j = i
  · subst ej
    rw [get_set_self hi] at h
    cases h
    exact ⟨_, e, fun z => by rw [hk] at z; cases z⟩
  · rw [get_set_ne ej] at h
    exact ⟨d', h, fun _ => rfl⟩
theorem lstSlot_get {i : Nat} (h : lstSlot i env = true) : ∃ xs k, env[i]? = some (some (.list xs, k)) ∧ k ≠ .fz := by
  unfold lstSlot at h
  split at h
  · rename_i xs k e
    exact ⟨xs, k, e, by simpa using h⟩
  · cases h
theorem Rel.at (r : Rel K T M B env σ H) {i : Nat} {ds : List D} {k : Kd} (e : env[i]? = some (some (.list ds, k))) (hk : k ≠ .fz) : ∃ a xs, σ[i]? = some (some (.ref a)) ∧ H a = some (.lst xs) ∧ DRs K H (NS M env σ) xs ds := by
  obtain ⟨a, e1, xs, e2, e3⟩ := r.ow i _ k e hk
  exact ⟨a, xs, e1, e2, e3⟩
/-- what a method leaves -/
theorem RP.put {i : Nat} {a : Addr} {k : Kd} {d0 d : D} {v : V} {xs : List V} {ds : List D} (f : Fre env σ H H1) (s : Sub env env1) (r : Rel K T M B env1 σ H1) (e : env1[i]? = some (some (d0, k))) (hk : k = .ow ∨ k = .io) (hs : σ[i]? = some (some (.ref a))) (h : DRs K H1 (NS M env1 σ) xs ds)
    (hd : DR K H1 (NS M env1 σ) v d) : RP K T M B env σ H (.v d) (env1.set i (some (.list ds, k))) v (upd H1 a (.lst xs)) := by
  have hk1 : k ≠ .fz := by rcases hk with z | z <;> (subst z; simp)
  have hk2 : k.locked = false := by rcases hk with z | z <;> (subst z; rfl)
  obtain ⟨r2, hn, kp, f2⟩ := r.put e hk1 hs h
  refine ⟨Fre.trans r s f f2, s.trans (Sub.put e hk2), [], .v ?_ .nil, by rw [MP_nil]; exact r2, .nil, fun _ h => nomatch h⟩
  rw [MP_nil]
  exact hd.step kp fun x z => .inl (hn x z)
end
theorem RdV.lst {K : PySem.W.Frag} {H : Hp} {N : Addr → Prop} {v : V} {ds : List D} (h : RdV K H N v (.list ds)) : ∃ b xs, v = .ref b ∧ SqL K H b xs ∧ DRs K H N xs ds := h.list
theorem list_extendW (l : Addr) (items : Array Value) (n : Nat) (b : Addr) (items2 : Array Value) (n2 : Nat) (sl2 : Array (Option Value)) (hc0 : ¬(!items.isEmpty && Builtin.List.listTooLong (items.size + items2.size)) = true) (hc1 : items.size ≤ sizeLine) (hs2 : items.size + items2.size ≤ sizeLine + 1) :
    Meets (Builtin.«list.extend» ⟨[.ref l, .ref b], []⟩) (fun _ R s => s.heap.get? l = some { cls := .type "list", dict := none, data := .seq items n, slots := #[] } ∧ s.heap.get? b = some { cls := .type "list", dict := none, data := .seq items2 n2, slots := sl2 } ∧ R (.ok (.ret Value.none)) { s with heap := s.heap.update l (Obj.mapSeq fun x => x ++ items2), toks := s.toks }) :=
  .of_wp fun prog w A R s h => by
    obtain ⟨hp, g, d, tk, os⟩ := s; obtain ⟨hl, hb, h⟩ := h; have f1 := AutoSeq1.idx_int; have f2 := AutoSeq1.sub_tuple_tuple; have f3 := AutoSeq1.sub_list_list; have f4 := AutoSeq1.sub_tuple_list; have f5 := AutoSeq1.sub_list_tuple;
    have hz' : (items ++ items2).size ≤ sizeLine + 1 := by rw [Array.size_append]; exact hs2
    wp_walk using (wpAny_updateSeq hl rfl (hz := hc1) (_hz' := hz')), AutoSeq1.wpAny_loadPart' hl, AutoSeq1.wpAny_loadPart' hb; exact ⟨_, rfl, h⟩
theorem mt_extendR : MtM X "list.extend" (fun x vs H Q => ∃ l b xs zs, x = .ref l ∧ vs = [.ref b] ∧ H l = some (.lst xs) ∧ SqL X.K H b zs ∧ xs.length + zs.length ≤ sizeLine ∧ Q .non (upd H l (.lst (xs ++ zs)))) := by
  intro pins s σ H x vs v us Q I rx rv h
  obtain ⟨l, b, xs, zs, rfl, rfl, hH, hB, hz, q⟩ := h
  cases rx
  obtain ⟨u, rfl, ru⟩ := rv.one
  cases ru
  obtain ⟨z, its, n, r, hl, e⟩ := I.lstM hH
  obtain ⟨its2, r2, ⟨o2, n2, e2, d1, d2, d3⟩, z2⟩ := I.list hB
  obtain ⟨cls2, dd2, data2, sl2⟩ := o2
  simp only at d1 d2 d3
  subst d1 d2 d3
  have hl2 := r2.length
  have hsz : its.toArray.size + its2.toArray.size ≤ sizeLine := by rw [List.size_toArray, List.size_toArray]; omega
  have hlong : ¬ (!its.toArray.isEmpty && Builtin.List.listTooLong (its.toArray.size + its2.toArray.size)) = true := by
    rw [notLongL hsz, Bool.and_false]
    exact Bool.false_ne_true
  refine call_meets F.slot_list_extend ⟨_, e, rfl⟩ F.entry_list_extend (F.args_list_extend_2 _ _)
    (list_extendW l its.toArray n b its2.toArray n2 sl2 hlong (by rw [List.size_toArray]; omega) (by omega)) ⟨e, e2, ?_⟩
  refine ⟨.non, _, I.lset (its' := its ++ its2) hH e (by simp) (r.append r2) ?_, rfl, q⟩
  rw [List.length_append]
  omega
/-- the opening of a method's reading -/
theorem mth_read {i : Nat} {m : Mth} {as : As} {σ : L2.St} {H : Hp} {Q : VK} {rm : V → List V → Hp → VK → Prop} (q : TEv X.K T B W (ev C (.mth m i as)) σ H Q)
    (hm : ∀ (env e1 : En) (M : Addr → Prop) (rs : List R) (vs : List V) (H1 : Hp) (a : Addr), Rel X.K T M B env σ H → RPs X.K T M B env σ H rs e1 vs H1 → σ[i]? = some (some (.ref a)) → OutE X.K T B W M env σ H (mthO m i rs e1) Q → rm (.ref a) vs H1 Q) :
    tBM X.K "list" rm (tVar i) (TAv X.K T B W (evAs C as)) σ H Q := by
  obtain ⟨env, M, r0, q⟩ := q
  rw [ev] at q
  split at q
  · rename_i hl
    obtain ⟨ds, k, ei, hk⟩ := lstSlot_get hl
    obtain ⟨a, xs, hs, ha, hd⟩ := r0.at ei hk
    refine ⟨_, hs, .inl ⟨rfl, xs, .inl (.inl ha)⟩, env, M, r0, ?_⟩
    unfold OutA
    cases ex : evAs C as env with
    | bad => rw [ex] at q; exact q
    | ex c e1 => rw [ex] at q; exact q
    | ok rs e1 =>
      rw [ex] at q
      exact fun vs H1 h => hm env e1 M rs vs H1 a r0 h hs q
  · exact q.elim
theorem append_rm {i : Nat} {σ : L2.St} {H : Hp} {Q : VK} (env e1 : En) (M : Addr → Prop) (rs : List R) (vs : List V) (H1 : Hp) (a : Addr) (r0 : Rel X.K T M B env σ H) (h : RPs X.K T M B env σ H rs e1 vs H1) (hs : σ[i]? = some (some (.ref a)))
    (q : OutE X.K T B W M env σ H (mthO .append i rs e1) Q) : rAppend (.ref a) vs H1 Q := by
  unfold mthO at q
  split at q <;> (try (rename_i hh; cases hh)) <;> first | contradiction | skip
  · rename_i r
    obtain ⟨v, rfl⟩ : ∃ v, vs = [v] := by
      have := RVs_len h
      cases vs with
      | nil => simp at this
      | cons v t => cases t with
        | nil => exact ⟨v, rfl⟩
        | cons _ _ => simp at this
    split at q
    · rename_i d e2 et
      obtain ⟨f, s, r2, hd, _⟩ := h.tk1 r0 et
      have go : ∀ xs k, e2[i]? = some (some (.list xs, k)) → (k = .ow ∨ k = .io) → xs.length < sizeLine → OutE X.K T B W M env σ H (.ok (.v .none) (e2.set i (some (.list (xs ++ [d]), k)))) Q → rAppend (.ref a) [v] H1 Q := fun xs k ei hk hz q => by
        obtain ⟨a', ys, hs', ha, hds⟩ := r2.at ei (by rcases hk with z | z <;> (subst z; simp))
        rw [hs] at hs'; cases hs'
        refine ⟨a, ys, v, rfl, rfl, ha, by rw [hds.length]; exact hz, q _ _ (RP.put f s r2 ei hk hs (hds.append (.cons hd .nil)) .non)⟩
      split at q
      · rename_i xs ei
        split at q
        · rename_i hz
          exact go xs _ ei (.inl rfl) hz q
        · exact q.elim
      · rename_i xs ei
        split at q
        · rename_i hz
          exact go xs _ ei (.inr rfl) hz q
        · exact q.elim
      · exact q.elim
    · exact q.elim
theorem pop_rm {i : Nat} {σ : L2.St} {H : Hp} {Q : VK} (env e1 : En) (M : Addr → Prop) (rs : List R) (vs : List V) (H1 : Hp) (a : Addr) (r0 : Rel X.K T M B env σ H) (h : RPs X.K T M B env σ H rs e1 vs H1) (hs : σ[i]? = some (some (.ref a)))
    (q : OutE X.K T B W M env σ H (mthO .pop i rs e1) Q) : rPop (.ref a) vs H1 Q := by
  unfold mthO at q
  split at q <;> (try (rename_i hh; cases hh)) <;> first | contradiction | skip
  · obtain ⟨rfl⟩ : vs = [] := by
      have := RVs_len h
      exact List.length_eq_zero_iff.mp this.symm
    split at q
    · rename_i xs k ei
      split at q
      · rename_i hk
        split at q
        · rename_i d ed
          obtain ⟨f, s, r2, hd⟩ := h.taken r0 (rfl : Mi.tks e1 [] = _)
          obtain ⟨a', ys, hs', ha, hds⟩ := r2.at ei (by rcases hk with z | z <;> (subst z; simp))
          rw [hs] at hs'; cases hs'
          rw [List.getLast?_eq_getElem?] at ed
          obtain ⟨v, ev, hv⟩ := hds.get ed
          have hl := hds.length
          have hd' : DRs X.K H1 (NS M e1 σ) ys.dropLast xs.dropLast := by
            rw [List.dropLast_eq_take, List.dropLast_eq_take, hl]
            exact hds.take _
          exact ⟨a, ys, v, rfl, rfl, ha, by rw [hl]; exact ev, q _ _ (RP.put f s r2 ei hk hs hd' hv)⟩
        · exact q.elim
      · exact q.elim
    · exact q.elim
theorem extend_rm {i : Nat} {σ : L2.St} {H : Hp} {Q : VK} (env e1 : En) (M : Addr → Prop) (rs : List R) (vs : List V) (H1 : Hp) (a : Addr) (r0 : Rel X.K T M B env σ H) (h : RPs X.K T M B env σ H rs e1 vs H1) (hs : σ[i]? = some (some (.ref a)))
    (q : OutE X.K T B W M env σ H (mthO .extend i rs e1) Q) : ∃ l b xs zs, V.ref a = .ref l ∧ vs = [.ref b] ∧ H1 l = some (.lst xs) ∧ SqL X.K H1 b zs ∧ xs.length + zs.length ≤ sizeLine ∧ Q .non (upd H1 l (.lst (xs ++ zs))) := by
  unfold mthO at q
  split at q <;> (try (rename_i hh; cases hh)) <;> first | contradiction | skip
  · rename_i r
    obtain ⟨v, rfl⟩ : ∃ v, vs = [v] := by
      have := RVs_len h
      cases vs with
      | nil => simp at this
      | cons v t => cases t with
        | nil => exact ⟨v, rfl⟩
        | cons _ _ => simp at this
    split at q
    · rename_i ys xs k er ei
      split at q
      · rename_i hc
        obtain ⟨hk, hz, hns⟩ := hc
        obtain ⟨f, s, P, qv, r1, nd, fr⟩ := h
        have pr := qv.rds r1 (rds_one er)
        cases pr with
        | cons h1 _ =>
          obtain ⟨b, zs, rfl, hb, hd⟩ := h1.list
          have hn : ∀ x, NS M e1 σ x → NS (MP M P) e1 σ x := fun x z => z.elim (fun y => .inl (.inl y)) .inr
          have r2 : Rel X.K T M B e1 σ H1 := r1.less fun x z => .inl z
          obtain ⟨a', ys', hs', ha, hds⟩ := r2.at ei (by rcases hk with z | z <;> (subst z; simp))
          rw [hs] at hs'; cases hs'
          exact ⟨a, b, ys', zs, rfl, rfl, ha, hb, by rw [hds.length, hd.length]; exact hz, q _ _ (RP.put f s r2 ei hk hs (hds.append (hd.anti hn)) .non)⟩
      · exact q.elim
    · exact q.elim
section
variable {i : Nat} {x : Str} {p apos cpos : Pos} {e : Expr} {a : E}
theorem few1 (hs : starEach [e] X.env = [(false, eval e X.env)]) : ((backTo cpos (starEach [e] X.env)).all (fun x => !x.1) && (backToKw cpos (keywordEach [] X.env)).all (fun x => x.1.isSome)
      && decide (([e] : List Expr).length + ([] : List Keyword).length + (if ([] : List Keyword).isEmpty then 0 else 1) < 30)) = true := by
  rw [hs]; rfl
theorem pem_append (hi : X.N[i]? = some x) (hv : Vis X.env.scope x) (hd : (x == ("__debug__" : Str)) = false) (hcd : (x == ("__classdict__" : Str)) = false) (ha : PE X e (TEv X.K T B W (ev C a))) (hs : starEach [e] X.env = [(false, eval e X.env)])
    (hbase : attributeBase (.Name x p) "append" X.env (eval (.Name x p) X.env) = eval (.Name x p) X.env) (hline : (apos.endLine == cpos.line) = true) :
    PE X (.Call (.Attribute (.Name x p) "append" apos) [e] [] cpos) (TEv X.K T B W (ev C (.mth .append i (.cons a .nil)))) :=
  pe_weak (pe_bm F.plainAttrs_list F.slot_list_append F.type_list_append mt_append (pe_var hi hv hd hcd) (pam_cons ha pam_nil hs) hbase (few1 hs) hline hs rfl) fun σ H Q q => mth_read q append_rm
theorem pem_extend (hi : X.N[i]? = some x) (hv : Vis X.env.scope x) (hd : (x == ("__debug__" : Str)) = false) (hcd : (x == ("__classdict__" : Str)) = false) (ha : PE X e (TEv X.K T B W (ev C a))) (hs : starEach [e] X.env = [(false, eval e X.env)])
    (hbase : attributeBase (.Name x p) "extend" X.env (eval (.Name x p) X.env) = eval (.Name x p) X.env) (hline : (apos.endLine == cpos.line) = true) :
    PE X (.Call (.Attribute (.Name x p) "extend" apos) [e] [] cpos) (TEv X.K T B W (ev C (.mth .extend i (.cons a .nil)))) :=
  pe_weak (pe_bm F.plainAttrs_list F.slot_list_extend F.type_list_extend mt_extendR (pe_var hi hv hd hcd) (pam_cons ha pam_nil hs) hbase (few1 hs) hline hs rfl) fun σ H Q q => mth_read q extend_rm
theorem pem_pop (hi : X.N[i]? = some x) (hv : Vis X.env.scope x) (hd : (x == ("__debug__" : Str)) = false) (hcd : (x == ("__classdict__" : Str)) = false)
    (hbase : attributeBase (.Name x p) "pop" X.env (eval (.Name x p) X.env) = eval (.Name x p) X.env) (hline : (apos.endLine == cpos.line) = true) :
    PE X (.Call (.Attribute (.Name x p) "pop" apos) [] [] cpos) (TEv X.K T B W (ev C (.mth .pop i .nil))) :=
  pe_weak (pe_bm0 F.plainAttrs_list F.slot_list_pop F.type_list_pop mt_pop (pe_var hi hv hd hcd) hbase hline) fun σ H Q q => by
    have h := mth_read q pop_rm
    obtain ⟨v, e1, ty, env, M, r, h⟩ := h
    refine ⟨v, e1, ty, ?_⟩
    rw [evAs_nil] at h
    exact h [] H (RPs.nil r)
end
end
end Mi
set_option maxRecDepth 100000
set_option maxHeartbeats 2000000
namespace Mi
open PySem L2 PySem.Spec PyProof.Rows
/-- no exception is wanted -/
def WF : WC := fun _ _ _ => False
section
variable {K : PySem.W.Frag} {T M B : Addr → Prop} {W : WC} {env env' env1 env2 e0 : En} {σ σ' σ1 σ2 σ0 : L2.St} {H H' H0 H1 H2 : Hp} {N N' : Addr → Prop} {own : List Nat}
theorem wipeE_get : ∀ (own : List Nat) (env : En) (j : Nat), (wipeE own env)[j]? = if j ∈ own then env[j]?.map (fun _ => none) else env[j]?
  | [], env, j => by simp [wipeE]
  | i :: own, env, j => by
    show (wipeE own (env.set i none))[j]? = _
    rw [wipeE_get own]
    by_cases h1 : j = i
    · subst h1
      by_cases h2 : j < env.length
      · simp [h2]
      · simp [h2]
    · rw [get_set_ne h1]
      simp [h1]
theorem wipeE_len (own : List Nat) (env : En) : (wipeE own env).length = env.length := by
  induction own generalizing env with
  | nil => rfl
  | cons i own ih =>
    show (wipeE own (env.set i none)).length = _
    rw [ih]; simp
theorem wipeE_some {j : Nat} {x : D × Kd} (h : (wipeE own env)[j]? = some (some x)) : j ∉ own ∧ env[j]? = some (some x) := by
  rw [wipeE_get] at h
  split at h
  · cases e : env[j]? <;> rw [e] at h <;> cases h
  · exact ⟨‹_›, h⟩
theorem wipe_get : ∀ (vs : List Nat) (σ : L2.St) (j : Nat), (wipe σ vs)[j]? = if j ∈ vs then σ[j]?.map (fun _ => none) else σ[j]?
  | [], σ, j => by simp [wipe]
  | i :: vs, σ, j => by
    show ((wipe σ vs).set i none)[j]? = _
    by_cases h1 : j = i
    · subst h1
      by_cases h2 : j < σ.length
      · simp [h2, wipe_length]
      · simp [h2, wipe_length]
    · rw [get_set_ne h1, wipe_get vs]
      simp [h1]
theorem wipe_eq (hl : σ2.length = σ.length) (h : ∀ j, j ∉ own → σ2[j]? = σ[j]?) : wipe σ2 own = wipe σ own := by
  refine List.ext_getElem? fun j => ?_
  rw [wipe_get, wipe_get]
  split
  · by_cases hj : j < σ.length
    · simp [hj, hl]
    · simp [hj, hl]
  · exact h j ‹_›
theorem wipe_wipe : wipe (wipe σ own) own = wipe σ own := wipe_eq (wipe_length _ _) fun j hj => by rw [wipe_get, if_neg hj]
/-- forgetting slots -/
theorem Rel.wipe (r : Rel K T M B env σ H) (own : List Nat) : Rel K T M B (wipeE own env) (L2.wipe σ own) H := by
  have g : ∀ {j : Nat} {x : D × Kd}, (wipeE own env)[j]? = some (some x) → (L2.wipe σ own)[j]? = σ[j]? ∧ env[j]? = some (some x) := fun {j x} h => by
    obtain ⟨h1, h2⟩ := wipeE_some h
    exact ⟨by rw [wipe_get, if_neg h1], h2⟩
  have ow : ∀ a, Ow (wipeE own env) (L2.wipe σ own) a → Ow env σ a := fun a ⟨j, d, k, h1, h2, h3⟩ => by
    obtain ⟨e1, e2⟩ := g h1
    exact ⟨j, d, k, e2, h2, by rw [← e1]; exact h3⟩
  have hn : ∀ a, NS M (wipeE own env) (L2.wipe σ own) a → NS M env σ a := fun a z => z.elim .inl fun y => .inr (ow a y)
  refine ⟨by rw [wipeE_len, wipe_length]; exact r.len, fun j d h => ?_, fun j d k h hk => ?_, fun i j d k d' k' a h1 hk1 h2 hk2 q1 q2 => ?_, fun j d a h q => ?_, fun a z => r.od a (ow a z), r.dm, r.db, r.tb⟩
  · obtain ⟨e1, e2⟩ := g h
    obtain ⟨v, q1, q2⟩ := r.fz j d e2
    exact ⟨v, by rw [e1]; exact q1, q2.anti hn⟩
  · obtain ⟨e1, e2⟩ := g h
    obtain ⟨a, q1, q2⟩ := r.ow j d k e2 hk
    exact ⟨a, by rw [e1]; exact q1, q2.step (Kp.refl _ _) (fun x z => .inl (hn x z)) fun _ z => z⟩
  · obtain ⟨e1, e2⟩ := g h1
    obtain ⟨e3, e4⟩ := g h2
    rw [e1] at q1; rw [e3] at q2
    exact r.dis i j d k d' k' a e2 hk1 e4 hk2 q1 q2
  · obtain ⟨e1, e2⟩ := g h
    rw [e1] at q
    exact r.fr j d a e2 q
/-- the slots in a block against those at its start -/
structure BS (own : List Nat) (e0 : En) (σ0 : L2.St) (e' : En) (σ' : L2.St) : Prop where
  len : e'.length = e0.length
  slen : σ'.length = σ0.length
  sub : ∀ (j : Nat) (d' : D) (k : Kd), e'[j]? = some (some (d', k)) → k ≠ .fz → j ∉ own ∧ ∃ d, e0[j]? = some (some (d, k)) ∧ (k.locked = true → d = d')
  sig : ∀ (j : Nat), j ∉ own → σ'[j]? = σ0[j]?
theorem BS.ow (h : BS own e0 σ0 env σ) {a : Addr} (q : Ow env σ a) : Ow e0 σ0 a := by
  obtain ⟨j, d, k, h1, h2, h3⟩ := q
  obtain ⟨n, d0, e, _⟩ := h.sub j d k h1 h2
  exact ⟨j, d0, k, e, h2, by rw [← h.sig j n]; exact h3⟩
theorem BS.ns (h : BS own e0 σ0 env σ) {a : Addr} (q : NS M env σ a) : NS M e0 σ0 a := q.elim .inl fun z => .inr (h.ow z)
theorem BS.stp (h : BS own e0 σ0 env σ) (f : Fre e0 σ0 H0 H) : StP e0 σ0 H0 env σ H := ⟨f, fun a q => .inl (h.ow q), fun j d k e hk => by
  obtain ⟨n, d0, e1, l⟩ := h.sub j d k e (lk_ne hk)
  rw [l hk] at e1
  exact ⟨e1, h.sig j n⟩, h.len, fun j d k e hk => by
  obtain ⟨n, d0, e1, l⟩ := h.sub j d k e fun z => by subst z; cases hk
  exact ⟨⟨d0, k, e1, hk⟩, h.sig j n⟩⟩
theorem BS.fre (h : BS own e0 σ0 env σ) (a : Fre e0 σ0 H0 H1) (b : Fre env σ H1 H2) : Fre e0 σ0 H0 H2 :=
  ⟨fun x o e hn ht => b.kp x o (a.kp x o e hn ht) (fun q => hn (h.ow q)) ht, fun x e => b.dm x (a.dm x e)⟩
theorem BS.ev (h : BS own e0 σ0 env σ) (s : Sub env env') : BS own e0 σ0 env' σ := ⟨s.1.trans h.len, h.slen, fun j d' k e hk => by
  obtain ⟨d1, e1, l1⟩ := s.2 j d' k e hk
  obtain ⟨n, d0, e2, l2⟩ := h.sub j d1 k e1 hk
  exact ⟨n, d0, e2, fun z => (l2 z).trans (l1 z)⟩, h.sig⟩
theorem BS.wipe (h : BS own e0 σ0 env σ) (vs : List Nat) (hv : ∀ i ∈ vs, i ∈ own) : BS own e0 σ0 (wipeE vs env) (L2.wipe σ vs) := ⟨(wipeE_len _ _).trans h.len, (wipe_length _ _).trans h.slen, fun j d' k e hk => h.sub j d' k (wipeE_some e).2 hk,
  fun j hj => by rw [wipe_get, if_neg fun z => hj (hv j z)]; exact h.sig j hj⟩
mutual
theorem bindP_get : ∀ {p : Pt} {d : D} {env env2 : En}, bindP p d env = some env2 → env2.length = env.length ∧ ∀ (j : Nat) (d' : D) (k : Kd), env2[j]? = some (some (d', k)) → k ≠ .fz → env[j]? = some (some (d', k))
  | .nm i, d, env, env2, h => by
    unfold bindP at h
    split at h <;> cases h
    rename_i hl
    refine ⟨by simp, fun j d' k e hk => ?_⟩
    by_cases ej : j = i
    · subst ej
      rw [get_set_self hl] at e
      cases e
      exact (hk rfl).elim
    · rw [get_set_ne ej] at e
      exact e
  | .tp ps, d, env, env2, h => by
    unfold bindP at h
    split at h
    · exact bindPs_get h
    · exact bindPs_get h
    · cases h
theorem bindPs_get : ∀ {ps : List Pt} {ds : List D} {env env2 : En}, bindPs ps ds env = some env2 → env2.length = env.length ∧ ∀ (j : Nat) (d' : D) (k : Kd), env2[j]? = some (some (d', k)) → k ≠ .fz → env[j]? = some (some (d', k))
  | [], [], env, env2, h => by cases h; exact ⟨rfl, fun _ _ _ h _ => h⟩
  | p :: ps, d :: ds, env, env2, h => by
    unfold bindPs at h
    split at h
    · rename_i e1 h1
      obtain ⟨l1, g1⟩ := bindP_get h1
      obtain ⟨l2, g2⟩ := bindPs_get h
      exact ⟨l2.trans l1, fun j d' k e hk => g1 j d' k (g2 j d' k e hk) hk⟩
    · cases h
  | [], _ :: _, _, _, h => by simp [bindPs] at h
  | _ :: _, [], _, _, h => by simp [bindPs] at h
end
theorem BS.bind {p : Pt} {d : D} (h : BS own e0 σ0 env σ) (hb : bindP p d env = some env2) (hp : ∀ i ∈ slotsP p, i ∈ own) (hs : ∀ (i : Nat), i ∉ slotsP p → σ2[i]? = σ[i]?) (hl : σ2.length = σ.length) : BS own e0 σ0 env2 σ2 :=
  ⟨(bindP_get hb).1.trans h.len, hl.trans h.slen, fun j d' k e hk => h.sub j d' k ((bindP_get hb).2 j d' k e hk) hk, fun j hj => (hs j fun z => hj (hp j z)).trans (h.sig j hj)⟩
theorem BS.unlock {ws : List R} (h : BS own (lockE ws env) σ0 env2 σ) : BS own env σ0 (unlockE (ws.filterMap (fresh1 env)) env2) σ := by
  refine ⟨((kin_unlock _ _).len.trans h.len).trans (kin_lock _ _).len, h.slen, fun j d' k e hk => ?_, h.sig⟩
  have low : ∀ {k0 : Kd} {d0 d1 : D}, k0 ≠ .fz → (lockE ws env)[j]? = some (some (d0, k0)) → (k0.locked = true → d0 = d1) → j ∉ ws.filterMap (fresh1 env) → ∃ d, env[j]? = some (some (d, k0)) ∧ (k0.locked = true → d = d1) := fun {k0 d0 d1} hk0 g l hi => by
    rcases lock_get ws env j with z | ⟨d2, k2, z1, z2, z3⟩
    · rw [z] at g; exact ⟨d0, g, l⟩
    · rw [z2] at g
      cases g
      have hk' : k2 ≠ .ow ∧ k2 ≠ .io := ⟨fun z => hi (mem_fresh z3 z1 (.inl z)), fun z => hi (mem_fresh z3 z1 (.inr z))⟩
      have : k2.lock = k2 := by cases k2 <;> simp_all [Kd.lock]
      rw [this] at l ⊢
      exact ⟨_, z1, l⟩
  rcases unlock_get (ws.filterMap (fresh1 env)) env2 j with ⟨hi, z⟩ | ⟨hi, ⟨z, hh⟩ | ⟨d1, k1, z1, z2⟩⟩
  · rw [z] at e
    obtain ⟨n, d0, g, l⟩ := h.sub j d' k e hk
    exact ⟨n, low hk g l hi⟩
  · rw [z] at e
    exact (hh d' k e).elim
  · rw [z2] at e
    cases e
    have hk1 : k1 ≠ .fz := fun z => hk (by subst z; rfl)
    obtain ⟨n, d0, g, l⟩ := h.sub j d' k1 z1 hk1
    refine ⟨n, ?_⟩
    obtain ⟨_, d3, k3, e3, hk3⟩ := of_fresh hi
    have lk3 : k3.locked = false := by rcases hk3 with q | q <;> (subst q; rfl)
    have fin : k1.unlock = k3 := by
      rcases lock_get ws env j with q | ⟨d2, k2, q1, q2, q3⟩
      · rw [q, e3] at g
        cases g
        rcases hk3 with q | q <;> (subst q; rfl)
      · rw [q2] at g
        rw [e3] at q1
        cases q1
        cases g
        rcases hk3 with q | q <;> (subst q; rfl)
    rw [fin]
    exact ⟨d3, e3, fun z => by rw [lk3] at z; cases z⟩
/-- what a block leaves as it was, D aside -/
structure FreD (D : Addr) (env : En) (σ : L2.St) (H H' : Hp) : Prop where
  kp : ∀ a o, H a = some o → ¬ Ow env σ a → (∀ ps, o ≠ .tbl ps) → a ≠ D → H' a = some o
  dm : ∀ a, H a ≠ none → H' a ≠ none
theorem FreD.refl {D : Addr} : FreD D env σ H H := ⟨fun _ _ h _ _ _ => h, fun _ h => h⟩
theorem BS.freD {D : Addr} (h : BS own e0 σ0 env σ) (a : FreD D e0 σ0 H0 H1) (b : FreD D env σ H1 H2) : FreD D e0 σ0 H0 H2 :=
  ⟨fun x o e hn ht hx => b.kp x o (a.kp x o e hn ht hx) (fun q => hn (h.ow q)) ht hx, fun x e => b.dm x (a.dm x e)⟩
theorem Fre.toD {D : Addr} (f : Fre env σ H H') : FreD D env σ H H' := ⟨fun a o h hn ht _ => f.kp a o h hn ht, f.dm⟩
theorem FreD.toKp {D : Addr} (r : Rel K T M B env σ H) (f : FreD D env σ H H') {N : Addr → Prop} (hN : ∀ a, Ow env σ a → N a) (hD : N D) {ys : List V} (hDl : H D = some (.lst ys)) : Kp N H H' := by
  refine ⟨fun a xs h n => f.kp a _ h (fun q => n (hN a q)) (fun ps => by simp) fun z => n (by rw [z]; exact hD), fun a xs h => f.kp a _ h (fun q => ?_) (fun ps => by simp) fun z => (by rw [z, hDl] at h; cases h), fun a o u h => f.kp a _ h (fun q => ?_) (fun ps => by simp) fun z => (by rw [z, hDl] at h; cases h)⟩
  · obtain ⟨ys, e⟩ := r.owlst q
    rw [h] at e; cases e
  · obtain ⟨ys, e⟩ := r.owlst q
    rw [h] at e; cases e
theorem BS.self (h : BS own e0 σ0 env σ) : BS own env σ env σ := ⟨rfl, rfl, fun j d k e hk => ⟨(h.sub j d k e hk).1, d, e, fun _ => rfl⟩, fun _ _ => rfl⟩
theorem unlock_rel {ws : List R} (fr : ∀ (i : Nat) (d : D) (a : Addr), env[i]? = some (some (d, .ow)) → σ[i]? = some (some (.ref a)) → ¬ B a) (b : BS own (lockE ws env) σ env2 σ2) (r : Rel K T M B env2 σ2 H2) : Rel K T M B (unlockE (ws.filterMap (fresh1 env)) env2) σ2 H2 := by
  have ku := kin_unlock (ws.filterMap (fresh1 env)) env2
  refine r.kin ku fun i d p e q => ?_
  rcases unlock_get (ws.filterMap (fresh1 env)) env2 i with ⟨_, h⟩ | ⟨hi, ⟨h, hh⟩ | ⟨d', k, h1, h2⟩⟩
  · rw [h] at e; exact r.fr i d p e q
  · rw [h] at e; exact r.fr i d p e q
  · rw [h2] at e
    cases k <;> simp [Kd.unlock] at e
    · subst e; exact r.fr i d' p h1 q
    · subst e
      obtain ⟨hn, d0, e0, _⟩ := b.sub i d' .lo h1 (by simp)
      rw [b.sig i hn] at q
      obtain ⟨_, d1, k1, e1, hk1⟩ := of_fresh hi
      rcases lock_get ws env i with h | ⟨d'', k, g1, g2, _⟩
      · rw [h, e1] at e0
        cases e0
        rcases hk1 with z | z <;> cases z
      · rw [g2] at e0
        rw [e1] at g1
        cases g1
        rcases hk1 with z | z
        · subst z
          exact fr i d1 p e1 q
        · subst z
          simp [Kd.lock] at e0
theorem FreD.lock {D : Addr} {ws : List R} (f : FreD D (lockE ws env) σ H H') : FreD D env σ H H' := ⟨fun a o h hn ht hx => f.kp a o h (fun z => hn ((kin_lock ws env).oww.mp z)) ht hx, f.dm⟩
/-- what is gathered at D -/
def Acc (K : PySem.W.Frag) (N : Addr → Prop) (H : Hp) (D : Addr) (ds : List Mi.D) : Prop := ∃ acc, H D = some (.lst acc) ∧ DRs K H N acc ds
/-- the state of a block -/
structure LS (K : PySem.W.Frag) (T M B : Addr → Prop) (own : List Nat) (D : Addr) (e0 : En) (σ0 : L2.St) (H0 : Hp) (e' : En) (σ' : L2.St) (H' : Hp) (ds : List Mi.D) : Prop where
  rel : Rel K T M B e' σ' H'
  bs : BS own e0 σ0 e' σ'
  fre : FreD D e0 σ0 H0 H'
  acc : Acc K (NS M e' σ') H' D ds
/-- what a loop ends in -/
def Res (K : PySem.W.Frag) (T M B : Addr → Prop) (own : List Nat) (D : Addr) (e0 : En) (σ0 : L2.St) (H0 : Hp) (ds : List Mi.D) (o : O (List Mi.D)) (Fin : Hp → Prop) : Prop := match o with
  | .ok ys e' => (ds ++ ys).length ≤ sizeLine ∧ ∀ H', LS K T M B own D e0 σ0 H0 e' σ0 H' (ds ++ ys) → Fin H'
  | _ => False
theorem Acc.step {D : Addr} {ds : List Mi.D} (h : Acc K N H D ds) (k : Kp N' H H') (hn : ∀ a, N' a → N a) (hn2 : ∀ a, N a → N' a) (hD : ∀ o, H D = some (.lst o) → H' D = some (.lst o)) : Acc K N' H' D ds := by
  obtain ⟨acc, h1, h2⟩ := h
  exact ⟨acc, hD _ h1, (h2.anti hn).step k fun a z => .inl z⟩
end
section
variable {K : PySem.W.Frag} {T M B : Addr → Prop} {own : List Nat} {D : Addr} {env e1 : En} {σ : L2.St} {H0 H1 : Hp}
theorem gloop {J : L2.It} {ws : List R} {vs : List V} {P : List Addr} {cs items : List Mi.D} {dacc : List Mi.D} {f : Mi.D → En → O (List Mi.D)} {Fin : Hp → Prop} {Step : V → Hp → (Hp → Prop) → Prop}
    (r : Rel K T M B e1 σ H0) (hw : wipeE own e1 = e1) (hσ : wipe σ own = σ) (qv : RVs K H0 (NS M e1 σ) σ ws vs P) (hP : ∀ p ∈ P, M p ∧ p ≠ D) (hMD : M D) (wk : Wlk K J vs cs items) (hc : lkd (lockE ws e1) ws = true → rds e1 ws = some cs) (hacc : Acc K (NS M e1 σ) H0 D dacc)
    (q : Res K T M B own D e1 σ H0 dacc (locked ws (turnsG ws own f items) e1) Fin)
    (step : ∀ (d : Mi.D) (env' : En) (H' : Hp) (x : V) (da : List Mi.D) (ys : List Mi.D) (e2 : En) (Nx : Hp → Prop), LS K T M B own D (lockE ws e1) σ H0 env' σ H' da → DR K H' (NS M env' σ) x d → f d env' = .ok ys e2 → (da ++ ys).length ≤ sizeLine →
      (∀ H2 σ2, wipe σ2 own = σ → LS K T M B own D (lockE ws e1) σ H0 e2 σ2 H2 (da ++ ys) → Nx H2) → Step x H' Nx) :
    ∃ W : Nat → Nat → Hp → Prop, (∃ m, W 0 m H0) ∧ ∀ i m H, W i m H → (J.stop i H ∧ Fin H) ∨ (J.go i H ∧ ∃ Nx : Hp → Prop, (∀ H', Nx H' → ∃ m', m' < m ∧ W (i + 1) m' H') ∧ ∀ x H', J.yld i H x H' → Step x H' Nx) := by
  have kl := kin_lock ws e1
  have r0 := r.lock ws
  have wl : wipeE own (lockE ws e1) = lockE ws e1 := by
    refine List.ext_getElem? fun j => ?_
    rw [wipeE_get]
    split
    · rename_i hj
      rcases lock_get ws e1 j with z | ⟨d, k, z1, z2, z3⟩
      · rw [z, ← hw, wipeE_get, if_pos hj]
        cases e1[j]? <;> rfl
      · rw [← hw] at z1
        exact ((wipeE_some z1).1 hj).elim
    · rfl
  have b0 : BS own (lockE ws e1) σ (lockE ws e1) σ := ⟨rfl, rfl, fun j d k e hk => ⟨(wipeE_some (by rw [wl]; exact e)).1, d, e, fun _ => rfl⟩, fun _ _ => rfl⟩
  have acc0 : Acc K (NS M (lockE ws e1) σ) H0 D dacc := by
    obtain ⟨acc, h1, h2⟩ := hacc
    exact ⟨acc, h1, h2.anti fun a z => kl.ns.mp z⟩
  have l0 : LS K T M B own D (lockE ws e1) σ H0 (lockE ws e1) σ H0 dacc := ⟨r0, b0, FreD.refl, acc0⟩
  have q0 : Res K T M B own D (lockE ws e1) σ H0 dacc (turnsG ws own f items (lockE ws e1)) Fin := by
    unfold Res at q ⊢
    unfold locked at q
    cases eo : turnsG ws own f items (lockE ws e1) with
    | bad => rw [eo] at q; exact q
    | ex c e => rw [eo] at q; exact q
    | ok ys e' =>
      rw [eo] at q
      refine ⟨q.1, fun H' h => q.2 H' ⟨unlock_rel r.fr h.bs h.rel, h.bs.unlock, h.fre.lock, ?_⟩⟩
      obtain ⟨acc, h1, h2⟩ := h.acc
      exact ⟨acc, h1, h2.anti fun a z => (kin_unlock _ _).ns.mp z⟩
  have qv0 : RVs K H0 (NS M (lockE ws e1) σ) σ ws vs P := qv.step (Kp.refl _ _) (fun a z => .inl (kl.ns.mp z)) fun _ _ _ z => z
  refine ⟨fun i m H => m = items.length - i ∧ i ≤ items.length ∧ ∃ env' da, LS K T M B own D (lockE ws e1) σ H0 env' σ H da ∧ Res K T M B own D (lockE ws e1) σ H0 da (turnsG ws own f (items.drop i) env') Fin, ⟨_, rfl, Nat.zero_le _, _, dacc, l0, q0⟩, ?_⟩
  rintro i m H ⟨rfl, hi', env', da, h, h'⟩
  have hl : lkd env' ws = true := by
    cases e : lkd env' ws with
    | true => rfl
    | false =>
      cases ei : items.drop i with
      | nil => rw [ei] at h'; simp [turnsG, e, Res] at h'
      | cons d ds => rw [ei] at h'; simp [turnsG, e, Res] at h'
  have st : StP (lockE ws e1) σ H env' σ H := h.bs.stp Fre.refl
  obtain ⟨acc00, hD0, _⟩ := acc0
  have hl0 : lkd (lockE ws e1) ws = true := by
    refine List.all_eq_true.mpr fun w hw' => ?_
    cases w with
    | v d => rfl
    | o d => rfl
    | s j =>
      obtain ⟨d, k, e, hk⟩ := lkd_mem hl hw'
      have := (st.lk j d k e hk).1
      simp only [this]
      exact hk
  have erd := hc hl0
  have qv' : RVs K H (NS M env' σ) σ ws vs P := by
    have hn : ∀ a, NS M env' σ a → NS M (lockE ws e1) σ a ∨ H0 a = none := fun a z => .inl (h.bs.ns z)
    refine qv0.step (h.fre.toKp r0 (fun a y => .inr y) (.inl hMD) hD0) hn fun p hp o ho => ?_
    obtain ⟨xs, e⟩ := qv0.lst p hp
    rw [e] at ho; cases ho
    exact h.fre.kp p _ e (fun z => r0.od p z (hP p hp).1) (fun ps z => by cases z) (hP p hp).2
  have pr : Paired (RdV K H (NS M env' σ)) vs cs := qv'.rds h.rel (rds_kept st hl erd)
  by_cases hi2 : i < items.length
  · have ed : items.drop i = items[i] :: items.drop (i + 1) := List.drop_eq_getElem_cons hi2
    rw [ed] at h'
    simp only [turnsG, hl, if_true] at h'
    cases ef : f items[i] env' with
    | bad => rw [ef] at h'; exact h'.elim
    | ex c e => rw [ef] at h'; exact h'.elim
    | ok ys e2 =>
      rw [ef] at h'
      simp only [O.bind_ok] at h'
      refine .inr ⟨wk.goes i _ H hi2 pr, fun H2 => ∃ σ2 , wipe σ2 own = σ ∧ LS K T M B own D (lockE ws e1) σ H0 e2 σ2 H2 (da ++ ys), fun H2 ⟨σ2, hσ2, h2⟩ => ⟨items.length - (i + 1), by omega, rfl, hi2, wipeE own e2, da ++ ys, ?_, ?_⟩, fun x H2 y => ?_⟩
      · have b2 := h2.bs.wipe own fun _ z => z
        have r2 := h2.rel.wipe own
        rw [hσ2] at b2 r2
        refine ⟨r2, b2, h2.fre, ?_⟩
        obtain ⟨acc, h3, h4⟩ := h2.acc
        refine ⟨acc, h3, h4.anti fun a z => z.elim .inl fun ⟨j, d', k, e, hk, hs⟩ => .inr ?_⟩
        obtain ⟨n, e'⟩ := wipeE_some e
        refine ⟨j, d', k, e', hk, ?_⟩
        rw [← hσ2, wipe_get, if_neg n] at hs
        exact hs
      · unfold Res at h' ⊢
        cases et : turnsG ws own f (items.drop (i + 1)) (wipeE own e2) with
        | bad => rw [et] at h'; exact h'
        | ex c e => rw [et] at h'; exact h'
        | ok zs e3 =>
          rw [et] at h'
          exact ⟨by rw [List.append_assoc]; exact h'.1, fun H3 h3 => h'.2 H3 (by rw [List.append_assoc] at h3; exact h3)⟩
      · obtain ⟨g, dr⟩ := wk.yields i _ H x H2 hi2 pr y
        have l2 : LS K T M B own D (lockE ws e1) σ H0 env' σ H2 da := ⟨h.rel.grow' g, h.bs, h.bs.freD h.fre (Fre.toD g.fre), by
          obtain ⟨acc, h3, h4⟩ := h.acc
          exact ⟨acc, g _ _ h3, h4.grow g⟩⟩
        have hlen : (da ++ ys).length ≤ sizeLine := by
          unfold Res at h'
          cases et : turnsG ws own f (items.drop (i + 1)) (wipeE own e2) with
          | bad => rw [et] at h'; exact h'.elim
          | ex c e => rw [et] at h'; exact h'.elim
          | ok zs e3 =>
            rw [et] at h'
            have := h'.1
            simp only [List.length_append] at this ⊢
            omega
        exact step items[i] env' H2 x da ys e2 _ l2 (dr _ (List.getElem?_eq_getElem hi2)) ef hlen fun H3 σ3 e3 h3 => ⟨σ3, e3, h3⟩
  · have e : i = items.length := by omega
    subst e
    refine .inl ⟨wk.stops _ H pr, ?_⟩
    rw [List.drop_length] at h'
    simp only [turnsG, hl, if_true] at h'
    exact h'.2 H (by rw [List.append_nil]; exact h)
end
end Mi
set_option maxRecDepth 100000
set_option maxHeartbeats 2000000
namespace Mi
open PySem L2 PySem.Spec PyProof.Rows
section
variable {K : PySem.W.Frag} {T M B : Addr → Prop} {W : WC} {C : Den} {env env' env1 env2 e0 e1 e2 e4 : En} {σ σ' σ1 σ2 σ0 : L2.St} {H H' H0 H1 H2 H3 : Hp} {N N' : Addr → Prop} {own : List Nat} {D : Addr}
theorem nox_ok {α : Type} {o : O α} {a : α} {e : En} (h : o.nox = .ok a e) : o = .ok a e := by
  cases o <;> simp [O.nox] at h ⊢
  exact h
theorem body_turn {α : Type} {p : Pt} {t : E} {k : En → O α} {no r : α} {d : Mi.D} {x : V} {KK : L2.St → Hp → Prop} {Nx : Hp → Prop} (re : Rel K T M B env' σ H') (b : BS own e0 σ0 env' σ) (hx : DR K H' (NS M env' σ) x d) (hp : ∀ i ∈ slotsP p, i ∈ own)
    (ef : bodyG p (ev C t) k no d env' = .ok r e2)
    (yes : ∀ e4 σ2 H3, wipe σ2 own = wipe σ own → Rel K T M B e4 σ2 H3 → BS own env' σ e4 σ2 → Fre env' σ H' H3 → k e4 = .ok r e2 → KK σ2 H3)
    (hno : ∀ σ2 H3, wipe σ2 own = wipe σ own → Rel K T M B e2 σ2 H3 → BS own env' σ e2 σ2 → Fre env' σ H' H3 → r = no → Nx H3) :
    gPt K T B p x σ H' fun σ2 H2 => wipe σ2 own = wipe σ own ∧ TTv K T B WF (evT C t) σ2 H2 fun b H3 => if b = true then KK σ2 H3 else Nx H3 := by
  have ef := nox_ok ef
  cases hb : bindP p d env' with
  | none => rw [hb] at ef; cases ef
  | some e3 =>
    rw [hb] at ef
    simp only [O.of_some, O.bind_ok] at ef
    refine ⟨env', M, d, e3, re, hx, hb, fun σ2 s2 r2 k2 l2 n2 => ⟨wipe_eq l2 fun j hj => k2 j fun z => hj (hp j z), e3, M, r2, ?_⟩⟩
    have b3 : BS own env' σ e3 σ2 := b.self.bind hb hp k2 l2
    have hw : wipe σ2 own = wipe σ own := wipe_eq l2 fun j hj => k2 j fun z => hj (hp j z)
    have ef : (evT C t e3).bind (fun c e5 => if c = true then k e5 else .ok no e5) = .ok r e2 := by
      unfold evT
      rw [O.bind_assoc]
      exact ef
    cases et : evT C t e3 with
    | bad => rw [et] at ef; cases ef
    | ex c e => rw [et] at ef; cases ef
    | ok c e5 =>
      rw [et] at ef
      simp only [O.bind_ok] at ef
      intro H3 f3 s3 r3
      have b5 := b3.ev s3
      have fr := b3.fre Fre.refl f3
      cases c with
      | true => rw [if_pos rfl] at ef ⊢; exact yes e5 σ2 H3 hw r3 b5 fr ef
      | false =>
        rw [if_neg (by simp)] at ef ⊢
        cases ef
        exact hno σ2 H3 hw r3 b5 fr rfl
theorem Acc.fre {ds : List Mi.D} (re : Rel K T M B env σ H) (hMD : M D) (h : Acc K (NS M env σ) H D ds) (f : Fre env σ H H') (hn : ∀ a, NS M env' σ' a → NS M env σ a) : Acc K (NS M env' σ') H' D ds := by
  obtain ⟨acc, h1, h2⟩ := h
  exact ⟨acc, f.kp D _ h1 (fun z => re.od D z hMD) fun ps z => (by cases z), h2.step (f.toKp re fun a z => .inr z) fun a z => .inl (hn a z)⟩
theorem Rel.poke {acc xs : List V} (r : Rel K T M B env σ H) (hMD : M D) (hD : H D = some (.lst acc)) : Rel K T M B env σ (upd H D (.lst xs)) ∧ Kp (NS M env σ) H (upd H D (.lst xs)) := by
  have ne : ∀ b o, H b = some o → ¬ b = D → upd H D (.lst xs) b = some o := fun b o hb hne => by rw [upd_ne hne]; exact hb
  have kp : Kp (NS M env σ) H (upd H D (.lst xs)) := ⟨fun b zs hb hnb => ne b _ hb fun z => hnb (.inl (by rw [z]; exact hMD)), fun b zs hb => ne b _ hb fun z => (by subst z; rw [hD] at hb; cases hb), fun b o u hb => ne b _ hb fun z => (by subst z; rw [hD] at hb; cases hb)⟩
  have some' : ∀ b, H b ≠ none → upd H D (.lst xs) b ≠ none := fun b hb => by
    by_cases z : b = D
    · subst z; rw [upd_same]; simp
    · rw [upd_ne z]; exact hb
  refine ⟨⟨r.len, fun j d h => ?_, fun j d k h hk => ?_, r.dis, r.fr, r.od, fun a q => some' a (r.dm a q), fun a q => some' a (r.db a q), fun P q => ?_⟩, kp⟩
  · obtain ⟨v, e1, e2⟩ := r.fz j d h
    exact ⟨v, e1, e2.step kp fun _ z => .inl z⟩
  · obtain ⟨a, e1, e2⟩ := r.ow j d k h hk
    exact ⟨a, e1, e2.step kp (fun _ z => .inl z) fun o z => ne a _ z fun y => r.od a ⟨j, d, k, h, hk, e1⟩ (by rw [y]; exact hMD)⟩
  · obtain ⟨ps, e1, t⟩ := r.tb P q
    exact ⟨ps, ne P _ e1 fun z => (by subst z; rw [hD] at e1; cases e1), t⟩
theorem elem_read {e : E} {da ys : List Mi.D} {Nx : Hp → Prop} (re : Rel K T M B e4 σ2 H3) (ha : Acc K (NS M e4 σ2) H3 D da) (hMD : M D) (ek : ((ev C e e4).bind fun x e1 => (O.of (tk e1 x) e1).bind fun y _ => .ok [y.1] y.2) = .ok ys e2) (hlen : (da ++ ys).length ≤ sizeLine)
    (nx : ∀ H5, Rel K T M B e2 σ2 H5 → Sub e4 e2 → FreD D e4 σ2 H3 H5 → Acc K (NS M e2 σ2) H5 D (da ++ ys) → Nx H5) :
    TEv K T B WF (ev C e) σ2 H3 fun y H4 => ∃ acc, H4 D = some (.lst acc) ∧ acc.length < sizeLine ∧ Nx (upd H4 D (.lst (acc ++ [y]))) := by
  refine ⟨e4, M, re, ?_⟩
  cases ex : ev C e e4 with
  | bad => rw [ex] at ek; cases ek
  | ex c e => rw [ex] at ek; cases ek
  | ok x e5 =>
    rw [ex] at ek
    simp only [O.bind_ok] at ek
    cases et : tk e5 x with
    | none => rw [et] at ek; cases ek
    | some y =>
      obtain ⟨d, e6⟩ := y
      rw [et] at ek
      cases ek
      intro y H4 h4
      obtain ⟨f, s, r2, hd, _⟩ := h4.tk1 re et
      obtain ⟨acc, h1, h2⟩ := ha.fre re hMD f fun a z => s.ns z
      refine ⟨acc, h1, ?_, ?_⟩
      · rw [h2.length]
        simp only [List.length_append, List.length_singleton] at hlen
        omega
      · obtain ⟨r3, kp⟩ := r2.poke (xs := acc ++ [y]) hMD h1
        refine nx _ r3 s ⟨fun a o h hn ht hx => ?_, fun a h => ?_⟩ ⟨_, upd_same, (h2.append (.cons hd .nil)).step kp fun _ z => .inl z⟩
        · rw [upd_ne hx]; exact f.kp a o h hn ht
        · by_cases z : a = D
          · subst z; rw [upd_same]; simp
          · rw [upd_ne z]; exact f.dm a h
theorem BS.trans {o1 : List Nat} (a : BS own e0 σ0 env σ) (b : BS o1 env σ env2 σ2) (ho : ∀ i ∈ o1, i ∈ own) : BS own e0 σ0 env2 σ2 := ⟨b.len.trans a.len, b.slen.trans a.slen, fun j d' k e hk => by
  obtain ⟨_, d1, e1, l1⟩ := b.sub j d' k e hk
  obtain ⟨n, d0, e2, l2⟩ := a.sub j d1 k e1 hk
  exact ⟨n, d0, e2, fun z => (l2 z).trans (l1 z)⟩, fun j hj => (b.sig j fun z => hj (ho j z)).trans (a.sig j hj)⟩
theorem backE_get : ∀ (own : List Nat) (env e : En) (j : Nat), (backE own env e)[j]? = if j ∈ own then (if j < e.length then some (env.getD j none) else none) else e[j]?
  | [], env, e, j => by simp [backE]
  | i :: own, env, e, j => by
    show (backE own env (e.set i (env.getD i none)))[j]? = _
    rw [backE_get own]
    by_cases h1 : j = i
    · subst h1
      by_cases h2 : j < e.length
      · simp [h2]
      · simp [h2]
    · rw [get_set_ne h1]
      simp [h1]
theorem backE_len (own : List Nat) (env e : En) : (backE own env e).length = e.length := by
  induction own generalizing e with
  | nil => rfl
  | cons i own ih =>
    show (backE own env (e.set i (env.getD i none))).length = _
    rw [ih]; simp
theorem ownOk_get {j : Nat} {d : Mi.D} {k : Kd} (h : ownOk own env = true) (hj : j ∈ own) (e : env[j]? = some (some (d, k))) : k = .fz := by
  have := List.all_eq_true.mp h j hj
  simp only [e] at this
  split at this
  · rename_i z
    cases z
    rfl
  · rename_i z; cases z
  · cases this
/-- behind a block -/
theorem block_end {Mx : Addr → Prop} {P : List Addr} (r0 : Rel K T M B env σ H) (hown : ownOk own env = true) (f1 : Fre env σ H H1) (s1 : Sub env e1) (hH : ∀ a o, H1 a = some o → a ≠ D ∧ H0 a = some o) (hM : ∀ a, MP M P a → Mx a) (hP : ∀ a ∈ P, H a = none)
    (re : Rel K T Mx B e2 (wipe σ own) H') (b : BS own (wipeE own e1) (wipe σ own) e2 (wipe σ own)) (fr : FreD D (wipeE own e1) (wipe σ own) H0 H') :
    Fre env σ H H' ∧ Sub env (backE own env e2) ∧ Rel K T (MP M P) B (backE own env e2) σ H' ∧ ∀ a, NS (MP M P) (backE own env e2) σ a → NS Mx e2 (wipe σ own) a := by
  have back : ∀ {j : Nat} {d : Mi.D} {k : Kd}, (backE own env e2)[j]? = some (some (d, k)) → (j ∈ own ∧ k = .fz ∧ env[j]? = some (some (d, .fz))) ∨ (j ∉ own ∧ e2[j]? = some (some (d, k)) ∧ σ[j]? = (wipe σ own)[j]?) := fun {j d k} h => by
    rw [backE_get] at h
    split at h
    · rename_i hj
      split at h
      · simp only [Option.some.injEq] at h
        rw [List.getD_eq_getElem?_getD] at h
        cases e : env[j]? with
        | none => rw [e] at h; cases h
        | some x =>
          rw [e] at h
          simp only [Option.getD_some] at h
          subst h
          obtain rfl := ownOk_get hown hj e
          exact .inl ⟨hj, rfl, rfl⟩
      · cases h
    · rename_i hj
      exact .inr ⟨hj, h, by rw [wipe_get, if_neg hj]⟩
  have oww : ∀ a, Ow (wipeE own e1) (wipe σ own) a → Ow env σ a := fun a ⟨j, d, k, h1, h2, h3⟩ => by
    obtain ⟨n, e⟩ := wipeE_some h1
    rw [wipe_get, if_neg n] at h3
    exact s1.ow ⟨j, d, k, e, h2, h3⟩
  have ow : ∀ a, Ow (backE own env e2) σ a → Ow e2 (wipe σ own) a := fun a ⟨j, d, k, h1, h2, h3⟩ => by
    rcases back h1 with ⟨_, z, _⟩ | ⟨_, e, q⟩
    · exact (h2 z).elim
    · exact ⟨j, d, k, e, h2, by rw [← q]; exact h3⟩
  have fre : Fre env σ H H' := ⟨fun a o h hn ht => by
    have h1 := f1.kp a o h hn ht
    obtain ⟨n, h2⟩ := hH a o h1
    exact fr.kp a o h2 (fun z => hn (oww a z)) ht n, fun a h => by
    have h1 := f1.dm a h
    cases e : H1 a with
    | none => exact absurd e h1
    | some o => exact fr.dm a (by rw [(hH a o e).2]; simp)⟩
  have hn : ∀ a, NS (MP M P) (backE own env e2) σ a → NS Mx e2 (wipe σ own) a := fun a z => z.elim (fun y => .inl (hM a y)) fun y => .inr (ow a y)
  have hn2 : ∀ a, NS (MP M P) (backE own env e2) σ a → NS M env σ a ∨ H a = none := fun a z => by
    rcases NS_MP z with (z | z) | z
    · exact .inl (.inl z)
    · exact .inl (.inr (oww a (b.ow (ow a z))))
    · exact .inr (hP a z)
  refine ⟨fre, ⟨by rw [backE_len, b.len, wipeE_len]; exact s1.1, fun j d' k h hk => ?_⟩, ⟨?_, fun j d h => ?_, fun j d k h hk => ?_, fun i j d k d' k' a h1 hk1 h2 hk2 q1 q2 => ?_, fun j d a h q => ?_, fun a q z => re.od a (ow a q) (hM a z), fun a q => re.dm a (hM a q), re.db, re.tb⟩, hn⟩
  · rcases back h with ⟨_, z, _⟩ | ⟨n, e, q⟩
    · exact (hk z).elim
    · obtain ⟨_, d0, e0', l⟩ := b.sub j d' k e hk
      obtain ⟨d9, e9, l9⟩ := s1.2 j d0 k (wipeE_some e0').2 hk
      exact ⟨d9, e9, fun z => (l9 z).trans (l z)⟩
  · rw [backE_len, b.len, wipeE_len, s1.1]
    exact r0.len
  · rcases back h with ⟨_, _, e⟩ | ⟨n, e, q⟩
    · obtain ⟨v, q1, q2⟩ := r0.fz j d e
      exact ⟨v, q1, q2.step (fre.toKp r0 fun a y => .inr y) hn2⟩
    · obtain ⟨v, q1, q2⟩ := re.fz j d e
      exact ⟨v, by rw [q]; exact q1, q2.anti hn⟩
  · rcases back h with ⟨_, z, _⟩ | ⟨n, e, q⟩
    · exact (hk z).elim
    · obtain ⟨a, q1, q2⟩ := re.ow j d k e hk
      exact ⟨a, by rw [q]; exact q1, q2.step (Kp.refl _ _) (fun x z => .inl (hn x z)) fun _ z => z⟩
  · rcases back h1 with ⟨_, z, _⟩ | ⟨_, e, q⟩
    · exact (hk1 z).elim
    · rcases back h2 with ⟨_, z, _⟩ | ⟨_, e', q'⟩
      · exact (hk2 z).elim
      · rw [q] at q1; rw [q'] at q2
        exact re.dis i j d k d' k' a e hk1 e' hk2 q1 q2
  · rcases back h with ⟨_, z, _⟩ | ⟨n, e, q'⟩
    · cases z
    · rw [q'] at q
      exact re.fr j d a e q
/-- what is walked, seen in the block -/
theorem block_ws {ws : List R} {vs : List V} {P : List Addr} {cs : List Mi.D} (hl : lkd (lockE ws (wipeE own e1)) ws = true) (qv : RVs K H N σ ws vs P) (e : rds e1 ws = some cs) : RVs K H N (wipe σ own) ws vs P ∧ rds (wipeE own e1) ws = some cs := by
  have nown : ∀ i, .s i ∈ ws → i ∉ own := fun i hi => by
    obtain ⟨d, k, e, hk⟩ := lkd_mem hl hi
    rcases lock_get ws (wipeE own e1) i with z | ⟨d', k', z, _, _⟩
    · rw [z] at e; exact (wipeE_some e).1
    · exact (wipeE_some z).1
  refine ⟨qv.sigma fun i v hi h => by rw [wipe_get, if_neg (nown i hi)]; exact h, rds_lock ws (fun i d k h hi => ⟨k, by rw [wipeE_get, if_neg (nown i hi)]; exact h⟩) e⟩
theorem turns_lkd {ws : List R} {f : Mi.D → En → O (List Mi.D)} {items : List Mi.D} {env : En} {r : List Mi.D} {e : En} (h : turnsG ws own f items env = .ok r e) : lkd env ws = true := by
  cases z : lkd env ws with
  | true => rfl
  | false => cases items <;> simp [turnsG, z] at h
theorem locked_ok {α : Type} {ws : List R} {f : En → O α} {env : En} {r : α} {e : En} (h : locked ws f env = .ok r e) : ∃ e', f (lockE ws env) = .ok r e' := by
  unfold locked at h
  cases z : f (lockE ws env) with
  | ok a e' => rw [z] at h; simp only [O.unl] at h; cases h; exact ⟨_, rfl⟩
  | ex c e' => rw [z] at h; cases h
  | bad => rw [z] at h; cases h
theorem wipeE_wipeE : wipeE own (wipeE own env) = wipeE own env := by
  refine List.ext_getElem? fun j => ?_
  rw [wipeE_get, wipeE_get]
  split
  · cases env[j]? <;> rfl
  · rfl
/-- the opening of a comprehension -/
theorem lc_open {it : It} {f : Mi.D → En → O (List Mi.D)} {Q : VK} {Stp : Addr → V → Hp → (Hp → Prop) → Prop}
    (q : TEv K T B W (fun env => if ownOk own env then (evIt C it env).bind fun x e1 => (locked x.2 (turnsG x.2 own f x.1) (wipeE own e1)).nox.bind fun y e2 => if y.length ≤ sizeLine then .ok (.o (.list y)) (backE own env e2) else .bad else .bad) σ H Q)
    (step : ∀ (M : Addr → Prop) (D : Addr) (e0 : En) (H0 : Hp) (d : Mi.D) (env' : En) (H' : Hp) (x : V) (da ys : List Mi.D) (e2 : En) (Nx : Hp → Prop), M D → LS K T M B own D e0 (wipe σ own) H0 env' (wipe σ own) H' da → DR K H' (NS M env' (wipe σ own)) x d → f d env' = .ok ys e2 → (da ++ ys).length ≤ sizeLine →
      (∀ H2 σ2, wipe σ2 own = wipe σ own → LS K T M B own D e0 (wipe σ own) H0 e2 σ2 H2 (da ++ ys) → Nx H2) → Stp D x H' Nx) :
    TIv K T B W (evIt C it) σ H fun J H1 => ∀ D, H1 D = none → ∃ W : Nat → Nat → Hp → Prop, (∃ m, W 0 m (upd H1 D (.lst []))) ∧ ∀ i m H, W i m H →
      (J.stop i H ∧ Q (.ref D) H) ∨ (J.go i H ∧ ∃ Nx : Hp → Prop, (∀ H', Nx H' → ∃ m', m' < m ∧ W (i + 1) m' H') ∧ ∀ x H', J.yld i H x H' → Stp D x H' Nx) := by
  obtain ⟨env, M, r0, q⟩ := q
  dsimp only at q
  split at q
  case isFalse => exact q.elim
  case isTrue hown =>
    refine ⟨env, M, r0, ?_⟩
    cases ex : evIt C it env with
    | bad => rw [ex] at q; exact q
    | ex c e1 => rw [ex] at q; exact q
    | ok y e1 =>
      obtain ⟨items, ws⟩ := y
      rw [ex] at q
      simp only [O.bind_ok] at q
      intro vs H1 cs J h erd wk D hD
      obtain ⟨f1, s1, P, qv, r1, nd, fr⟩ := h
      cases el : locked ws (turnsG ws own f items) (wipeE own e1) with
      | bad => rw [el] at q; exact q.elim
      | ex c e => rw [el] at q; exact q.elim
      | ok ys e2 =>
        rw [el] at q
        simp only [O.nox, O.bind_ok] at q
        split at q
        case isFalse => exact q.elim
        case isTrue hz =>
          obtain ⟨e9, h9⟩ := locked_ok el
          have hl := turns_lkd h9
          have g : Grow H1 (upd H1 D (.lst [])) := Grow.upd hD
          have hd : ∀ a, MP (MP M P) [D] a → upd H1 D (.lst []) a ≠ none := fun a z => by
            rcases MP_one z with z | rfl
            · have := r1.dm a z
              cases e : H1 a with
              | none => exact absurd e this
              | some o => rw [g a o e]; simp
            · rw [upd_same]; simp
          have hM : ∀ a, MP (MP M P) [D] a → MP M P a ∨ H1 a = none := fun a z => (MP_one z).imp id fun y => by rw [y]; exact hD
          have rx : Rel K T (MP (MP M P) [D]) B e1 σ (upd H1 D (.lst [])) := r1.grow g hM hd
          have rw' := rx.wipe own
          have hnw : ∀ a, NS (MP (MP M P) [D]) (wipeE own e1) (wipe σ own) a → NS (MP M P) e1 σ a ∨ H1 a = none := fun a z => by
            rcases z with z | ⟨j, d, k, h1, h2, h3⟩
            · exact (hM a z).imp .inl id
            · obtain ⟨n, e⟩ := wipeE_some h1
              rw [wipe_get, if_neg n] at h3
              exact .inl (.inr ⟨j, d, k, e, h2, h3⟩)
          have qv1 : RVs K (upd H1 D (.lst [])) (NS (MP (MP M P) [D]) (wipeE own e1) (wipe σ own)) σ ws vs P := qv.step (g.kp _) hnw fun p _ o e => g p o e
          obtain ⟨qv2, erd2⟩ := block_ws hl qv1 erd
          have hPD : ∀ p ∈ P, MP (MP M P) [D] p ∧ p ≠ D := fun p hp => ⟨.inl (.inr hp), fun z => by
            obtain ⟨xs, e⟩ := qv.lst p hp
            rw [z, hD] at e; cases e⟩
          refine gloop (Step := Stp D) rw' wipeE_wipeE wipe_wipe qv2 hPD (.inr (by simp)) wk (fun _ => erd2) ⟨[], upd_same, .nil⟩ (dacc := []) (f := f) ?_ fun d env' H' x da ys e2 Nx l hx ef hlen nx => step _ D _ _ d env' H' x da ys e2 Nx (.inr (by simp)) l hx ef hlen nx
          rw [el]
          refine ⟨hz, fun H' l => ?_⟩
          rw [List.nil_append] at l
          have hDn : H D = none := by
            cases z : H D with
            | none => rfl
            | some o => exact absurd hD (f1.dm D (by rw [z]; simp))
          obtain ⟨f2, s2, r2, hn⟩ := block_end (P := [D]) r0 hown f1 s1 (fun a o h => ⟨fun z => (by rw [z, hD] at h; cases h), g a o h⟩) (fun a z => (MP_one z).elim (fun y => .inl (.inl y)) fun y => .inr (by simp [y])) (fun a ha => by rw [List.mem_singleton.mp ha]; exact hDn) l.rel l.bs l.fre
          obtain ⟨acc, a1, a2⟩ := l.acc
          exact q _ _ ⟨f2, s2, [D], .o ⟨acc, a1, a2.anti hn⟩ .nil, r2, by simp, fun a ha => by rw [List.mem_singleton.mp ha]; exact hDn⟩
theorem gPt.mono {p : Pt} {x : V} {Q Q' : L2.St → Hp → Prop} (h : gPt K T B p x σ H Q) (w : ∀ σ' H', Q σ' H' → Q' σ' H') : gPt K T B p x σ H Q' := by
  obtain ⟨env, M, d, env2, h1, h2, h3, h4⟩ := h
  exact ⟨env, M, d, env2, h1, h2, h3, fun σ2 s r k l n => w _ _ (h4 σ2 s r k l n)⟩
theorem yes_tt {σ : L2.St} {H : Hp} {Q : Bool → Hp → Prop} (h : TTv K T B WF (evT C (.con (.bool true))) σ H Q) : tYes σ H Q := by
  obtain ⟨env, M, r, h⟩ := h
  unfold evT at h
  rw [ev] at h
  exact h H Fre.refl Sub.refl r
theorem lc_read {p : Pt} {it : It} {t e : E} {tt : TT} {Q : VK} (hp : ∀ i ∈ slotsP p, i ∈ own) (htt : ∀ σ H Q, TTv K T B WF (evT C t) σ H Q → tt σ H Q) (q : TEv K T B W (ev C (.lc own p it t e)) σ H Q) :
    tLc (TIv K T B W (evIt C it)) (gPt K T B p) tt (TEv K T B WF (ev C e)) own σ H Q := by
  have q' := q
  have e1 : ev C (.lc own p it t e) = fun env => if ownOk own env then (evIt C it env).bind fun x e1 => (locked x.2 (turnsG x.2 own (bodyG p (ev C t) (fun e0 => (ev C e e0).bind fun x e1 => (O.of (tk e1 x) e1).bind fun y _ => .ok [y.1] y.2) []) x.1) (wipeE own e1)).nox.bind fun y e2 => if y.length ≤ sizeLine then .ok (.o (.list y)) (backE own env e2) else .bad else .bad := by
    funext env; rw [ev]
  rw [e1] at q'
  refine lc_open (Stp := fun D x H' Nx => gPt K T B p x (wipe σ own) H' fun σ2 H2 => wipe σ2 own = wipe σ own ∧ tt σ2 H2 fun b H3 =>
    if b = true then TEv K T B WF (ev C e) σ2 H3 fun y H4 => ∃ acc, H4 D = some (.lst acc) ∧ acc.length < sizeLine ∧ Nx (upd H4 D (.lst (acc ++ [y]))) else Nx H3) q' fun M D e0 H0 d env' H' x da ys e2 Nx hMD l hx ef hlen nx => ?_
  have bt := body_turn (Nx := Nx) (KK := fun σ2 H3 => TEv K T B WF (ev C e) σ2 H3 fun y H4 => ∃ acc, H4 D = some (.lst acc) ∧ acc.length < sizeLine ∧ Nx (upd H4 D (.lst (acc ++ [y])))) l.rel l.bs hx hp ef
    (fun e4 σ2 H3 hw r4 b4 f4 ek => elem_read r4 (l.acc.fre l.rel hMD f4 fun a z => b4.ns z) hMD ek hlen fun H5 r5 s5 f5 a5 => nx H5 σ2 (by rw [hw, wipe_wipe]) ⟨r5, (l.bs.trans b4 fun _ z => z).ev s5, l.bs.freD l.fre (b4.freD (Fre.toD f4) f5), a5⟩)
    (fun σ2 H3 hw r4 b4 f4 er => nx H3 σ2 (by rw [hw, wipe_wipe]) ⟨r4, l.bs.trans b4 fun _ z => z, l.bs.freD l.fre (Fre.toD f4), by rw [er, List.append_nil]; exact l.acc.fre l.rel hMD f4 fun a z => b4.ns z⟩)
  rw [wipe_wipe] at bt
  exact bt.mono fun σ2 H2 z => ⟨z.1, htt _ _ _ z.2⟩
theorem lc2_read {p p1 : Pt} {it it1 : It} {t t1 e : E} {tt tt1 : TT} {Q : VK} (hp : ∀ i ∈ slotsP p, i ∈ own) (hp1 : ∀ i ∈ slotsP p1, i ∈ own) (htt : ∀ σ H Q, TTv K T B WF (evT C t) σ H Q → tt σ H Q) (htt1 : ∀ σ H Q, TTv K T B WF (evT C t1) σ H Q → tt1 σ H Q)
    (q : TEv K T B W (ev C (.lc2 own p it t p1 it1 t1 e)) σ H Q) :
    tLc2 (TIv K T B W (evIt C it)) (gPt K T B p) tt (TIv K T B WF (evIt C it1)) (gPt K T B p1) tt1 (TEv K T B WF (ev C e)) own (slotsP p1) σ H Q := by
  have q' := q
  have e1 : ev C (.lc2 own p it t p1 it1 t1 e) = fun env => if ownOk own env then (evIt C it env).bind fun x e1 => (locked x.2 (turnsG x.2 own (bodyG p (ev C t) (fun e0 => (evIt C it1 e0).bind fun x1 e5 => locked x1.2 (turnsG x1.2 (slotsP p1) (bodyG p1 (ev C t1) (fun e0 => (ev C e e0).bind fun x e1 => (O.of (tk e1 x) e1).bind fun y _ => .ok [y.1] y.2) []) x1.1) (wipeE (slotsP p1) e5)) []) x.1) (wipeE own e1)).nox.bind fun y e2 => if y.length ≤ sizeLine then .ok (.o (.list y)) (backE own env e2) else .bad else .bad := by
    funext env; rw [ev]
  rw [e1] at q'
  refine lc_open (Stp := fun D x H' Nx => gPt K T B p x (wipe σ own) H' fun σ2 H2 => wipe σ2 own = wipe σ own ∧ tt σ2 H2 fun b H3 =>
    if b = true then TIv K T B WF (evIt C it1) σ2 H3 fun J1 H4 => ∃ W1 : Nat → Nat → Hp → Prop, (∃ m, W1 0 m H4) ∧ ∀ j k H, W1 j k H →
      (J1.stop j H ∧ Nx H) ∨ (J1.go j H ∧ ∃ Nx1 : Hp → Prop, (∀ H', Nx1 H' → ∃ k', k' < k ∧ W1 (j + 1) k' H') ∧ ∀ x H', J1.yld j H x H' → gPt K T B p1 x (wipe σ2 (slotsP p1)) H' fun σ3 H5 => wipe σ3 (slotsP p1) = wipe σ2 (slotsP p1) ∧ tt1 σ3 H5 fun b H6 =>
        if b = true then TEv K T B WF (ev C e) σ3 H6 fun y H7 => ∃ acc, H7 D = some (.lst acc) ∧ acc.length < sizeLine ∧ Nx1 (upd H7 D (.lst (acc ++ [y]))) else Nx1 H6)
    else Nx H3) q' fun M D e0 H0 d env' H' x da ys e2 Nx hMD l hx ef hlen nx => ?_
  have bt := body_turn (Nx := Nx) (KK := fun σ2 H3 => TIv K T B WF (evIt C it1) σ2 H3 fun J1 H4 => ∃ W1 : Nat → Nat → Hp → Prop, (∃ m, W1 0 m H4) ∧ ∀ j k H, W1 j k H →
      (J1.stop j H ∧ Nx H) ∨ (J1.go j H ∧ ∃ Nx1 : Hp → Prop, (∀ H', Nx1 H' → ∃ k', k' < k ∧ W1 (j + 1) k' H') ∧ ∀ x H', J1.yld j H x H' → gPt K T B p1 x (wipe σ2 (slotsP p1)) H' fun σ3 H5 => wipe σ3 (slotsP p1) = wipe σ2 (slotsP p1) ∧ tt1 σ3 H5 fun b H6 =>
        if b = true then TEv K T B WF (ev C e) σ3 H6 fun y H7 => ∃ acc, H7 D = some (.lst acc) ∧ acc.length < sizeLine ∧ Nx1 (upd H7 D (.lst (acc ++ [y]))) else Nx1 H6)) l.rel l.bs hx hp ef
    (fun e4 σ2 H3 hw r4 b4 f4 ek => ?_)
    (fun σ2 H3 hw r4 b4 f4 er => nx H3 σ2 (by rw [hw, wipe_wipe]) ⟨r4, l.bs.trans b4 fun _ z => z, l.bs.freD l.fre (Fre.toD f4), by rw [er, List.append_nil]; exact l.acc.fre l.rel hMD f4 fun a z => b4.ns z⟩)
  · rw [wipe_wipe] at bt
    exact bt.mono fun σ2 H2 z => ⟨z.1, htt _ _ _ z.2⟩
  · refine ⟨e4, M, r4, ?_⟩
    cases ex : evIt C it1 e4 with
    | bad => rw [ex] at ek; cases ek
    | ex c e => rw [ex] at ek; cases ek
    | ok y e5 =>
      obtain ⟨items, ws⟩ := y
      rw [ex] at ek
      simp only [O.bind_ok] at ek
      intro vs H4 cs J h erd wk
      obtain ⟨f5, s5, P5, qv, r5, nd, fr⟩ := h
      obtain ⟨e9, h9⟩ := locked_ok ek
      have hl := turns_lkd h9
      have a3 : Acc K (NS M e4 σ2) H3 D da := l.acc.fre l.rel hMD f4 fun a z => b4.ns z
      have a4 : Acc K (NS M e5 σ2) H4 D da := a3.fre r4 hMD f5 fun a z => s5.ns z
      have hnw : ∀ a, NS (MP M P5) (wipeE (slotsP p1) e5) (wipe σ2 (slotsP p1)) a → NS (MP M P5) e5 σ2 a := fun a z => z.imp id fun ⟨j, d, k, h1, h2, h3⟩ => by
        obtain ⟨n, e⟩ := wipeE_some h1
        rw [wipe_get, if_neg n] at h3
        exact ⟨j, d, k, e, h2, h3⟩
      have aw : Acc K (NS (MP M P5) (wipeE (slotsP p1) e5) (wipe σ2 (slotsP p1))) H4 D da := by
        obtain ⟨acc, h1, h2⟩ := a3
        refine ⟨acc, f5.kp D _ h1 (fun z => r4.od D z hMD) fun ps z => (by cases z), h2.step (f5.toKp r4 fun a z => .inr z) fun a z => ?_⟩
        rcases NS_MP (hnw a z) with z | z
        · exact .inl (s5.ns z)
        · exact .inr (fr a z)
      have qv1 := qv.step (Kp.refl _ _) (fun a z => .inl (hnw a z)) fun _ _ _ z => z
      obtain ⟨qv2, erd2⟩ := block_ws hl qv1 erd
      have hD4 : H3 D ≠ none := by
        obtain ⟨acc, h1, _⟩ := a3
        rw [h1]; simp
      have hPD : ∀ p ∈ P5, MP M P5 p ∧ p ≠ D := fun p hp => ⟨.inr hp, fun z => hD4 (by rw [← z]; exact fr p hp)⟩
      refine gloop (f := bodyG p1 (ev C t1) (fun e0 => (ev C e e0).bind fun x e1 => (O.of (tk e1 x) e1).bind fun y _ => .ok [y.1] y.2) []) (Fin := Nx) (Step := fun x H' Nx1 => gPt K T B p1 x (wipe σ2 (slotsP p1)) H' fun σ3 H5 => wipe σ3 (slotsP p1) = wipe σ2 (slotsP p1) ∧ tt1 σ3 H5 fun b H6 =>
        if b = true then TEv K T B WF (ev C e) σ3 H6 fun y H7 => ∃ acc, H7 D = some (.lst acc) ∧ acc.length < sizeLine ∧ Nx1 (upd H7 D (.lst (acc ++ [y]))) else Nx1 H6) (r5.wipe (slotsP p1)) wipeE_wipeE wipe_wipe qv2 hPD (.inl hMD) wk (fun _ => erd2) aw ?_ fun d env' H' x da ys e2 Nx1 l1 hx ef hlen nx1 => ?_
      · rw [ek]
        refine ⟨hlen, fun H5 l5 => nx H5 (wipe σ2 (slotsP p1)) ?_ ⟨l5.rel.less fun a z => .inl z, ?_, ?_, ?_⟩⟩
        · rw [← wipe_wipe (σ := σ), ← hw]
          exact wipe_eq (wipe_length _ _) fun j hj => by rw [wipe_get, if_neg fun z => hj (hp1 j z)]
        · exact (((l.bs.trans b4 fun _ z => z).ev s5).wipe (slotsP p1) hp1).trans l5.bs hp1
        · have f35 : FreD D e4 σ2 H3 H5 := ⟨fun a o h hn ht hx => l5.fre.kp a o (f5.kp a o h hn ht) (fun y => hn (by
            obtain ⟨j, d, k, h1, h2, h3⟩ := y
            obtain ⟨n, e⟩ := wipeE_some h1
            rw [wipe_get, if_neg n] at h3
            exact s5.ow ⟨j, d, k, e, h2, h3⟩)) ht hx, fun a h => l5.fre.dm a (f5.dm a h)⟩
          exact l.bs.freD l.fre (b4.freD (Fre.toD f4) f35)
        · obtain ⟨acc, h1, h2⟩ := l5.acc
          exact ⟨acc, h1, h2.anti fun a z => z.imp .inl id⟩
      · have bt := body_turn (Nx := Nx1) (KK := fun σ3 H6 => TEv K T B WF (ev C e) σ3 H6 fun y H7 => ∃ acc, H7 D = some (.lst acc) ∧ acc.length < sizeLine ∧ Nx1 (upd H7 D (.lst (acc ++ [y])))) l1.rel l1.bs hx (fun _ z => z) ef
          (fun e4 σ2 H3 hw r4 b4 f4 ek => elem_read r4 (l1.acc.fre l1.rel (.inl hMD) f4 fun a z => b4.ns z) (.inl hMD) ek hlen fun H5 r5 s5 f5 a5 => nx1 H5 σ2 (by rw [hw, wipe_wipe]) ⟨r5, (l1.bs.trans b4 fun _ z => z).ev s5, l1.bs.freD l1.fre (b4.freD (Fre.toD f4) f5), a5⟩)
          (fun σ2 H3 hw r4 b4 f4 er => nx1 H3 σ2 (by rw [hw, wipe_wipe]) ⟨r4, l1.bs.trans b4 fun _ z => z, l1.bs.freD l1.fre (Fre.toD f4), by rw [er, List.append_nil]; exact l1.acc.fre l1.rel (.inl hMD) f4 fun a z => b4.ns z⟩)
        rw [wipe_wipe] at bt
        exact bt.mono fun σ2 H2 z => ⟨z.1, htt1 _ _ _ z.2⟩
end
section
variable {X : Cx} {T B : Addr → Prop} {W : WC} {C : Den}
/-- a clause's tests: none or one -/
structure IfsM (X : Cx) (T B : Addr → Prop) (C : Den) (ifs : List Expr) (t : E) : Prop where
  ex : ∃ tt, PTs X ifs tt ∧ ∀ σ H Q, TTv X.K T B WF (evT C t) σ H Q → tt σ H Q
theorem ifs_nil : PTs X [] tYes := pts_nil
variable {elt tg iter tg1 iter1 : Expr} {ifs ifs1 : List Expr} {scope : Scope} {own : List (Str × Nat)} {pos spos : Pos} {p p1 : Pt} {it it1 : It} {t t1 e : E} {tt tt1 : TT} {i : Nat} {y : Str} {py : Pos} {ow : Bool}
abbrev Blk (X : Cx) (scope : Scope) (Pr : Cx → Prop) : Prop := ∀ (s : Shared) (H : Hp) (C : Addr) (cl : List (Str × Addr)) (fp : List Addr), Pr (X.blk s H scope (compEnvC scope cl C X.env) fp)
theorem pem_lc (hc : X.calm = true) (hN : X.N.Nodup) (hi : PI X tg iter (TIv X.K T B W (evIt C it))) (ok : BlkOk X.N X.env.scope scope own) (hp : ∀ i ∈ slotsP p, i ∈ own.map (·.2)) (htt : ∀ σ H Q, TTv X.K T B WF (evT C t) σ H Q → tt σ H Q)
    (hg : Blk X scope fun Y => PG Y tg (gPt X.K T B p)) (ht : Blk X scope fun Y => PTs Y ifs tt) (he : Blk X scope fun Y => PE Y elt (TEv X.K T B WF (ev C e))) (hs : ∀ x, foldedSetIterable iter X.env x = pure x) :
    PE X (.ListComp elt [⟨tg, iter, ifs, 0⟩] scope pos) (TEv X.K T B W (ev C (.lc (own.map (·.2)) p it t e))) :=
  pe_weak (pe_lc hc hN hi ok hg ht he hs) fun σ H Q q => lc_read hp htt q
theorem pem_lc2 (hc : X.calm = true) (hN : X.N.Nodup) (hi : PI X tg iter (TIv X.K T B W (evIt C it))) (ok : BlkOk X.N X.env.scope scope own) (hp : ∀ i ∈ slotsP p, i ∈ own.map (·.2)) (hp1 : ∀ i ∈ slotsP p1, i ∈ own.map (·.2)) (htt : ∀ σ H Q, TTv X.K T B WF (evT C t) σ H Q → tt σ H Q) (htt1 : ∀ σ H Q, TTv X.K T B WF (evT C t1) σ H Q → tt1 σ H Q)
    (hg : Blk X scope fun Y => PG Y tg (gPt X.K T B p)) (ht : Blk X scope fun Y => PTs Y ifs tt) (hi1 : Blk X scope fun Y => PI Y tg1 iter1 (TIv X.K T B WF (evIt C it1))) (hg1 : Blk X scope fun Y => PG Y tg1 (gPt X.K T B p1)) (ht1 : Blk X scope fun Y => PTs Y ifs1 tt1)
    (he : Blk X scope fun Y => PE Y elt (TEv X.K T B WF (ev C e))) (hs : ∀ x, foldedSetIterable iter X.env x = pure x) (hs1 : ∀ env x, foldedSetIterable iter1 env x = pure x) :
    PE X (.ListComp elt [⟨tg, iter, ifs, 0⟩, ⟨tg1, iter1, ifs1, 0⟩] scope pos) (TEv X.K T B W (ev C (.lc2 (own.map (·.2)) p it t p1 it1 t1 e))) :=
  pe_weak (pe_lc2 hc hN hi ok hp1 hg ht hi1 hg1 ht1 he hs hs1) fun σ H Q q => lc2_read hp hp1 htt htt1 q
theorem tAsg_mono {te te' : TE} {g : TG} {Dn : Ends} {σ : L2.St} {H : Hp} (h : tAsg te g Dn σ H) (w : ∀ σ H Q, te σ H Q → te' σ H Q) : tAsg te' g Dn σ H := w _ _ _ h
theorem psm_setLc (hc : X.calm = true) (hN : X.N.Nodup) (hy : X.N[i]? = some y) (hyl : X.env.scope.names.lookup y = some .local) (hsw : swapsWith (.ListComp elt [⟨tg, iter, ifs, 0⟩] scope pos) (some (.Name y py)) spos.line X.env = pure true)
    (hi : PI X tg iter (TIv X.K T B W (evIt C it))) (ok : BlkOk X.N X.env.scope scope own) (hp : ∀ i ∈ slotsP p, i ∈ own.map (·.2)) (htt : ∀ σ H Q, TTv X.K T B WF (evT C t) σ H Q → tt σ H Q)
    (hg : Blk X scope fun Y => PG Y tg (gPt X.K T B p)) (ht : Blk X scope fun Y => PTs Y ifs tt) (he : Blk X scope fun Y => PE Y elt (TEv X.K T B WF (ev C e))) (hs : ∀ x, foldedSetIterable iter X.env x = pure x) :
    PS X (.Assign [.Name y py] (.ListComp elt [⟨tg, iter, ifs, 0⟩] scope pos) spos) (TSv X.K T B W (exS C (.set i ow (.lc (own.map (·.2)) p it t e)))) :=
  ps_weak (ps_setLc hc hN hy hyl hsw hi ok hg ht he hs) fun Dn σ H q => tAsg_mono (set_read q) fun σ H Q q => lc_read hp htt q
theorem psm_setLc2 (hc : X.calm = true) (hN : X.N.Nodup) (hy : X.N[i]? = some y) (hyl : X.env.scope.names.lookup y = some .local) (hsw : swapsWith (.ListComp elt [⟨tg, iter, ifs, 0⟩, ⟨tg1, iter1, ifs1, 0⟩] scope pos) (some (.Name y py)) spos.line X.env = pure true)
    (hi : PI X tg iter (TIv X.K T B W (evIt C it))) (ok : BlkOk X.N X.env.scope scope own) (hp : ∀ i ∈ slotsP p, i ∈ own.map (·.2)) (hp1 : ∀ i ∈ slotsP p1, i ∈ own.map (·.2)) (htt : ∀ σ H Q, TTv X.K T B WF (evT C t) σ H Q → tt σ H Q) (htt1 : ∀ σ H Q, TTv X.K T B WF (evT C t1) σ H Q → tt1 σ H Q)
    (hg : Blk X scope fun Y => PG Y tg (gPt X.K T B p)) (ht : Blk X scope fun Y => PTs Y ifs tt) (hi1 : Blk X scope fun Y => PI Y tg1 iter1 (TIv X.K T B WF (evIt C it1))) (hg1 : Blk X scope fun Y => PG Y tg1 (gPt X.K T B p1)) (ht1 : Blk X scope fun Y => PTs Y ifs1 tt1)
    (he : Blk X scope fun Y => PE Y elt (TEv X.K T B WF (ev C e))) (hs : ∀ x, foldedSetIterable iter X.env x = pure x) (hs1 : ∀ env x, foldedSetIterable iter1 env x = pure x) :
    PS X (.Assign [.Name y py] (.ListComp elt [⟨tg, iter, ifs, 0⟩, ⟨tg1, iter1, ifs1, 0⟩] scope pos) spos) (TSv X.K T B W (exS C (.set i ow (.lc2 (own.map (·.2)) p it t p1 it1 t1 e)))) :=
  ps_weak (ps_setLc2 hc hN hy hyl hsw hi ok hp1 hg ht hi1 hg1 ht1 he hs hs1) fun Dn σ H q => tAsg_mono (set_read q) fun σ H Q q => lc2_read hp hp1 htt htt1 q
end
end Mi
set_option maxRecDepth 100000
set_option maxHeartbeats 2000000
namespace Mi
open PySem L2 PySem.Spec PyProof.Rows
abbrev vSt (vs : List V) : L2.St := vs.map some
/-- what a def promises -/
def spF (K : PySem.W.Frag) (T : Addr → Prop) (cl : Nat → Value) (run : List (D × Bool) → DO) : Sp := fun vs H Q E => ∃ (Mc : Addr → Prop) (args : List (D × Bool)), Rel K T Mc (fun a => H a ≠ none) (startA args) (vSt vs) H ∧ match run args with
  | .ok d own outs => ∀ v H', Fre (startA args) (vSt vs) H H' → RtV K T Mc (fun a => H a ≠ none) (endA args outs) (vSt vs) H' d own v → Q v H'
  | .ex c outs => ∀ H', Fre (startA args) (vSt vs) H H' → Rel K T Mc (fun a => H a ≠ none) (endA args outs) (vSt vs) H' → E (cl c) none H'
  | .bad => False
def WCof (cl : Nat → Value) (Wx : WX) : WC := fun c σ H => Wx (cl c) none σ H
section
variable {K : PySem.W.Frag} {T M B : Addr → Prop} {env env1 e1 e2 : En} {σ : L2.St} {H H1 H' : Hp} {N N' : Addr → Prop}
theorem spF_len {cl : Nat → Value} {run : List (D × Bool) → DO} {n : Nat} (hn : ∀ args, run args ≠ .bad → args.length = n) : ∀ vs H Q E, spF K T cl run vs H Q E → vs.length = n := by
  rintro vs H Q E ⟨Mc, args, r, h⟩
  have := r.len
  simp only [startA, List.length_map] at this
  rw [← this]
  exact hn args fun z => by rw [z] at h; exact h
/-! ### the arguments -/
theorem argD_cons {mt : Nat → Bool} {j : Nat} {r : R} {rs : List R} {args : List (D × Bool)} (h : argD mt env j (r :: rs) = some args) : ∃ a as, arg1 env (mt j) r = some a ∧ argD mt env (j + 1) rs = some as ∧ args = a :: as := by
  simp only [argD] at h
  split at h
  · rename_i a as h1 h2
    cases h
    exact ⟨a, as, h1, h2, rfl⟩
  · cases h
theorem argD_get : ∀ {mt : Nat → Bool} {j : Nat} {rs : List R} {args : List (D × Bool)}, argD mt env j rs = some args → args.length = rs.length ∧ ∀ n r, rs[n]? = some r → ∃ a, args[n]? = some a ∧ arg1 env (mt (j + n)) r = some a
  | mt, j, [], args, h => by cases h; exact ⟨rfl, fun n r e => by simp at e⟩
  | mt, j, r :: rs, args, h => by
    obtain ⟨a, as, h1, h2, rfl⟩ := argD_cons h
    obtain ⟨l, g⟩ := argD_get h2
    refine ⟨by simp [l], fun n r' e => ?_⟩
    cases n with
    | zero => simp at e; subst e; exact ⟨a, rfl, h1⟩
    | succ n =>
      simp at e
      obtain ⟨a', e1, e2⟩ := g n r' e
      exact ⟨a', by simpa using e1, by rw [show j + (n + 1) = j + 1 + n by omega]; exact e2⟩
theorem RVs.get {rs : List R} {vs : List V} {P : List Addr} (q : RVs K H N σ rs vs P) : ∀ {n : Nat} {r : R} {v : V}, rs[n]? = some r → vs[n]? = some v → (∃ d, r = .v d ∧ DR K H N v d) ∨ (∃ d p, r = .o d ∧ v = .ref p ∧ p ∈ P ∧ Ob K H N p d) ∨ ∃ i, r = .s i ∧ σ[i]? = some (some v) := by
  induction q with
  | nil => intro n r v e; simp at e
  | v h t ih =>
    intro n r v e e'
    cases n with
    | zero => simp at e e'; subst e e'; exact .inl ⟨_, rfl, h⟩
    | succ n => exact ih (by simpa using e) (by simpa using e')
  | o h t ih =>
    intro n r v e e'
    cases n with
    | zero => simp at e e'; subst e e'; exact .inr (.inl ⟨_, _, rfl, rfl, by simp, h⟩)
    | succ n =>
      rcases ih (by simpa using e) (by simpa using e') with z | ⟨d, p, z1, z2, z3, z4⟩ | z
      · exact .inl z
      · exact .inr (.inl ⟨d, p, z1, z2, by simp [z3], z4⟩)
      · exact .inr (.inr z)
  | s h t ih =>
    intro n r v e e'
    cases n with
    | zero => simp at e e'; subst e e'; exact .inr (.inr ⟨_, rfl, h⟩)
    | succ n => exact ih (by simpa using e) (by simpa using e')
theorem slotsR_mem : ∀ {rs : List R} {i : Nat}, i ∈ slotsR rs ↔ .s i ∈ rs
  | [], i => by simp [slotsR]
  | .v d :: rs, i => by simp [slotsR, slotsR_mem (rs := rs)]
  | .o d :: rs, i => by simp [slotsR, slotsR_mem (rs := rs)]
  | .s j :: rs, i => by simp [slotsR, slotsR_mem (rs := rs)]
theorem slots_nd : ∀ {rs : List R} {m n i : Nat}, (slotsR rs).Nodup → rs[m]? = some (.s i) → rs[n]? = some (.s i) → m = n
  | [], m, n, i, _, h, _ => by simp at h
  | r :: rs, m, n, i, nd, h, h' => by
    have tl : (slotsR rs).Nodup := by cases r <;> simp [slotsR] at nd <;> first | exact nd | exact nd.2
    cases m with
    | zero =>
      cases n with
      | zero => rfl
      | succ n =>
        simp at h h'
        subst h
        simp only [slotsR, List.nodup_cons] at nd
        exact (nd.1 (slotsR_mem.mpr (List.mem_of_getElem? h'))).elim
    | succ m =>
      cases n with
      | zero =>
        simp at h h'
        subst h'
        simp only [slotsR, List.nodup_cons] at nd
        exact (nd.1 (slotsR_mem.mpr (List.mem_of_getElem? h))).elim
      | succ n => simp at h h'; exact congrArg (· + 1) (slots_nd tl h h')
theorem ioSlots_mem : ∀ {mt : Nat → Bool} {j : Nat} {rs : List R} {n i : Nat}, rs[n]? = some (.s i) → mt (j + n) = true → i ∈ ioSlots mt j rs
  | mt, j, [], n, i, h, _ => by simp at h
  | mt, j, r :: rs, 0, i, h, hm => by
    simp at h; subst h
    simp only [Nat.add_zero] at hm
    simp [ioSlots, hm]
  | mt, j, r :: rs, n + 1, i, h, hm => by
    have := ioSlots_mem (mt := mt) (j := j + 1) (rs := rs) (n := n) (i := i) (by simpa using h) (by rw [← hm]; congr 1; omega)
    cases r with
    | v d => simpa [ioSlots] using this
    | o d => simpa [ioSlots] using this
    | s k =>
      simp only [ioSlots]
      split
      · exact List.mem_cons_of_mem _ this
      · exact this
theorem of_ioSlots : ∀ {mt : Nat → Bool} {j : Nat} {rs : List R} {i : Nat}, i ∈ ioSlots mt j rs → ∃ n, rs[n]? = some (.s i) ∧ mt (j + n) = true
  | mt, j, [], i, h => by simp [ioSlots] at h
  | mt, j, .v d :: rs, i, h => by
    obtain ⟨n, h1, h2⟩ := of_ioSlots (rs := rs) (by simpa [ioSlots] using h)
    exact ⟨n + 1, by simpa using h1, by rw [← h2]; congr 1; omega⟩
  | mt, j, .o d :: rs, i, h => by
    obtain ⟨n, h1, h2⟩ := of_ioSlots (rs := rs) (by simpa [ioSlots] using h)
    exact ⟨n + 1, by simpa using h1, by rw [← h2]; congr 1; omega⟩
  | mt, j, .s k :: rs, i, h => by
    simp only [ioSlots] at h
    split at h
    · rename_i hm
      rcases List.mem_cons.mp h with rfl | h
      · exact ⟨0, rfl, by simpa using hm⟩
      · obtain ⟨n, h1, h2⟩ := of_ioSlots (rs := rs) h
        exact ⟨n + 1, by simpa using h1, by rw [← h2]; congr 1; omega⟩
    · obtain ⟨n, h1, h2⟩ := of_ioSlots (rs := rs) h
      exact ⟨n + 1, by simpa using h1, by rw [← h2]; congr 1; omega⟩
theorem startA_get {args : List (D × Bool)} {n : Nat} {d : D} {k : Kd} (h : (startA args)[n]? = some (some (d, k))) : (k = .fz ∧ args[n]? = some (d, false)) ∨ (k = .io ∧ args[n]? = some (d, true)) := by
  unfold startA at h
  rw [List.getElem?_map] at h
  cases e : args[n]? with
  | none => rw [e] at h; cases h
  | some a =>
    rw [e] at h
    obtain ⟨d', b⟩ := a
    simp at h
    obtain ⟨rfl, rfl⟩ := h
    cases b
    · exact .inl ⟨rfl, rfl⟩
    · exact .inr ⟨rfl, rfl⟩
theorem startA_of {args : List (D × Bool)} {n : Nat} {d : D} {b : Bool} (h : args[n]? = some (d, b)) : (startA args)[n]? = some (some (d, if b then .io else .fz)) := by
  unfold startA
  rw [List.getElem?_map, h]; rfl
theorem vSt_get {vs : List V} {n : Nat} {v : V} (h : (vSt vs)[n]? = some (some v)) : vs[n]? = some v := by
  rw [List.getElem?_map] at h
  cases e : vs[n]? with
  | none => rw [e] at h; cases h
  | some x => rw [e] at h; simpa using h
/-- the avoided set of a callee -/
def McOf (M : Addr → Prop) (env : En) (σ : L2.St) (rs : List R) (a : Addr) : Prop := NS M env σ a ∧ ¬ ∃ i, .s i ∈ rs ∧ σ[i]? = some (some (.ref a))
/-- an argument that a slot lends -/
theorem arg1_io {r : R} {d : D} {m : Bool} (h : arg1 env m r = some (d, true)) : m = true ∧ ∃ i k, r = .s i ∧ env[i]? = some (some (d, k)) ∧ (k = .ow ∨ k = .io) := by
  cases r with
  | v x => simp [arg1] at h
  | o x => simp [arg1] at h
  | s i =>
    simp only [arg1] at h
    split at h
    · rename_i d' k e
      split at h
      · rename_i hm
        split at h
        · rename_i hk
          cases h
          exact ⟨hm, i, k, rfl, e, hk⟩
        · cases h
      · cases h
    · cases h
theorem arg1_fz {r : R} {d : D} {m : Bool} (h : arg1 env m r = some (d, false)) : r = .v d ∨ r = .o d ∨ (m = false ∧ ∃ i k, r = .s i ∧ env[i]? = some (some (d, k))) := by
  cases r with
  | v x => simp [arg1] at h; subst h; exact .inl rfl
  | o x => simp [arg1] at h; subst h; exact .inr (.inl rfl)
  | s i =>
    simp only [arg1] at h
    split at h
    · rename_i d' k e
      split at h
      · split at h <;> cases h
      · rename_i hm
        cases h
        exact .inr (.inr ⟨by simpa using hm, i, k, rfl, e⟩)
    · cases h
/-- where the lent slots stand -/
theorem call_ow {mt : Nat → Bool} {rs : List R} {vs : List V} {P : List Addr} {args : List (D × Bool)} {a : Addr} (qv : RVs K H1 N σ rs vs P) (ha : argD mt e1 0 rs = some args) (h : Ow (startA args) (vSt vs) a) :
    ∃ n i d k, rs[n]? = some (.s i) ∧ mt n = true ∧ args[n]? = some (d, true) ∧ e1[i]? = some (some (d, k)) ∧ (k = .ow ∨ k = .io) ∧ σ[i]? = some (some (.ref a)) ∧ vs[n]? = some (.ref a) := by
  obtain ⟨n, d, k, h1, h2, h3⟩ := h
  rcases startA_get h1 with ⟨z, _⟩ | ⟨rfl, h4⟩
  · exact (h2 z).elim
  · obtain ⟨hl, g⟩ := argD_get ha
    have hn : n < rs.length := by rw [← hl]; exact (List.getElem?_eq_some_iff.mp h4).1
    obtain ⟨a', e1', e2'⟩ := g n rs[n] (List.getElem?_eq_getElem hn)
    rw [h4] at e1'; cases e1'
    rw [Nat.zero_add] at e2'
    obtain ⟨hm, i, k', er, ee, hk⟩ := arg1_io e2'
    have hv := vSt_get h3
    have er' : rs[n]? = some (.s i) := by rw [List.getElem?_eq_getElem hn, er]
    rcases qv.get er' hv with ⟨_, z, _⟩ | ⟨_, _, z, _⟩ | ⟨i', z, hs⟩
    · cases z
    · cases z
    · cases z
      exact ⟨n, i, d, k', er', hm, h4, ee, hk, hs, hv⟩
theorem call_args {mt : Nat → Bool} {rs : List R} {vs : List V} {P : List Addr} {args : List (D × Bool)} (r0 : Rel K T M B env σ H) (r1 : Rel K T (MP M P) B e1 σ H1) (qv : RVs K H1 (NS (MP M P) e1 σ) σ rs vs P) (fr : ∀ p ∈ P, H p = none)
    (ha : argD mt e1 0 rs = some args) (hnd : ioSlots mt 0 rs = [] ∨ (slotsR rs).Nodup) : Rel K T (McOf M e1 σ rs) (fun a => H1 a ≠ none) (startA args) (vSt vs) H1 := by
  obtain ⟨hl, g⟩ := argD_get ha
  have hlv := qv.length
  have nsOf : ∀ a, NS (McOf M e1 σ rs) (startA args) (vSt vs) a → NS M e1 σ a := fun a z => by
    rcases z with z | z
    · exact z.1
    · obtain ⟨n, i, d, k, _, _, _, h4, hk, h5, _⟩ := call_ow qv ha z
      exact .inr ⟨i, d, k, h4, by rcases hk with q | q <;> (subst q; simp), h5⟩
  have nsP : ∀ a, NS (McOf M e1 σ rs) (startA args) (vSt vs) a → NS (MP M P) e1 σ a := fun a z => (nsOf a z).imp .inl id
  have at' : ∀ {n : Nat} {a : D × Bool}, args[n]? = some a → ∃ r v, rs[n]? = some r ∧ vs[n]? = some v ∧ arg1 e1 (mt n) r = some a := fun {n a} h => by
    have hn : n < args.length := (List.getElem?_eq_some_iff.mp h).1
    have hn1 : n < rs.length := by rw [← hl]; exact hn
    have hn2 : n < vs.length := by rw [← hlv]; exact hn1
    obtain ⟨a', e1', e2'⟩ := g n rs[n] (List.getElem?_eq_getElem hn1)
    rw [h] at e1'; cases e1'
    rw [Nat.zero_add] at e2'
    exact ⟨_, _, List.getElem?_eq_getElem hn1, List.getElem?_eq_getElem hn2, e2'⟩
  refine ⟨by simp [startA, hl, hlv], fun n d h => ?_, fun n d k h hk => ?_, fun i j d k d' k' a h1 hk1 h2 hk2 q1 q2 => ?_, fun i d a h _ => ?_, fun a z q => ?_, fun a z => r1.ns_some (z.1.imp .inl id), fun a z => z, r1.tb⟩
  · rcases startA_get h with ⟨_, h4⟩ | ⟨z, _⟩
    · obtain ⟨r, v, er, ev, e⟩ := at' h4
      refine ⟨v, by rw [List.getElem?_map, ev]; rfl, ?_⟩
      rcases arg1_fz e with rfl | rfl | ⟨hm, i, k, rfl, ei⟩
      · rcases qv.get er ev with ⟨_, z, hd⟩ | ⟨_, _, z, _⟩ | ⟨_, z, _⟩
        · cases z; exact hd.anti nsP
        · cases z
        · cases z
      · rcases qv.get er ev with ⟨_, z, _⟩ | ⟨_, p, z, rfl, hp, ho⟩ | ⟨_, z, _⟩
        · cases z
        · cases z
          refine ho.dr nsP fun q => ?_
          rcases nsOf _ q with z | z
          · exact r0.dm p z (fr p hp)
          · exact r1.od p z (.inr hp)
        · cases z
      · rcases qv.get er ev with ⟨_, z, _⟩ | ⟨_, _, z, _⟩ | ⟨i', z, hs⟩
        · cases z
        · cases z
        · cases z
          by_cases hk : k = .fz
          · subst hk
            obtain ⟨v', g1, g2⟩ := r1.fz i d ei
            rw [hs] at g1; cases g1
            exact g2.anti nsP
          · obtain ⟨a, g1, g2⟩ := r1.ow i d k ei hk
            rw [hs] at g1; cases g1
            refine g2.dr nsP fun q => ?_
            rcases q with q | q
            · exact q.2 ⟨i, List.mem_of_getElem? er, hs⟩
            · obtain ⟨n', i', d', k', f1, f2, _, f3, f4, f5, _⟩ := call_ow qv ha q
              have : i = i' := r1.dis i i' d k d' k' a ei hk f3 (by rcases f4 with q | q <;> (subst q; simp)) hs f5
              subst this
              rcases hnd with hnd | hnd
              · have := ioSlots_mem (mt := mt) (j := 0) f1 (by rw [Nat.zero_add]; exact f2)
                rw [hnd] at this; cases this
              · have := slots_nd hnd er f1
                subst this
                rw [hm] at f2; cases f2
    · cases z
  · obtain ⟨_, h4⟩ | ⟨rfl, h4⟩ := startA_get h
    · exact (hk ‹_›).elim
    · obtain ⟨r, v, er, ev, e⟩ := at' h4
      obtain ⟨hm, i, k', rfl, ei, hk'⟩ := arg1_io e
      rcases qv.get er ev with ⟨_, z, _⟩ | ⟨_, _, z, _⟩ | ⟨i', z, hs⟩
      · cases z
      · cases z
      · cases z
        obtain ⟨a, g1, g2⟩ := r1.ow i d k' ei (by rcases hk' with q | q <;> (subst q; simp))
        rw [hs] at g1; cases g1
        exact ⟨a, by rw [List.getElem?_map, ev]; rfl, g2.step (Kp.refl _ _) (fun x z => .inl (nsP x z)) fun _ z => z⟩
  · have f1 : ∀ {n : Nat} {d : D} {k : Kd}, (startA args)[n]? = some (some (d, k)) → k ≠ .fz → (vSt vs)[n]? = some (some (.ref a)) → ∃ i k', rs[n]? = some (.s i) ∧ mt n = true ∧ e1[i]? = some (some (d, k')) ∧ k' ≠ .fz ∧ σ[i]? = some (some (.ref a)) := fun {n d k} h hk hq => by
      obtain ⟨z, _⟩ | ⟨rfl, h4⟩ := startA_get h
      · exact (hk z).elim
      · obtain ⟨r, v, er, ev, e⟩ := at' h4
        obtain ⟨hm, i, k', rfl, ei, hk'⟩ := arg1_io e
        have := vSt_get hq
        rw [ev] at this; cases this
        rcases qv.get er ev with ⟨_, z, _⟩ | ⟨_, _, z, _⟩ | ⟨i', z, hs⟩
        · cases z
        · cases z
        · cases z
          exact ⟨i, k', er, hm, ei, by rcases hk' with q | q <;> (subst q; simp), hs⟩
    obtain ⟨i1, k1, a1, b1, c1, d1, s1⟩ := f1 h1 hk1 q1
    obtain ⟨i2, k2, a2, b2, c2, d2, s2⟩ := f1 h2 hk2 q2
    have : i1 = i2 := r1.dis i1 i2 _ k1 _ k2 a c1 d1 c2 d2 s1 s2
    subst this
    rcases hnd with hnd | hnd
    · have := ioSlots_mem (mt := mt) (j := 0) a1 (by rw [Nat.zero_add]; exact b1)
      rw [hnd] at this; cases this
    · exact slots_nd hnd a1 a2
  · obtain ⟨z, _⟩ | ⟨z, _⟩ := startA_get h <;> cases z
  · obtain ⟨n, i, d, k, f1, _, _, _, _, f5, _⟩ := call_ow qv ha z
    exact q.2 ⟨i, List.mem_of_getElem? f1, f5⟩
theorem backIo_get : ∀ {mt : Nat → Bool} {j : Nat} {rs : List R} {outs : List D} {e e2 : En}, (slotsR rs).Nodup ∨ ioSlots mt j rs = [] → backIo mt j rs outs e = some e2 →
    e2.length = e.length ∧ (∀ i, i ∉ ioSlots mt j rs → e2[i]? = e[i]?) ∧ ∀ n i, rs[n]? = some (.s i) → mt (j + n) = true → ∃ d d0 k, outs[n]? = some d ∧ e[i]? = some (some (d0, k)) ∧ e2[i]? = some (some (d, k))
  | mt, j, [], outs, e, e2, nd, h => by
    cases outs with
    | nil => cases h; exact ⟨rfl, fun _ _ => rfl, fun n i z => by simp at z⟩
    | cons d ds => simp [backIo] at h
  | mt, j, .v x :: rs, outs, e, e2, nd, h => by
    cases outs with
    | nil => simp [backIo] at h
    | cons d ds =>
      obtain ⟨l, a, b⟩ := backIo_get (mt := mt) (j := j + 1) (rs := rs) (by simpa [slotsR, ioSlots] using nd) (by simpa [backIo] using h)
      refine ⟨l, by simpa [ioSlots] using a, fun n i z hm => ?_⟩
      cases n with
      | zero => simp at z
      | succ n => simpa using b n i (by simpa using z) (by rw [← hm]; congr 1; omega)
  | mt, j, .o x :: rs, outs, e, e2, nd, h => by
    cases outs with
    | nil => simp [backIo] at h
    | cons d ds =>
      obtain ⟨l, a, b⟩ := backIo_get (mt := mt) (j := j + 1) (rs := rs) (by simpa [slotsR, ioSlots] using nd) (by simpa [backIo] using h)
      refine ⟨l, by simpa [ioSlots] using a, fun n i z hm => ?_⟩
      cases n with
      | zero => simp at z
      | succ n => simpa using b n i (by simpa using z) (by rw [← hm]; congr 1; omega)
  | mt, j, .s k :: rs, outs, e, e2, nd, h => by
    cases outs with
    | nil => simp [backIo] at h
    | cons d ds =>
      simp only [backIo] at h
      split at h
      · rename_i hm
        split at h
        · rename_i d0 kd ek
          have nd1 : (slotsR (.s k :: rs)).Nodup := by
            rcases nd with z | z
            · exact z
            · simp [ioSlots, hm] at z
          have hk : k ∉ slotsR rs := (List.nodup_cons.mp nd1).1
          have hkl : k < e.length := (List.getElem?_eq_some_iff.mp ek).1
          obtain ⟨l, a, b⟩ := backIo_get (mt := mt) (j := j + 1) (rs := rs) (.inl (List.nodup_cons.mp nd1).2) h
          have nio : k ∉ ioSlots mt (j + 1) rs := fun z => by
            obtain ⟨n, z1, _⟩ := of_ioSlots z
            exact hk (slotsR_mem.mpr (List.mem_of_getElem? z1))
          refine ⟨by rw [l]; simp, fun i hi => ?_, fun n i z hm' => ?_⟩
          · simp only [ioSlots, hm, if_true, List.mem_cons, not_or] at hi
            rw [a i hi.2, get_set_ne hi.1]
          · cases n with
            | zero =>
              simp at z; subst z
              exact ⟨d, d0, kd, rfl, ek, by rw [a k nio, get_set_self hkl]⟩
            | succ n =>
              have z' : rs[n]? = some (.s i) := by simpa using z
              have hik : i ≠ k := fun q => by subst q; exact hk (slotsR_mem.mpr (List.mem_of_getElem? z'))
              obtain ⟨d', d0', k', b1, b2, b3⟩ := b n i z' (by rw [← hm']; congr 1; omega)
              rw [get_set_ne hik] at b2
              exact ⟨d', d0', k', by simpa using b1, b2, b3⟩
        · cases h
      · rename_i hm
        have nd' : (slotsR rs).Nodup ∨ ioSlots mt (j + 1) rs = [] := by
          rcases nd with z | z
          · exact .inl (List.nodup_cons.mp z).2
          · exact .inr (by simpa [ioSlots, hm] using z)
        obtain ⟨l, a, b⟩ := backIo_get (mt := mt) (j := j + 1) (rs := rs) nd' h
        refine ⟨l, fun i hi => a i (by simpa [ioSlots, hm] using hi), fun n i z hm' => ?_⟩
        cases n with
        | zero => simp at hm'; exact (hm hm').elim
        | succ n => simpa using b n i (by simpa using z) (by rw [← hm']; congr 1; omega)
theorem endA_get : ∀ {args : List (D × Bool)} {outs : List D} {n : Nat} {d : D} {k : Kd}, (endA args outs)[n]? = some (some (d, k)) → k = .io ∧ outs[n]? = some d ∧ ∃ d0, args[n]? = some (d0, true)
  | [], outs, n, d, k, h => by cases outs <;> simp [endA] at h
  | (x, true) :: args, [], n, d, k, h => by simp [endA] at h
  | (x, false) :: args, [], n, d, k, h => by simp [endA] at h
  | (x, true) :: args, y :: outs, n, d, k, h => by
    cases n with
    | zero => simp [endA] at h; obtain ⟨rfl, rfl⟩ := h; exact ⟨rfl, rfl, x, rfl⟩
    | succ n =>
      simp [endA] at h
      obtain ⟨a, b, c⟩ := endA_get h
      exact ⟨a, by simpa using b, by simpa using c⟩
  | (x, false) :: args, y :: outs, n, d, k, h => by
    cases n with
    | zero => simp [endA] at h
    | succ n =>
      simp [endA] at h
      obtain ⟨a, b, c⟩ := endA_get h
      exact ⟨a, by simpa using b, by simpa using c⟩
theorem endA_of : ∀ {args : List (D × Bool)} {outs : List D} {n : Nat} {d d0 : D}, args[n]? = some (d0, true) → outs[n]? = some d → (endA args outs)[n]? = some (some (d, .io))
  | [], outs, n, d, d0, h, _ => by simp at h
  | (x, b) :: args, [], n, d, d0, h, h' => by simp at h'
  | (x, true) :: args, y :: outs, n, d, d0, h, h' => by
    cases n with
    | zero => simp at h'; subst h'; rfl
    | succ n => simpa [endA] using endA_of (args := args) (outs := outs) (n := n) (by simpa using h) (by simpa using h')
  | (x, false) :: args, y :: outs, n, d, d0, h, h' => by
    cases n with
    | zero => simp at h
    | succ n => simpa [endA] using endA_of (args := args) (outs := outs) (n := n) (by simpa using h) (by simpa using h')
theorem outsPl_get : ∀ {args : List (D × Bool)} {outs : List D} {n : Nat} {d d0 : D}, outsPl args outs = true → args[n]? = some (d0, true) → outs[n]? = some d → plain1 d = true
  | [], outs, n, d, d0, _, h, _ => by simp at h
  | (x, b) :: args, [], n, d, d0, _, h, h' => by simp at h'
  | (x, true) :: args, y :: outs, n, d, d0, hp, h, h' => by
    simp only [outsPl, Bool.and_eq_true] at hp
    cases n with
    | zero => simp at h'; subst h'; exact hp.1
    | succ n => exact outsPl_get hp.2 (by simpa using h) (by simpa using h')
  | (x, false) :: args, y :: outs, n, d, d0, hp, h, h' => by
    simp only [outsPl] at hp
    cases n with
    | zero => simp at h
    | succ n => exact outsPl_get hp (by simpa using h) (by simpa using h')
theorem Ob.plain {p : Addr} {d : D} (hp : plain1 d = true) (h : Ob K H N p d) : Ob K H N' p d := by
  cases d <;> first | exact h.elim | skip
  obtain ⟨xs, h1, h2⟩ := h
  exact ⟨xs, h1, h2.plain hp⟩
theorem borrows_no : ∀ {mt : Nat → Bool} {j : Nat} {rs : List R} {n i : Nat}, borrows mt j rs = false → rs[n]? = some (.s i) → mt (j + n) = true
  | mt, j, [], n, i, _, h => by simp at h
  | mt, j, .v x :: rs, n, i, hb, h => by
    cases n with
    | zero => simp at h
    | succ n => have := borrows_no (mt := mt) (j := j + 1) (rs := rs) (n := n) (i := i) (by simpa [borrows] using hb) (by simpa using h); rw [← this]; congr 1; omega
  | mt, j, .o x :: rs, n, i, hb, h => by
    cases n with
    | zero => simp at h
    | succ n => have := borrows_no (mt := mt) (j := j + 1) (rs := rs) (n := n) (i := i) (by simpa [borrows] using hb) (by simpa using h); rw [← this]; congr 1; omega
  | mt, j, .s x :: rs, n, i, hb, h => by
    simp only [borrows, Bool.or_eq_false_iff, Bool.not_eq_false'] at hb
    cases n with
    | zero => simpa using hb.1
    | succ n => have := borrows_no (mt := mt) (j := j + 1) (rs := rs) (n := n) (i := i) hb.2 (by simpa using h); rw [← this]; congr 1; omega
/-- the state behind a call; Q: the new result -/
theorem call_end {mt : Nat → Bool} {rs : List R} {vs : List V} {P Q : List Addr} {args : List (D × Bool)} {outs : List D} (r0 : Rel K T M B env σ H) (f1 : Fre env σ H H1) (s1 : Sub env e1) (r1 : Rel K T (MP M P) B e1 σ H1) (qv : RVs K H1 (NS (MP M P) e1 σ) σ rs vs P)
    (ha : argD mt e1 0 rs = some args) (hnd : ioSlots mt 0 rs = [] ∨ (slotsR rs).Nodup) (hb : backIo mt 0 rs outs e1 = some e2) (hpl : borrows mt 0 rs = false ∨ outsPl args outs = true)
    (fc : Fre (startA args) (vSt vs) H1 H') (rc : Rel K T (MP (McOf M e1 σ rs) Q) (fun a => H1 a ≠ none) (endA args outs) (vSt vs) H') (hQ : ∀ p ∈ Q, H1 p = none) :
    Fre env σ H H' ∧ Sub env e2 ∧ Rel K T (MP M Q) B e2 σ H' ∧ (borrows mt 0 rs = false → ∀ a, NS (MP M Q) e2 σ a → NS (MP (McOf M e1 σ rs) Q) (endA args outs) (vSt vs) a) := by
  obtain ⟨bl, bo, bi⟩ := backIo_get (hnd.symm) hb
  have hlv := qv.length
  obtain ⟨hl, g⟩ := argD_get ha
  have h1n : ∀ {a}, H1 a = none → H a = none := fun {a} z => by
    cases q : H a with
    | none => rfl
    | some o => exact absurd z (f1.dm a (by rw [q]; simp))
  -- the lent addresses are owned by the caller
  have owS : ∀ a, Ow (startA args) (vSt vs) a → Ow e1 σ a := fun a z => by
    obtain ⟨n, i, d, k, _, _, _, h4, hk, h5, _⟩ := call_ow qv ha z
    exact ⟨i, d, k, h4, by rcases hk with q | q <;> (subst q; simp), h5⟩
  -- an io slot
  have iosl : ∀ {i : Nat}, i ∈ ioSlots mt 0 rs → ∃ n d0 d k, rs[n]? = some (.s i) ∧ mt n = true ∧ args[n]? = some (d0, true) ∧ outs[n]? = some d ∧ e1[i]? = some (some (d0, k)) ∧ (k = .ow ∨ k = .io) ∧ e2[i]? = some (some (d, k)) := fun {i} hi => by
    obtain ⟨n, h1, h2⟩ := of_ioSlots hi
    obtain ⟨d, d0, k, h3, h4, h5⟩ := bi n i h1 h2
    rw [Nat.zero_add] at h2
    obtain ⟨a', e1', e2'⟩ := g n _ h1
    rw [Nat.zero_add, h2] at e2'
    simp only [arg1, h4, if_true] at e2'
    split at e2'
    · rename_i hk
      cases e2'
      exact ⟨n, d0, d, k, h1, h2, e1', h3, h4, hk, h5⟩
    · cases e2'
  have kinds : ∀ {i : Nat} {d : D} {k : Kd}, e2[i]? = some (some (d, k)) → ∃ d0, e1[i]? = some (some (d0, k)) ∧ (i ∉ ioSlots mt 0 rs → d0 = d) := fun {i d k} h => by
    by_cases hi : i ∈ ioSlots mt 0 rs
    · obtain ⟨n, d0, d', k', _, _, _, _, h5, _, h7⟩ := iosl hi
      rw [h] at h7; cases h7
      exact ⟨d0, h5, fun z => (z hi).elim⟩
    · rw [bo i hi] at h
      exact ⟨d, h, fun _ => rfl⟩
  have ow2 : ∀ a, Ow e2 σ a → Ow e1 σ a := fun a ⟨i, d, k, h1, h2, h3⟩ => by
    obtain ⟨d0, e, _⟩ := kinds h1
    exact ⟨i, d0, k, e, h2, h3⟩
  have hn : ∀ a, NS (MP M Q) e2 σ a → NS (MP M P) e1 σ a ∨ H1 a = none := fun a z => by
    rcases NS_MP z with (z | z) | z
    · exact .inl (.inl (.inl z))
    · exact .inl (.inr (ow2 a z))
    · exact .inr (hQ a z)
  have kp : Kp (NS (MP M P) e1 σ) H1 H' := by
    refine ⟨fun a xs h n => fc.kp a _ h (fun q => n (.inr (owS a q))) (fun ps => by simp), fun a xs h => fc.kp a _ h (fun q => ?_) (fun ps => by simp), fun a o u h => fc.kp a _ h (fun q => ?_) (fun ps => by simp)⟩
    · obtain ⟨ys, e⟩ := r1.owlst (owS a q)
      rw [h] at e; cases e
    · obtain ⟨ys, e⟩ := r1.owlst (owS a q)
      rw [h] at e; cases e
  have nb : borrows mt 0 rs = false → ∀ a, NS (MP M Q) e2 σ a → NS (MP (McOf M e1 σ rs) Q) (endA args outs) (vSt vs) a := fun hbr a z => by
    rcases NS_MP z with z | z
    · have z1 : NS M e1 σ a := z.imp id (ow2 a)
      by_cases hx : ∃ i, .s i ∈ rs ∧ σ[i]? = some (some (.ref a))
      · obtain ⟨i, hi, hs⟩ := hx
        obtain ⟨n, hn, en⟩ := List.getElem_of_mem hi
        have er : rs[n]? = some (.s i) := by rw [List.getElem?_eq_getElem hn, en]
        have hm := borrows_no hbr er
        rw [Nat.zero_add] at hm
        obtain ⟨n', d0, d, k, h1, h2, h3, h4, _⟩ := iosl (ioSlots_mem (mt := mt) (j := 0) er (by rw [Nat.zero_add]; exact hm))
        have hv : n' < vs.length := by rw [← hlv]; exact (List.getElem?_eq_some_iff.mp h1).1
        have ev : vs[n']? = some vs[n'] := List.getElem?_eq_getElem hv
        rcases qv.get h1 ev with ⟨_, q, _⟩ | ⟨_, _, q, _⟩ | ⟨i', q, hs'⟩
        · cases q
        · cases q
        · cases q
          rw [hs] at hs'
          refine .inr ⟨n', d, .io, endA_of h3 h4, by simp, ?_⟩
          rw [List.getElem?_map, ev]
          exact hs'.symm
      · exact .inl (.inl ⟨z1, hx⟩)
    · exact .inl (.inr z)
  refine ⟨⟨fun a o h hna ht => fc.kp a o (f1.kp a o h hna ht) (fun q => hna (s1.ow (owS a q))) ht, fun a h => fc.dm a (f1.dm a h)⟩, ⟨bl.trans s1.1, fun i d' k h hk => ?_⟩, ⟨bl.trans r1.len, fun i d h => ?_, fun i d k h hk => ?_, fun i j d k d' k' a h1 hk1 h2 hk2 q1 q2 => ?_, fun i d a h q => ?_, fun a z q => ?_, fun a z => ?_, fun a z => fc.dm a (r1.db a z), rc.tb⟩, nb⟩
  · obtain ⟨d0, e, hd⟩ := kinds h
    obtain ⟨d9, e9, l9⟩ := s1.2 i d0 k e hk
    refine ⟨d9, e9, fun z => (l9 z).trans (hd fun hi => ?_)⟩
    obtain ⟨_, _, _, k', _, _, _, _, h5, hk', h7⟩ := iosl hi
    rw [h] at h7; cases h7
    rcases hk' with q | q <;> (subst q; cases z)
  · have hi : i ∉ ioSlots mt 0 rs := fun hi => by
      obtain ⟨_, _, _, k', _, _, _, _, _, hk', h7⟩ := iosl hi
      rw [h] at h7; cases h7
      rcases hk' with q | q <;> cases q
    rw [bo i hi] at h
    obtain ⟨v, q1, q2⟩ := r1.fz i d h
    exact ⟨v, q1, q2.step kp hn⟩
  · by_cases hi : i ∈ ioSlots mt 0 rs
    · obtain ⟨n, d0, d', k', h1, h2, h3, h4, h5, hk', h7⟩ := iosl hi
      rw [h] at h7; cases h7
      obtain ⟨a, q1, q2⟩ := rc.ow n d .io (endA_of h3 h4) (by simp)
      have ev := vSt_get q1
      rcases qv.get h1 ev with ⟨_, z, _⟩ | ⟨_, _, z, _⟩ | ⟨i', z, hs⟩
      · cases z
      · cases z
      · cases z
        refine ⟨a, hs, ?_⟩
        rcases hpl with hpl | hpl
        · exact q2.step (Kp.refl _ _) (fun x z => .inl (nb hpl x z)) fun _ z => z
        · exact q2.plain (outsPl_get hpl h3 h4)
    · have h' := h
      rw [bo i hi] at h'
      obtain ⟨a, q1, q2⟩ := r1.ow i d k h' hk
      obtain ⟨ys, e⟩ := r1.owlst ⟨i, d, k, h', hk, q1⟩
      refine ⟨a, q1, q2.step kp hn fun o z => ?_⟩
      rw [e] at z; cases z
      refine fc.kp a _ e (fun q => hi ?_) fun ps z => by cases z
      obtain ⟨n', i', d', k', f1', f2, _, f3, f4, f5, _⟩ := call_ow qv ha q
      have : i = i' := r1.dis i i' d k d' k' a h' hk f3 (by rcases f4 with q | q <;> (subst q; simp)) q1 f5
      subst this
      exact ioSlots_mem (mt := mt) (j := 0) f1' (by rw [Nat.zero_add]; exact f2)
  · obtain ⟨d1, e1', _⟩ := kinds h1
    obtain ⟨d2, e2', _⟩ := kinds h2
    exact r1.dis i j d1 k d2 k' a e1' hk1 e2' hk2 q1 q2
  · obtain ⟨d1, e1', _⟩ := kinds h
    exact r1.fr i d1 a e1' q
  · rcases q with q | q
    · exact r1.od a (ow2 a z) (.inl q)
    · obtain ⟨ys, e⟩ := r1.owlst (ow2 a z)
      rw [hQ a q] at e; cases e
  · rcases z with z | z
    · exact fc.dm a (r1.dm a (.inl z))
    · exact rc.dm a (.inr z)
end
section
variable {X : Cx} {T B : Addr → Prop} {Wx : WX} {C : Den} {cl : Nat → Value}
/-- a call's reading -/
theorem call_read {f : Nat} {as : As} {σ : L2.St} {H : Hp} {Q : VK} (q : TEv X.K T B (WCof cl Wx) (ev C (.call f as)) σ H Q) : tCallS (spF X.K T cl (C.run f)) (WE Wx) (TAv X.K T B (WCof cl Wx) (evAs C as)) σ H Q := by
  obtain ⟨env, M, r0, q⟩ := q
  rw [ev] at q
  refine ⟨env, M, r0, ?_⟩
  unfold OutA
  cases ex : evAs C as env with
  | bad => rw [ex] at q; exact q
  | ex c e1 => rw [ex] at q; exact q
  | ok rs e1 =>
    rw [ex] at q
    simp only [O.bind_ok] at q
    intro vs H1 h
    obtain ⟨f1, s1, P, qv, r1, nd, fr⟩ := h
    unfold callO at q
    split at q
    · exact q.elim
    · rename_i args ha
      split at q
      case isFalse => exact q.elim
      case isTrue hnd =>
        refine ⟨McOf M e1 σ rs, args, call_args r0 r1 qv fr ha hnd, ?_⟩
        split at q
        · rename_i d own outs er
          try rw [er]
          split at q
          · rename_i e2 hb
            split at q
            case isFalse => exact q.elim
            case isTrue hpl =>
              intro v H' fc rt
              have hpl1 : borrows (C.mt f) 0 rs = false ∨ outsPl args outs = true := hpl.imp id And.right
              unfold RtV at rt
              split at rt
              · rename_i ho
                subst ho
                obtain ⟨p, rfl, n1, n2, rc, ob⟩ := rt
                have hp : H1 p = none := by
                  cases z : H1 p with
                  | none => rfl
                  | some o => exact absurd (show H1 p ≠ none by rw [z]; simp) n2
                obtain ⟨f2, s2, r2, nb⟩ := call_end (Q := [p]) r0 f1 s1 r1 qv ha hnd hb hpl1 fc rc fun a ha => by rw [List.mem_singleton.mp ha]; exact hp
                have hpH : H p = none := by
                  cases z : H p with
                  | none => rfl
                  | some o => exact absurd hp (f1.dm p (by rw [z]; simp))
                refine q _ H' ⟨f2, s2, [p], .o ?_ .nil, r2, by simp, fun a ha => by rw [List.mem_singleton.mp ha]; exact hpH⟩
                rcases hpl with hbr | ⟨hp1, _⟩
                · exact ob.step (Kp.refl _ _) (fun x z => .inl (nb hbr x z)) fun _ z => z
                · exact ob.plain hp1
              · rename_i ho
                obtain rfl : own = false := by cases own <;> simp at ho ⊢
                obtain ⟨rc, hd⟩ := rt
                have rc' : Rel X.K T (MP (McOf M e1 σ rs) []) (fun a => H1 a ≠ none) (endA args outs) (vSt vs) H' := by rw [MP_nil]; exact rc
                obtain ⟨f2, s2, r2, nb⟩ := call_end (Q := []) r0 f1 s1 r1 qv ha hnd hb hpl1 fc rc' fun a ha => nomatch ha
                refine q _ H' ⟨f2, s2, [], .v ?_ .nil, r2, .nil, fun a ha => nomatch ha⟩
                rw [MP_nil] at nb ⊢
                rcases hpl with hbr | ⟨hp1, _⟩
                · exact hd.anti fun x z => by have := nb hbr x z; rw [MP_nil] at this; exact this
                · exact hd.plain hp1
          · exact q.elim
        · rename_i c outs er
          try rw [er]
          split at q
          · rename_i e2 hb
            split at q
            case isFalse => exact q.elim
            case isTrue hpl =>
              intro H' fc rc
              have rc' : Rel X.K T (MP (McOf M e1 σ rs) []) (fun a => H1 a ≠ none) (endA args outs) (vSt vs) H' := by rw [MP_nil]; exact rc
              obtain ⟨f2, s2, r2, nb⟩ := call_end (Q := []) r0 f1 s1 r1 qv ha hnd hb hpl fc rc' fun a ha => nomatch ha
              rw [MP_nil] at r2
              exact q H' f2 s2 r2
          · exact q.elim
        · exact q.elim
end
end Mi
set_option maxRecDepth 100000
set_option maxHeartbeats 2000000
namespace Mi
open PySem L2 PySem.Spec PyProof.Rows
def stL : List Nat → List V → L2.St → L2.St
  | i :: is, v :: vs, σ => stL is vs (σ.set i (some v))
  | _, _, σ => σ
section
variable (K : PySem.W.Frag) (M B : Addr → Prop) (H : Hp) (N : Addr → Prop)
/-- values to be stored, those that become own at Q -/
inductive Pr : List V → List (D × Kd) → List Addr → Prop
  | nil : Pr [] [] []
  | fz {v : V} {d : D} {vs : List V} {ds : List (D × Kd)} {Q : List Addr} : DR K H N v d → Pr vs ds Q → Pr (v :: vs) ((d, .fz) :: ds) Q
  | ow {p : Addr} {d : D} {vs : List V} {ds : List (D × Kd)} {Q : List Addr} : Ob K H N p d → ¬ M p → ¬ B p → p ∉ Q → Pr vs ds Q → Pr (.ref p :: vs) ((d, .ow) :: ds) (p :: Q)
end
section
variable {K : PySem.W.Frag} {T M B : Addr → Prop} {env env1 env' e2 : En} {σ : L2.St} {H H1 : Hp} {N N' : Addr → Prop}
theorem Pr.anti {vs : List V} {ds : List (D × Kd)} {Q : List Addr} (h : Pr K M B H N vs ds Q) (hn : ∀ a, N' a → N a) : Pr K M B H N' vs ds Q := by
  induction h with
  | nil => exact .nil
  | fz a _ ih => exact .fz (a.anti hn) ih
  | ow a b c d _ ih => exact .ow (a.step (Kp.refl _ _) (fun x z => .inl (hn x z)) fun _ z => z) b c d ih
theorem MP_cons {p : Addr} {Q : List Addr} {a : Addr} : MP M (p :: Q) a ↔ MP (MP M Q) [p] a := by
  simp only [MP, List.mem_cons, List.mem_singleton, List.not_mem_nil, or_false]
  constructor
  · rintro (h | h | h)
    · exact .inl (.inl h)
    · exact .inr h
    · exact .inl (.inr h)
  · rintro ((h | h) | h)
    · exact .inl h
    · exact .inr (.inr h)
    · exact .inr (.inl h)
theorem par_store : ∀ {ds : List (D × Kd)} {vs : List V} {Q : List Addr} {is : List Nat} {env : En} {σ : L2.St}, Pr K M B H (NS (MP M Q) env σ) vs ds Q → is.length = vs.length → (∀ i ∈ is, i < env.length) → Rel K T (MP M Q) B env σ H →
    Rel K T M B (setL is ds env) (stL is vs σ) H ∧ (∀ a, Ow (setL is ds env) (stL is vs σ) a → Ow env σ a ∨ a ∈ Q) ∧ (∀ (i : Nat) d k, (setL is ds env)[i]? = some (some (d, k)) → k ≠ .fz → k ≠ .ow → env[i]? = some (some (d, k)) ∧ (stL is vs σ)[i]? = σ[i]?) ∧ (setL is ds env).length = env.length := by
  intro ds
  induction ds with
  | nil =>
    intro vs Q is env σ h hl hi r
    cases h
    cases is with
    | nil =>
      rw [MP_nil] at r
      exact ⟨r, fun a z => .inl z, fun i d k z _ _ => ⟨z, rfl⟩, rfl⟩
    | cons i is => simp at hl
  | cons x ds ih =>
   intro vs Q is env σ h hl hi r
   cases h with
   | @fz v d vs _ Q a t =>
    cases is with
    | nil => simp at hl
    | cons i is =>
      have hil : i < env.length := hi i (by simp)
      have hsl : i < σ.length := by rw [← r.len]; exact hil
      have r2 := r.setFz hil a
      have ow1 : ∀ x, Ow (env.set i (some (d, .fz))) (σ.set i (some v)) x → Ow env σ x := fun x z => (ow_set hil hsl z).elim id fun y => (y.1 rfl).elim
      have t2 := t.anti (N' := NS (MP M Q) (env.set i (some (d, .fz))) (σ.set i (some v))) fun x z => z.imp id (ow1 x)
      obtain ⟨q1, q2, q3, q4⟩ := ih (is := is) (env := env.set i (some (d, .fz))) (σ := σ.set i (some v)) t2 (by simpa using hl) (fun j hj => by simpa using hi j (by simp [hj])) r2
      refine ⟨q1, fun x z => (q2 x z).imp (ow1 x) id, fun j d' k z k1 k2 => ?_, by rw [show setL (i :: is) ((d, .fz) :: ds) env = setL is ds (env.set i (some (d, .fz))) from rfl, q4]; simp⟩
      obtain ⟨g1, g2⟩ := q3 j d' k z k1 k2
      have ej : j ≠ i := fun y => by subst y; rw [get_set_self hil] at g1; cases g1; exact k1 rfl
      rw [get_set_ne ej] at g1 g2
      exact ⟨g1, g2⟩
   | @ow p d vs _ Q a hM hB hp t =>
    cases is with
    | nil => simp at hl
    | cons i is =>
      have hil : i < env.length := hi i (by simp)
      have hsl : i < σ.length := by rw [← r.len]; exact hil
      have r' : Rel K T (MP (MP M Q) [p]) B env σ H := r.less fun x z => MP_cons.mpr z
      have hn : ∀ x, NS (MP (MP M Q) [p]) env σ x → NS (MP M (p :: Q)) env σ x := fun x z => z.imp (fun y => MP_cons.mpr y) id
      have r2 := r'.setOw hil (fun z => z.elim hM hp) hB (a.step (Kp.refl _ _) (fun x z => .inl (hn x z)) fun _ z => z)
      have ow1 : ∀ x, Ow (env.set i (some (d, .ow))) (σ.set i (some (.ref p))) x → Ow env σ x ∨ x = p := fun x z => (ow_set hil hsl z).imp id fun y => by cases y.2; rfl
      have t2 := t.anti (N' := NS (MP M Q) (env.set i (some (d, .ow))) (σ.set i (some (.ref p)))) fun x z => by
        rcases z with (z | z) | z
        · exact .inl (.inl z)
        · exact .inl (.inr (by simp [z]))
        · rcases ow1 x z with z | rfl
          · exact .inr z
          · exact .inl (.inr (by simp))
      obtain ⟨q1, q2, q3, q4⟩ := ih (is := is) (env := env.set i (some (d, .ow))) (σ := σ.set i (some (.ref p))) t2 (by simpa using hl) (fun j hj => by simpa using hi j (by simp [hj])) r2
      refine ⟨q1, fun x z => ?_, fun j d' k z k1 k2 => ?_, by rw [show setL (i :: is) ((d, .ow) :: ds) env = setL is ds (env.set i (some (d, .ow))) from rfl, q4]; simp⟩
      · rcases q2 x z with z | z
        · rcases ow1 x z with z | rfl
          · exact .inl z
          · exact .inr (by simp)
        · exact .inr (by simp [z])
      · obtain ⟨g1, g2⟩ := q3 j d' k z k1 k2
        have ej : j ≠ i := fun y => by subst y; rw [get_set_self hil] at g1; cases g1; exact k2 rfl
        rw [get_set_ne ej] at g1 g2
        exact ⟨g1, g2⟩
/-- the addresses that become own -/
def parQ : List (Nat × Bool) → List R → List V → List Addr
  | (_, true) :: is, .o _ :: rs, .ref p :: vs => p :: parQ is rs vs
  | _ :: is, _ :: rs, _ :: vs => parQ is rs vs
  | _, _, _ => []
theorem parQ_sub {rs : List R} {vs : List V} {P : List Addr} (q : RVs K H N σ rs vs P) : ∀ (is : List (Nat × Bool)) (a : Addr), a ∈ parQ is rs vs → a ∈ P := by
  induction q with
  | nil => intro is a h; cases is <;> simp [parQ] at h
  | v h t ih => intro is a h; cases is <;> simp [parQ] at h; exact ih _ a h
  | o h t ih =>
    intro is a h
    cases is with
    | nil => simp [parQ] at h
    | cons i is =>
      obtain ⟨i, b⟩ := i
      cases b
      · simp [parQ] at h; exact List.mem_cons_of_mem _ (ih _ a h)
      · simp [parQ] at h
        rcases h with rfl | h
        · simp
        · exact List.mem_cons_of_mem _ (ih _ a h)
  | s h t ih => intro is a h; cases is <;> simp [parQ] at h; exact ih _ a h
theorem par_pr {P0 Q0 : List Addr} : ∀ {rs : List R} {vs : List V} {P : List Addr} {ds : List D} {env e2 : En} {is : List (Nat × Bool)}, Rel K T (MP M P0) B env σ H → RVs K H (NS (MP M P0) env σ) σ rs vs P → (∀ p ∈ P, p ∈ P0 ∧ ¬ M p ∧ ¬ B p) → P.Nodup → (∀ a, a ∈ Q0 → a ∈ P0) →
    (∀ p ∈ P, p ∈ Q0 → p ∈ parQ is rs vs) → is.length = rs.length → tks env rs = some (ds, e2) → Rel K T (MP M P0) B e2 σ H ∧ Sub env e2 ∧ Pr K M B H (NS (MP M Q0) e2 σ) vs (parL is rs ds) (parQ is rs vs)
  | [], _, _, ds, env, e2, is, r, q, hP, nd, hQ, hq, hl, e => by
    cases q
    simp [Mi.tks] at e
    obtain ⟨rfl, rfl⟩ := e
    cases is with
    | nil => exact ⟨r, Sub.refl, .nil⟩
    | cons i is => simp at hl
  | a :: rs, vs, P, ds, env, e2, is, r, q, hP, nd, hQ, hq, hl, e => by
    cases is with
    | nil => simp at hl
    | cons ib is =>
    obtain ⟨i, b⟩ := ib
    simp only [Mi.tks] at e
    split at e <;> try (cases e; done)
    rename_i d e1 h1
    split at e <;> cases e
    rename_i ds' h2
    have back : ∀ {e2 : En} (s : Sub env e2) x, NS (MP M Q0) e2 σ x → NS (MP M P0) env σ x := fun s x z => z.elim (fun y => y.elim (fun w => .inl (.inl w)) fun w => .inl (.inr (hQ x w))) fun y => .inr (s.ow y)
    cases q with
    | v hd t =>
      cases h1
      obtain ⟨r2, s2, q2⟩ := par_pr (is := is) r t hP nd hQ (fun p hp hp' => by simpa [parQ] using hq p hp hp') (by simpa using hl) h2
      refine ⟨r2, s2, ?_⟩
      simp only [parL, parK, parQ]
      exact .fz (hd.anti (back s2)) q2
    | @o d p _ vs' P' ho t =>
      cases h1
      have nd' := List.nodup_cons.mp nd
      have hq' : ∀ p' ∈ P', p' ∈ Q0 → p' ∈ parQ is rs vs' := fun p' hp' hpq => by
        have := hq p' (by simp [hp']) hpq
        cases b
        · simpa [parQ] using this
        · simp [parQ] at this
          rcases this with rfl | this
          · exact (nd'.1 hp').elim
          · exact this
      obtain ⟨r2, s2, q2⟩ := par_pr (is := is) r t (fun p hp => hP p (by simp [hp])) nd'.2 hQ hq' (by simpa using hl) h2
      have hp := hP p (by simp)
      refine ⟨r2, s2, ?_⟩
      cases b with
      | false =>
        simp only [parL, parK, parQ]
        refine .fz (ho.dr (back s2) fun z => ?_) q2
        rcases z with (z | z) | z
        · exact hp.2.1 z
        · have := hq p (by simp) z
          simp [parQ] at this
          exact nd'.1 (parQ_sub t is p this)
        · exact r2.od p z (.inr hp.1)
      | true =>
        simp only [parL, parK, parQ]
        exact .ow (ho.step (Kp.refl _ _) (fun x z => .inl (back s2 x z)) fun _ z => z) hp.2.1 hp.2.2 (fun z => nd'.1 (parQ_sub t is p z)) q2
    | @s j v _ vs' _ hs t =>
      rcases tk_cases h1 with ⟨z, _⟩ | ⟨z, _⟩ | ⟨j', z, ej, rfl⟩
      · cases z
      · cases z
      · cases z
        obtain ⟨p, g1, _⟩ := r.ow j d .ow ej (by simp)
        rw [hs] at g1; cases g1
        obtain ⟨r2, ho, s2, nO⟩ := r.take ej (by simp) hs
        have hO : Ow env σ p := ⟨j, d, .ow, ej, by simp, hs⟩
        have nM : ¬ MP M P0 p := r.od p hO
        have t' : RVs K H (NS (MP M P0) (env.set j none) σ) σ rs vs' P := t.step (Kp.refl _ _) (fun x z => .inl (z.elim .inl fun y => .inr (s2.ow y))) fun _ _ _ z => z
        obtain ⟨r3, s3, q3⟩ := par_pr (is := is) (r2.less fun a z => .inl z) t' hP nd hQ (fun p hp hp' => by simpa [parQ] using hq p hp hp') (by simpa using hl) h2
        refine ⟨r3, s2.trans s3, ?_⟩
        simp only [parL, parK, parQ]
        refine .fz (ho.dr (fun x z => ?_) fun z => ?_) q3
        · rcases z with (z | z) | z
          · exact .inl (.inl (.inl z))
          · exact .inl (.inl (.inr (hQ x z)))
          · exact .inr (s3.ow z)
        · rcases z with (z | z) | z
          · exact nM (.inl z)
          · exact nM (.inr (hQ p z))
          · exact nO (s3.ow z)
/-- a parallel store -/
theorem store_par {is : List (Nat × Bool)} {rs : List R} {vs : List V} (r0 : Rel K T M B env σ H) (h : RPs K T M B env σ H rs env1 vs H1) (e : setRs is rs env1 = some env') :
    StP env σ H env' (stL (is.map (·.1)) vs σ) H1 ∧ Rel K T M B env' (stL (is.map (·.1)) vs σ) H1 := by
  obtain ⟨f, s, P, q, r1, nd, fr⟩ := h
  unfold setRs at e
  split at e
  case isFalse => cases e
  case isTrue hc =>
    obtain ⟨hl, hall⟩ := hc
    split at e
    · rename_i ds e2 et
      cases e
      have hlen := q.length
      obtain ⟨r2, s2, pr⟩ := par_pr (Q0 := parQ is rs vs) (is := is) r1 q (fun p hp => ⟨hp, fun z => r0.dm p z (fr p hp), fun z => r0.db p z (fr p hp)⟩) nd (fun a z => parQ_sub q is a z) (fun p hp z => z) hl et
      have r3 : Rel K T (MP M (parQ is rs vs)) B e2 σ H1 := r2.less fun a z => z.imp id fun y => parQ_sub q is a y
      have hi : ∀ i ∈ is.map (·.1), i < e2.length := fun i hi => by
        obtain ⟨x, hx, rfl⟩ := List.mem_map.mp hi
        have := List.all_eq_true.mp hall x hx
        rw [s2.1]
        exact of_decide_eq_true this
      obtain ⟨q1, q2, q3, q4⟩ := par_store (is := is.map (·.1)) pr (by rw [List.length_map, hl, hlen]) hi r3
      have s02 := s.trans s2
      refine ⟨⟨f, fun a z => ?_, fun i d k z hk => ?_, q4.trans s02.1, fun i d k z hk => ?_⟩, q1⟩
      · rcases q2 a z with z | z
        · exact .inl (s02.ow z)
        · exact .inr (fr a (parQ_sub q is a z))
      · obtain ⟨g1, g2⟩ := q3 i d k z (lk_ne hk) fun y => by subst y; cases hk
        obtain ⟨d0, e0, l0⟩ := s02.2 i d k g1 (lk_ne hk)
        rw [l0 hk] at e0
        exact ⟨e0, g2⟩
      · obtain ⟨g1, g2⟩ := q3 i d k z (fun y => by subst y; cases hk) fun y => by subst y; cases hk
        obtain ⟨d0, e0, l0⟩ := s02.2 i d k g1 fun y => by subst y; cases hk
        exact ⟨⟨d0, k, e0, hk⟩, g2⟩
    · cases e
end
section
variable {X : Cx} {T B : Addr → Prop} {W : WC} {C : Den}
theorem par_read {is : List (Nat × Bool)} {as : As} {Dn : Ends} {σ : L2.St} {H : Hp} (q : TSv X.K T B W (exS C (.par is as)) Dn σ H) : TAv X.K T B W (evAs C as) σ H fun vs H1 => vs.length = is.length ∧ Dn.nx (stL (is.map (·.1)) vs σ) H1 := by
  obtain ⟨env, M, r, q⟩ := q
  rw [exS] at q
  refine ⟨env, M, r, ?_⟩
  cases ex : evAs C as env with
  | bad => rw [ex] at q; exact q
  | ex c e1 => rw [ex] at q; exact fun H' f s r' => q σ H' (StP.of f s) r'
  | ok rs e1 =>
    rw [ex] at q
    simp only [O.bind_ok] at q
    intro vs H1 h1
    cases es : setRs is rs e1 with
    | none => rw [es] at q; exact q.elim
    | some e2 =>
      rw [es] at q
      obtain ⟨s2, r2⟩ := store_par r h1 es
      refine ⟨?_, q _ _ s2 r2⟩
      unfold setRs at es
      split at es
      · rename_i hc
        rw [hc.1]
        exact (RVs_len h1).symm
      · cases es
theorem psm_par {i j : Nat} {x y : Str} {a b : Expr} {as : As} {o1 o2 : Bool} {px py pt pos : Pos} {kt k2 pt2} (hc : X.calm = true) (hN : X.N.Nodup) (hi : X.N[i]? = some x) (hj : X.N[j]? = some y) (hij : i ≠ j)
    (hx : X.env.scope.names.lookup x = some .local) (hy : X.env.scope.names.lookup y = some .local) (ha : PA X [a, b] (TAv X.K T B W (evAs C as)))
    (hw : swappedStores [.Tuple [.Name x px, .Name y py] kt pt] (.Tuple [a, b] k2 pt2) X.env = pure (some [x, y]))
    (hs : swapsWithSole [.Tuple [.Name x px, .Name y py] kt pt] (.Tuple [a, b] k2 pt2) pos.line X.env = pure false) :
    PS X (.Assign [.Tuple [.Name x px, .Name y py] kt pt] (.Tuple [a, b] k2 pt2) pos) (TSv X.K T B W (exS C (.par [(i, o1), (j, o2)] as))) := by
  refine ps_weak (ps_par hc hN hi hj hij hx hy ha hw hs) fun Dn σ H q => ?_
  obtain ⟨env, M, r, q⟩ := par_read q
  refine ⟨env, M, r, ?_⟩
  unfold OutA at q ⊢
  cases ex : evAs C as env with
  | bad => rw [ex] at q; exact q
  | ex c e1 => rw [ex] at q; exact q
  | ok rs e1 =>
    rw [ex] at q
    intro vs H1 h
    obtain ⟨hl, q⟩ := q vs H1 h
    cases vs with
    | nil => simp at hl
    | cons v vs => cases vs with
      | nil => simp at hl
      | cons w vs => cases vs with
        | nil => exact ⟨v, w, rfl, q⟩
        | cons _ _ => simp at hl
theorem psm_par3 {i j l : Nat} {x y z : Str} {a b c : Expr} {as : As} {o1 o2 o3 : Bool} {px py pz pt pos : Pos} {kt k2 pt2} (hc : X.calm = true) (hN : X.N.Nodup) (hi : X.N[i]? = some x) (hj : X.N[j]? = some y) (hl : X.N[l]? = some z) (hij : i ≠ j) (hil : i ≠ l) (hjl : j ≠ l)
    (hx : X.env.scope.names.lookup x = some .local) (hy : X.env.scope.names.lookup y = some .local) (hz : X.env.scope.names.lookup z = some .local) (ha : PA X [a, b, c] (TAv X.K T B W (evAs C as)))
    (hw : swappedStores [.Tuple [.Name x px, .Name y py, .Name z pz] kt pt] (.Tuple [a, b, c] k2 pt2) X.env = pure (some [x, y, z]))
    (hs : swapsWithSole [.Tuple [.Name x px, .Name y py, .Name z pz] kt pt] (.Tuple [a, b, c] k2 pt2) pos.line X.env = pure false) :
    PS X (.Assign [.Tuple [.Name x px, .Name y py, .Name z pz] kt pt] (.Tuple [a, b, c] k2 pt2) pos) (TSv X.K T B W (exS C (.par [(i, o1), (j, o2), (l, o3)] as))) := by
  refine ps_weak (ps_par3 hc hN hi hj hl hij hil hjl hx hy hz ha hw hs) fun Dn σ H q => ?_
  obtain ⟨env, M, r, q⟩ := par_read q
  refine ⟨env, M, r, ?_⟩
  unfold OutA at q ⊢
  cases ex : evAs C as env with
  | bad => rw [ex] at q; exact q
  | ex c e1 => rw [ex] at q; exact q
  | ok rs e1 =>
    rw [ex] at q
    intro vs H1 h
    obtain ⟨hl, q⟩ := q vs H1 h
    cases vs with
    | nil => simp at hl
    | cons v vs => cases vs with
      | nil => simp at hl
      | cons w vs => cases vs with
        | nil => simp at hl
        | cons u vs => cases vs with
          | nil => exact ⟨v, w, u, rfl, q⟩
          | cons _ _ => simp at hl
end
end Mi
set_option maxRecDepth 100000
set_option maxHeartbeats 4000000
/-! any, all of a generator expression. -/
namespace GQ
open PySem PySem.Spec PyProof.Rows L2 GenW
/-! ### the one who asks -/
section
variable {prog : Program} {w : World} {A : Around} {I : Addr} {R : Result → Shared → Prop}
theorem all_loop (St : Nat → Shared → Prop)
    (step : ∀ n s, St n s → wpAny (model prog w) A.in1 (pyNext (.ref I)) (fun r s₁ => match r with
      | none => R (.ok (.ret (.bool true))) s₁
      | some v => ∃ k, v = .bool k ∧ (if k = true then ∃ m, m < n ∧ St m s₁ else R (.ok (.ret (.bool false))) s₁)) (fun e s' => R (.error e) s') s) : ∀ n s, St n s → codeAny (model prog w) A (.builtin "all.loop" ⟨[.ref I], []⟩) R s := by
  intro n
  induction n using Nat.strongRecOn with
  | ind n ih =>
    intro s h
    refine codeAny_builtin F.entry_all_loop ?_
    rw [Around.under_plainId F.plain_all_loop _]
    show wpAny _ A.in1 (pyNext (.ref I) >>= _) _ _ s
    refine wpAny_bind (wpAny_mono (step n s h) (fun r s₁ q => ?_) fun _ _ e => e)
    cases r with
    | none => exact wpAny_bind (wpAny_rule (wpAny_pure q))
    | some v =>
      obtain ⟨k, rfl, q⟩ := q
      refine wpAny_bind (wpAny_holding (wpAny_truthy_bool ?_))
      refine wpAny_bind (wpAny_letGo ?_)
      cases k with
      | true =>
        obtain ⟨m, hm, q⟩ := q
        simp only [if_true]
        exact wpAny_pure ⟨plainId_quiet F.plain_all_loop _, ih m hm s₁ q⟩
      | false =>
        simp only [Bool.false_eq_true, if_false] at q ⊢
        exact wpAny_bind (wpAny_rule (wpAny_pure q))
theorem any_loop (St : Nat → Shared → Prop)
    (step : ∀ n s, St n s → wpAny (model prog w) A.in1 (pyNext (.ref I)) (fun r s₁ => match r with
      | none => R (.ok (.ret (.bool false))) s₁
      | some v => ∃ k, v = .bool k ∧ (if k = false then ∃ m, m < n ∧ St m s₁ else R (.ok (.ret (.bool true))) s₁)) (fun e s' => R (.error e) s') s) : ∀ n s, St n s → codeAny (model prog w) A (.builtin "any.loop" ⟨[.ref I], []⟩) R s := by
  intro n
  induction n using Nat.strongRecOn with
  | ind n ih =>
    intro s h
    refine codeAny_builtin F.entry_any_loop ?_
    rw [Around.under_plainId F.plain_any_loop _]
    show wpAny _ A.in1 (pyNext (.ref I) >>= _) _ _ s
    refine wpAny_bind (wpAny_mono (step n s h) (fun r s₁ q => ?_) fun _ _ e => e)
    cases r with
    | none => exact wpAny_bind (wpAny_rule (wpAny_pure q))
    | some v =>
      obtain ⟨k, rfl, q⟩ := q
      refine wpAny_bind (wpAny_holding (wpAny_truthy_bool ?_))
      refine wpAny_bind (wpAny_letGo ?_)
      cases k with
      | false =>
        obtain ⟨m, hm, q⟩ := q
        simp only [Bool.false_eq_true, if_false]
        exact wpAny_pure ⟨plainId_quiet F.plain_any_loop _, ih m hm s₁ q⟩
      | true =>
        simp only [if_true, Bool.true_eq_false, if_false] at q ⊢
        exact wpAny_bind (wpAny_rule (wpAny_pure q))
end
/-- the context of a generator's own frame -/
abbrev Cgen (X : Cx) (s : Shared) (H : Hp) (cenv : Env) (A : Around) (fp : List Addr) (pn : List (Addr × Obj)) : Cx :=
  { X with s_0 := s, H_0 := H, A := A, env := cenv, outer := X.stack, stack := cenv :: X.stack, ex := fp, fn := fun _ => false, pn := pn, xe := fun _ _ => False }
theorem Inv.regen {X : Cx} {pins : List (Addr × Obj)} {σ : L2.St} {H : Hp} {s s' : Shared} (I : Inv X pins σ H s) (h : s'.heap = s.heap) (ho : s'.os = s.os) (hb : AllBare s'.gens) : Inv X pins σ H s' := by
  obtain ⟨a, b, c, d, e, f, g, i, j, k, l⟩ := I
  rw [← h] at d e f j k
  exact ⟨a, ho.trans b, hb, d, e, f, g, i, j, k, l⟩
/-- what the asker keeps of the frame's state -/
structure EndS (X : Cx) (s4 : Shared) (H4 : Hp) (fp : List Addr) (a : Addr) (g : Nat) (H : Hp) (s : Shared) : Prop where
  os : s.os = s4.os
  bare : AllBare s.gens
  un : Un (frs X.stack) fp H4 H s4.heap s.heap
  hok : HOk X.prog X.w H s.heap
theorem over_comp {A : Around} {elt : Expr} {gens : List Comprehension} {scope : Scope} {pos : Pos} {it acc : Value} {cenv : Env} : A.over (.compLoop (.GeneratorExp elt gens scope pos) 0 it acc cenv) [] = A.deeper cenv := by
  first
    | rfl
    | (obtain ⟨hd, d, fr, gs, u⟩ := A; simp [Around.over, Around.deeper, marksOver, frameCount, unitsOf, envsOf, guardsOf, pushEnvs, pushGuards, Code.envs, Code.env?, Code.isFrame, Code.guards, Code.isGuard, Code.weight, Code.frames, Code.isCreation, Code.isCaller, Code.cUnits])
theorem over_compS {A : Around} {elt : Expr} {gens : List Comprehension} {scope : Scope} {pos : Pos} {it acc : Value} {cenv : Env} : A.over (.compStart (.GeneratorExp elt gens scope pos) 0 it acc cenv) [] = A.deeper cenv := by
  first
    | rfl
    | (obtain ⟨hd, d, fr, gs, u⟩ := A; simp [Around.over, Around.deeper, marksOver, frameCount, unitsOf, envsOf, guardsOf, pushEnvs, pushGuards, Code.envs, Code.env?, Code.isFrame, Code.guards, Code.isGuard, Code.weight, Code.frames, Code.isCreation, Code.isCaller, Code.cUnits])
/-- the reading of any(..), all(..); any: which -/
def tAny (any : Bool) (wi : TI) (g : TG) (tt : TT) (te : TE) (vs : List Nat) (P : Addr) : TE := fun σ H Q => wi σ H fun J H0 => GxR.TabG H0 P ∧ ∀ H1, GxR.Tabbed P H0 H1 → ∃ W : Nat → Nat → Hp → Prop, (∃ m, W 0 m H1) ∧ ∀ i m H, W i m H →
  (J.stop i H ∧ Q (.bl (!any)) H) ∨ (J.go i H ∧ ∃ Nx : Hp → Prop, (∀ H', Nx H' → ∃ m', m' < m ∧ W (i + 1) m' H') ∧ ∀ x H', J.yld i H x H' → g x (wipe σ vs) H' fun σ2 H2 => wipe σ2 vs = wipe σ vs ∧ tt σ2 H2 fun b H3 =>
    if b = true then te σ2 H3 fun y H4 => ∃ k, y = .bl k ∧ (if k = any then Q (.bl any) H4 else Nx H4) else Nx H3)
/-- the frame hands a bool out -/
def YB (X : Cx) (any : Bool) (s4 : Shared) (H4 : Hp) (fp : List Addr) (a : Addr) (g : Nat) (Q : Hp → Prop) : Protocol := fun n s₀ v s kap =>
  ∃ k H, v = .bool k ∧ EndS X s4 H4 fp a g H s ∧ s.heap.IsGen a g ∧ s.heap.NoLimit ∧ (if k = any then Q H else ∀ s'', s''.heap = s.heap → s''.os = s.os → AllBare s''.gens → kap (.send .none) s'')
def RB (X : Cx) (s4 : Shared) (H4 : Hp) (fp : List Addr) (a : Addr) (g : Nat) (Q : Hp → Prop) : GenEnd := fun n s₀ r s =>
  ((r = .ok (.ret .none) ∨ r = .ok .next) ∧ ∃ H, EndS X s4 H4 fp a g H s ∧ Q H) ∨ ∃ e, r = .error e ∧ False
section
variable {X : Cx} {s4 : Shared} {H4 : Hp} {cenv : Env} {A0 : Around} {fp : List Addr} {a g : Nat} {go : Obj} {elt tg iter : Expr} {ifs : List Expr} {scope : Scope} {pos : Pos} {J : L2.It} {it : Addr} {tn : Nat → Heap → Prop} {gt : TG} {tt : TT} {te : TE} {any : Bool} {σw : L2.St} {vs : List Nat} {W : Nat → Nat → Hp → Prop} {Qn Qy : Hp → Prop}
theorem ends_of {pins : List (Addr × Obj)} {σ : L2.St} {H : Hp} {s : Shared} {A : Around} (I : Inv (Cgen X s4 H4 cenv A fp [(a, go)]) pins σ H s) : EndS X s4 H4 fp a g H s := ⟨I.os, I.bare, I.base, I.hok⟩
theorem gen_at {pins : List (Addr × Obj)} {σ : L2.St} {H : Hp} {s : Shared} {A : Around} (hgo : ∀ h : Heap, h.get? a = some go → h.IsGen a g) (I : Inv (Cgen X s4 H4 cenv A fp [(a, go)]) pins σ H s) : s.heap.IsGen a g ∧ s.heap.NoLimit :=
  ⟨hgo _ (I.pin (a, go) (List.mem_append_left _ (List.mem_singleton.mpr rfl))).1, I.nolimit⟩
theorem seg_loop (hgo : ∀ h : Heap, h.get? a = some go → h.IsGen a g) (hc : X.calm = true) (hco : cenv.scope.isCoroutine = false) (hab : ∀ b ∈ fp, a ≠ b) (T : Turn X.prog X.w X.K tg J fp it tn)
    (pg : PG (Cgen X s4 H4 cenv (A0.deeper cenv) fp [(a, go)]) tg gt) (pt : PTs (Cgen X s4 H4 cenv (A0.deeper cenv) fp [(a, go)]) ifs tt) (pe : PE (Cgen X s4 H4 cenv (A0.deeper cenv) fp [(a, go)]) elt te)
    (turn : ∀ i m H, W i m H → (J.stop i H ∧ Qn H) ∨ (J.go i H ∧ ∃ Nx : Hp → Prop, (∀ H', Nx H' → ∃ m', m' < m ∧ W (i + 1) m' H') ∧ ∀ x H', J.yld i H x H' → gt x σw H' fun σ2 H2 => wipe σ2 vs = σw ∧ tt σ2 H2 fun b H3 =>
      if b = true then te σ2 H3 fun y H4 => ∃ k, y = .bl k ∧ (if k = any then Qy H4 else Nx H4) else Nx H3)) :
    ∀ (m n i : Nat) (s₀ s : Shared) (H : Hp), m < n → Inv (Cgen X s4 H4 cenv (A0.deeper cenv) fp [(a, go)]) [] σw H s → tn i s.heap → (∀ b ∈ fp, H b = none) → W i m H →
      Seg (model X.prog X.w) A0 (RB X s4 H4 fp a g Qn) (YB X any s4 H4 fp a g Qy) n s₀ (.compLoop (.GeneratorExp elt [⟨tg, iter, ifs, 0⟩] scope pos) 0 (.ref it) .none cenv)
        ((model X.prog X.w).den (.compLoop (.GeneratorExp elt [⟨tg, iter, ifs, 0⟩] scope pos) 0 (.ref it) .none cenv)) [] s := by
  have stat : ∀ {σ' : L2.St} {H' : Hp} {s' : Shared}, Inv (Cgen X s4 H4 cenv (A0.deeper cenv) fp [(a, go)]) [] σ' H' s' → (∀ b ∈ fp, H' b = none) → ∀ b ∈ fp, FpOk (Cgen X s4 H4 cenv (A0.deeper cenv) fp [(a, go)]) [] H' b := fun {σ' H' s'} I' hn b hb =>
    ⟨hn b hb, (I'.ok.exf b hb).1, I'.ok.exfs b hb, .inl hb, fun x c e => (I'.ok.exf b hb).2 x c e, fun p hp => by
      have : p = (a, go) := by simpa using hp
      rw [this]
      exact hab b hb⟩
  intro m
  induction m using Nat.strongRecOn with
  | ind m ih =>
    intro n i s₀ s H hmn I st fn w
    show Seg _ A0 _ _ _ s₀ _ ((compTurn (.GeneratorExp elt [⟨tg, iter, ifs, 0⟩] scope pos) 0 (.ref it) .none cenv).onRaise (leaving cenv)) [] s
    rw [compTurn_gen, Sem.onRaise_eq_wrap]
    refine seg_bind_wrap (wpAny_standAt ?_)
    rcases turn i m H w with ⟨stop, qn⟩ | ⟨goes, Nx, hNx, step⟩
    · have td := T.done (Cgen X s4 H4 cenv (A0.deeper cenv) fp [(a, go)]) rfl rfl rfl hc i [] s σw H (fun _ _ => False) I (stat I fn) st stop
      refine seg_bind_wrap ?_
      rw [over_comp]
      refine wpAny_mono td (fun r s1 ⟨hr, I1⟩ => ?_) fun _ _ z => z.elim
      subst hr
      exact seg_end (.ok .next) (.inl ⟨.inr rfl, H, ends_of I1, qn⟩)
    · have ti := T.item (Cgen X s4 H4 cenv (A0.deeper cenv) fp [(a, go)]) rfl rfl rfl hc i [] s σw H (fun _ _ => False) I (stat I fn) st goes
      refine seg_bind_wrap ?_
      rw [over_comp]
      refine wpAny_mono ti (fun r s1 ⟨u, hr, h1⟩ => ?_) fun _ _ z => z.elim
      subst hr
      refine seg_bind_wrap ?_
      rw [over_comp]
      refine wpAny_mono h1 (fun _ s2 ⟨x, H2, I2, r2, y2, st2, n2⟩ => ?_) fun _ _ z => z.elim
      have I2' := I2.pinned (stat I2 n2) (T.obj _ _ st2)
      refine seg_bind_wrap ?_
      rw [over_comp]
      refine wpAny_mono (pg.run _ s2 σw H2 x u _ I2' r2 (step x H2 y2)) (fun _ s3 ⟨σ3, H3, I3, hw3, q3⟩ => ?_) fun _ _ z => z.elim
      refine seg_bind_wrap ?_
      rw [over_comp]
      refine wpAny_mono (pt.run _ s3 σ3 H3 _ I3 q3) (fun b s5 ⟨H5, I5, q5⟩ => ?_) fun _ _ z => z.elim
      -- a turn's end
      have fin : ∀ {s' : Shared} {H' : Hp}, Inv (Cgen X s4 H4 cenv (A0.deeper cenv) fp [(a, go)]) ([] ++ pinsAt fp s2.heap) σ3 H' s' → Inv (Cgen X s4 H4 cenv (A0.deeper cenv) fp [(a, go)]) [] σw H' s' ∧ tn (i + 1) s'.heap ∧ ∀ b ∈ fp, H' b = none := fun {s' H'} I' => by
        have pin' : ∀ b ∈ fp, ∀ o, s2.heap.get? b = some o → s'.heap.get? b = some o ∧ H' b = none := fun b hb o e =>
          let z := I'.pin (b, o) (List.mem_append_right _ (List.mem_append_right _ (mem_pinsAt hb e)))
          ⟨z.1, z.2.1⟩
        have hl : σw.length = σ3.length := by rw [← hw3, wipe_length]
        refine ⟨(I'.unpinned (pins := [])).weak hl (fun j v e => ?_), T.keep _ _ _ st2 fun b hb o e => (pin' b hb o e).1, fun b hb => ?_⟩
        · rw [← hw3] at e
          exact (wipe_some e).1
        · obtain ⟨o, e, _⟩ := T.obj _ _ st2 b hb
          exact (pin' b hb o e).2
      cases b with
      | false =>
        simp only [Bool.false_eq_true, if_false] at q5 ⊢
        obtain ⟨m', hm, w'⟩ := hNx H5 q5
        obtain ⟨I6, st6, n6⟩ := fin I5
        exact seg_again rfl (ih m' hm n (i + 1) s₀ s5 H5 (by omega) I6 st6 n6 w')
      | true =>
        simp only [if_true] at q5 ⊢
        have hy : ∀ v, yieldOut cenv v = yieldValue v := fun v => by simp only [yieldOut, hco, Bool.false_eq_true, if_false]
        simp only [hy]
        rw [Sem.bind_eq_wrap', Sem.bind_eq_wrap', Sem.wrap_wrap, Sem.wrap_wrap]
        refine seg_wrap ?_
        rw [over_comp]
        refine wpAny_mono (pe.run _ s5 σ3 H5 _ I5 q5) (fun z s6 ⟨yv, H6, I6, r6, kb, ek, q6⟩ => ?_) fun _ _ z => z.elim
        subst ek
        cases r6
        obtain ⟨n, rfl⟩ : ∃ n', n = n' + 1 := ⟨n - 1, by omega⟩
        obtain ⟨g1, g2⟩ := gen_at hgo I6
        refine seg_at (seg_yield rfl rfl rfl ⟨kb, H6, rfl, ends_of I6, g1, g2, ?_⟩)
        split
        · rename_i hk
          rw [if_pos hk] at q6
          exact q6
        · rename_i hk
          rw [if_neg hk] at q6
          intro s'' e1 e2 e3
          obtain ⟨m', hm, w'⟩ := hNx H6 q6
          obtain ⟨I7, st7, n7⟩ := fin I6
          exact seg_again rfl (ih m' hm n (i + 1) s'' s'' H6 (by omega) (Inv.regen I7 e1 e2 e3) (by rw [e1]; exact st7) n7 w')
theorem seg_start (hgo : ∀ h : Heap, h.get? a = some go → h.IsGen a g) (hc : X.calm = true) (hco : cenv.scope.isCoroutine = false) (hab : ∀ b ∈ fp, a ≠ b) (T : Turn X.prog X.w X.K tg J fp it tn)
    (pg : PG (Cgen X s4 H4 cenv (A0.deeper cenv) fp [(a, go)]) tg gt) (pt : PTs (Cgen X s4 H4 cenv (A0.deeper cenv) fp [(a, go)]) ifs tt) (pe : PE (Cgen X s4 H4 cenv (A0.deeper cenv) fp [(a, go)]) elt te)
    (turn : ∀ i m H, W i m H → (J.stop i H ∧ Qn H) ∨ (J.go i H ∧ ∃ Nx : Hp → Prop, (∀ H', Nx H' → ∃ m', m' < m ∧ W (i + 1) m' H') ∧ ∀ x H', J.yld i H x H' → gt x σw H' fun σ2 H2 => wipe σ2 vs = σw ∧ tt σ2 H2 fun b H3 =>
      if b = true then te σ2 H3 fun y H4 => ∃ k, y = .bl k ∧ (if k = any then Qy H4 else Nx H4) else Nx H3))
    (m n : Nat) (s₀ s : Shared) (H : Hp) (hmn : m < n) (I : Inv (Cgen X s4 H4 cenv (A0.deeper cenv) fp [(a, go)]) [] σw H s) (st : tn 0 s.heap) (fn : ∀ b ∈ fp, H b = none) (w : W 0 m H) :
    Seg (model X.prog X.w) A0 (RB X s4 H4 fp a g Qn) (YB X any s4 H4 fp a g Qy) n s₀ (.compStart (.GeneratorExp elt [⟨tg, iter, ifs, 0⟩] scope pos) 0 (.ref it) .none cenv)
      ((model X.prog X.w).den (.compStart (.GeneratorExp elt [⟨tg, iter, ifs, 0⟩] scope pos) 0 (.ref it) .none cenv)) [] s := by
  have loop := seg_loop (iter := iter) (scope := scope) (pos := pos) hgo hc hco hab T pg pt pe turn m n 0 s₀ s H hmn I st fn w
  show Seg _ A0 _ _ _ s₀ _ ((compStart (.GeneratorExp elt [⟨tg, iter, ifs, 0⟩] scope pos) 0 (.ref it) .none cenv).onRaise (leaving cenv)) [] s
  unfold compStart
  rw [Sem.onRaise_eq_wrap]
  show Seg _ A0 _ _ _ s₀ _ ((ask >>= _).wrap _ _ _ _) [] s
  refine seg_bind_wrap (wpAny_askSetting ?_)
  split
  · exact seg_again rfl loop
  · first
      | exact seg_bind_wrap (wpAny_rule (seg_bind_wrap (wpAny_standAt (seg_bind_wrap (T.self _ 0 s _ _ st (seg_again rfl loop))))))
      | (refine seg_bind_wrap (wpAny_rule ?_); show Seg _ A0 _ _ _ s₀ _ ((standAt iter.pos >>= _).wrap _ _ _ _) [] s; exact seg_bind_wrap (wpAny_standAt (seg_bind_wrap (T.self _ 0 s _ _ st (seg_again rfl loop)))))
end
/-- the names of a generator expression's own frame -/
structure GenOk (N : List Str) (sc scope : Scope) (own : List (Str × Nat)) : Prop where
  blk : BlkOk N sc scope own
  co : scope.isCoroutine = false
  cell : ∀ y ∈ scope.names, y.2 ≠ .cell
  dot : scope.names.lookup (".0" : Str) = some NameKind.local
section
variable {X : Cx} {pins : List (Addr × Obj)} {σ : L2.St} {H : Hp} {s s' : Shared} {scope : Scope} {own : List (Str × Nat)} {fp : List Addr} {code : Value} {h' : Heap} {itv : Value} {go : Obj} {A0 : Around}
theorem clo_look {cells : List (Str × Addr)} {names : List (Str × NameKind)} {y : Str} {c : Addr} (h : (cloFrom cells names []).lookup y = some c) : (y, NameKind.free) ∈ names ∧ c = (cells.lookup y).getD 0 := by
  rcases cloFrom_mem (PySem.mem_of_lookup h) with z | z
  · cases z
  · exact z
theorem clo_has {cells : List (Str × Addr)} {names : List (Str × NameKind)} {y : Str} {c : Addr} (h : (y, NameKind.free) ∈ names) (hc : cells.lookup y = some c) : (cloFrom cells names []).lookup y = some c := by
  obtain ⟨c', e⟩ := mem_lookup (cloFrom_has (cells := cells) (acc := []) h)
  rw [e, (clo_look e).2, hc]
  rfl
theorem gen_start (I : Inv X pins σ H s) (ok : GenOk X.N X.env.scope scope own) (hN : X.N.Nodup) (hfp : ∀ b ∈ fp, FpOk X pins H b ∧ b < s.heap.objs.size) (hfr : A0.frames = some X.stack) (hhd : A0.handled = none)
    (hn' : h'.Ns s.heap.objs.size (fun y => if y = ".0" then some itv else none)) (hs' : Heap.SameBut s.heap.objs.size (s.heap.push { cls := .type "frame", data := .dict #[] }) h') (hgo : ∀ v, go.data ≠ .cell v) (hfz : go.isFreed = false)
    (hh : s'.heap = h'.push go) (ho : s'.os = s.os) (hb : AllBare s'.gens) :
    Inv (Cgen X s H (genEnv scope (cloFrom X.env.cells scope.names []) s.heap.objs.size code builtinsNs X.env) (A0.deeper (genEnv scope (cloFrom X.env.cells scope.names []) s.heap.objs.size code builtinsNs X.env)) fp [(h'.objs.size, go)]) [] (wipe σ (own.map (·.2))) H s' := by
  have hsz : h'.objs.size = s.heap.objs.size + 1 := by rw [hs'.1, Heap.size_push]
  have k1 : ∀ b o, s.heap.get? b = some o → h'.get? b = some o := fun b o e => hs'.extBut b o (Nat.ne_of_lt (Heap.lt_size e)) (Heap.get?_push_of_some _ e)
  have kp : ∀ b o, s.heap.get? b = some o → s'.heap.get? b = some o := fun b o e => by rw [hh]; exact Heap.get?_push_of_some _ (k1 b o e)
  have hfree : ∀ y, (y, NameKind.free) ∈ scope.names → ∃ c, X.env.cells.lookup y = some c := fun y hy => by
    rcases ok.blk.free _ hy rfl with k | k
    · exact I.ok.has _ (.inl k)
    · exact I.ok.has _ (.inr k)
  have cm : ∀ {y c}, (cloFrom X.env.cells scope.names []).lookup y = some c → X.env.cells.lookup y = some c := fun {y c} e => by
    obtain ⟨h1, h2⟩ := clo_look e
    obtain ⟨c', e'⟩ := hfree y h1
    rw [e'] at h2
    rw [h2]; exact e'
  have okG : (Cgen X s H (genEnv scope (cloFrom X.env.cells scope.names []) s.heap.objs.size code builtinsNs X.env) (A0.deeper (genEnv scope (cloFrom X.env.cells scope.names []) s.heap.objs.size code builtinsNs X.env)) fp [(h'.objs.size, go)]).Ok := by
    refine ⟨I.ok.mod, ok.blk.kind, I.ok.glob, rfl, Nat.le_refl _, fun y z c e1 e2 => I.ok.inj y z c (cm e1) (cm e2), fun y hy => ?_, fun y c z => (by cases z), fun _ => hhd, Around.frames_deeper hfr, .inr ⟨rfl, rfl⟩, fun b hb => ⟨Nat.ne_of_lt (hfp b hb).2, fun y c e z => (hfp b hb).1.2.2.2.2.1 y c (cm e) z⟩, I.bs, Nat.le_trans I.ok.bsz I.sz, fun b o e hb => ?_, fun b hb z => ?_, I.stack, I.stkFree⟩
    · show ∃ c, (cloFrom X.env.cells scope.names []).lookup y = some c
      rcases hy with hy | hy
      · exact absurd rfl (ok.cell _ (PySem.mem_of_lookup hy))
      · have hm := PySem.mem_of_lookup hy
        obtain ⟨c, e⟩ := hfree y hm
        exact ⟨c, clo_has hm e⟩
    · rcases (hfp b hb).1.2.2.2.1 with z | z
      · exact I.ok.noex b o e z
      · exact absurd (Nat.lt_of_lt_of_le (Heap.lt_size e) (Nat.le_trans I.ok.bsz z)) (Nat.lt_irrefl _)
    · rcases List.mem_cons.mp (I.stkSub b z) with z | z
      · exact (hfp b hb).1.2.1 z
      · exact (hfp b hb).1.2.2.1 z
  have nstk : ∀ b, s.heap.objs.size ≤ b → b ∉ frs X.stack := fun b hb z => by
    rcases List.mem_cons.mp (I.stkSub b z) with z | z
    · rw [z] at hb; exact absurd (Nat.lt_of_lt_of_le I.lt hb) (Nat.lt_irrefl _)
    · exact I.nofs hb z
  refine ⟨okG, ho, hb, Un.kept kp, ⟨fun y => if y = ".0" then some itv else none, ?_, fun i y v e1 e2 e3 => ?_⟩, fun y c e => ?_, I.hok.fresh (Nat.le_refl _), fun y c e => I.freeC y c (cm e), fun p hp => ?_, I.hok.kept kp, by rw [wipe_length]; exact I.len⟩
  · show s'.heap.Ns s.heap.objs.size _
    rw [hh]
    exact hn'.push _
  · obtain ⟨e2, hne⟩ := wipe_some e2
    have hfr : scope.names.lookup y = some .free := by
      have no : ∀ k, scope.names.lookup y = some k → ¬ (k = .local ∨ k = .cell) := fun k hk hh => by
        rcases ok.blk.own _ (PySem.mem_of_lookup hk) hh with e' | e'
        · obtain ⟨p, hp, hpy⟩ := List.mem_map.mp e'
          have e3 := ok.blk.ix p hp
          have : p.1 = y := hpy
          rw [this] at e3
          exact hne (List.mem_map.mpr ⟨p, hp, nodup_ix hN e3 e1⟩)
        · exact e' (List.mem_of_getElem? e1)
      have e3 : Vis scope y := e3
      rcases e3 with e3 | e3 | e3
      · exact absurd (.inl rfl) (no _ e3)
      · exact absurd (.inr rfl) (no _ e3)
      · exact e3
    have hm := PySem.mem_of_lookup hfr
    obtain ⟨m, hn, hl⟩ := I.loc
    have hvis : Vis X.env.scope y := (ok.blk.free _ hm rfl).elim (fun k => .inr (.inl k)) (fun k => .inr (.inr k))
    obtain ⟨w, r, q⟩ := hl i y v e1 e2 hvis
    obtain ⟨c, hc⟩ := hfree y hm
    refine ⟨w, r, .inr ⟨.inr hfr, c, clo_has hm hc, ?_⟩⟩
    rcases q with ⟨k, _⟩ | ⟨_, c', e', z⟩
    · have k : X.env.scope.names.lookup y = some .local := k
      rcases ok.blk.free _ hm rfl with k' | k' <;> rw [show X.env.scope.names.lookup y = _ from k'] at k <;> cases k
    · rw [hc] at e'; cases e'
      exact z.keeps kp
  · obtain ⟨v, z⟩ := I.cell y c (cm e)
    exact ⟨v, z.keeps kp⟩
  · have e : p = (h'.objs.size, go) := by simpa using hp
    subst e
    refine ⟨by rw [hh]; exact Heap.get?_push_size _ hfz, I.hok.fresh (by show s.heap.objs.size ≤ h'.objs.size; omega), ?_, nstk _ (by show s.heap.objs.size ≤ h'.objs.size; omega), hgo⟩
    show h'.objs.size ≠ s.heap.objs.size
    omega
end
/-- the generator a stands ready to be asked -/
def GReady (X : Cx) (any : Bool) (pins : List (Addr × Obj)) (σ : L2.St) (Q : V → Hp → Prop) (a : Addr) (s5 : Shared) : Prop :=
  ∃ (g : Nat) (s4 : Shared) (H1 : Hp) (fp : List Addr) (n : Nat) (gs : GenState), s5.heap.IsGen a g ∧ s5.heap.NoLimit ∧ AllBare s5.gens ∧ s5.gens[g]? = some gs ∧
    (∀ s'', s''.heap = s5.heap → s''.os = s5.os → AllBare s''.gens → gs.Goes (model X.prog X.w) X.A.in1.in1 (RB X s4 H1 fp a g (Q (.bl (!any)))) (YB X any s4 H1 fp a g (Q (.bl any))) n (.send .none) s'') ∧
    ∀ H s', EndS X s4 H1 fp a g H s' → Inv X pins σ H s'
theorem EndS.regen {X : Cx} {s4 : Shared} {H4 : Hp} {fp : List Addr} {a g : Nat} {H : Hp} {s s' : Shared} (e : EndS X s4 H4 fp a g H s) (kp : ∀ b o, s.heap.get? b = some o → s'.heap.get? b = some o) (ho : s'.os = s.os) (hb : AllBare s'.gens) : EndS X s4 H4 fp a g H s' :=
  ⟨ho.trans e.os, hb, e.un.trans (Un.kept kp), e.hok.kept kp⟩
section
variable {X : Cx} {any : Bool} {pins : List (Addr × Obj)} {σ : L2.St} {H : Hp} {s : Shared} {own : List (Str × Nat)} {c P k : Nat} {elt tg iter : Expr} {ifs : List Expr} {scope : Scope} {gpos : Pos} {wi : TI} {gt : TG} {tt : TT} {te : TE} {Q : V → Hp → Prop} {Q' : Value → Shared → Prop}
theorem gen_make (hr : Room (k + 1) X.A) (hc : X.calm = true) (TB : GxR.TabB X.base X.mg c P) (hcode : X.env.code = .ref c) (ok : GenOk X.N X.env.scope scope own) (hN : X.N.Nodup) (hi : PI X tg iter wi)
    (hin : ∀ (s4 : Shared) (H4 : Hp) (C : Addr) (code : Value) (fp : List Addr) (pn : List (Addr × Obj)), PG (Cgen X s4 H4 (genEnv scope (cloFrom X.env.cells scope.names []) C code builtinsNs X.env) (X.A.in1.in1.deeper (genEnv scope (cloFrom X.env.cells scope.names []) C code builtinsNs X.env)) fp pn) tg gt ∧
      PTs (Cgen X s4 H4 (genEnv scope (cloFrom X.env.cells scope.names []) C code builtinsNs X.env) (X.A.in1.in1.deeper (genEnv scope (cloFrom X.env.cells scope.names []) C code builtinsNs X.env)) fp pn) ifs tt ∧
      PE (Cgen X s4 H4 (genEnv scope (cloFrom X.env.cells scope.names []) C code builtinsNs X.env) (X.A.in1.in1.deeper (genEnv scope (cloFrom X.env.cells scope.names []) C code builtinsNs X.env)) fp pn) elt te)
    (hs : ∀ v, genFold iter X.env v = pure v) (I : Inv X pins σ H s) (h : tAny any wi gt tt te (own.map (·.2)) P σ H Q)
    (hQ : ∀ a s5, GReady X any pins σ Q a s5 → Q' (.ref a) s5) :
    wpAny (model X.prog X.w) X.A (eval (.GeneratorExp elt [⟨tg, iter, ifs, 0⟩] scope gpos) X.env) Q' X.xe s := by
  have hcf : ∀ y ∈ scope.names, y.2 = .free → ∃ c, X.env.cells.lookup y.1 = some c := fun y hy e => by
    rcases ok.blk.free y hy e with z | z
    · exact I.ok.has _ (.inl z)
    · exact I.ok.has _ (.inr z)
  refine wpAny_GeneratorExp_make ok.co (closure_ok hcf) ok.cell ok.dot ok.blk.kind (by have := hr.dp; omega) ?_ hs
  refine wpAny_mono (hi.run pins s σ H _ I h) (fun xv s1 h1 => wpAny_mono h1 (fun itv s2 h2 => ?_) fun _ _ e => e) fun _ _ e => e
  obtain ⟨it, fp, tn, J, H0, rfl, I2, T, st, hfp, ⟨ps, hP, ht⟩, hW⟩ := h2
  have hPs : s2.heap.get? P = some { cls := .none, data := .fields ps } := I2.hok P _ hP
  have cd : PySem.W.CodeHd s2.heap c P := TB.code.keeps fun b u e => I2.bk b u e
  have cont : ∀ (code : Value) (h3 : Heap) (tk : Nat) (ps' : Array Value), Heap.ExtBut P s2.heap h3 → h3.get? P = some { cls := .none, data := .fields ps' } → (∃ more, ps' = ps ++ more) → TriplesOk ps'.toList →
      wpAny (model X.prog X.w) X.A (builtinsFor X.env.globals X.env.builtins) (fun bi s₄ => ∀ h', h'.Ns s₄.heap.objs.size (fun y => if y = ".0" then some (.ref it) else none) → Heap.SameBut s₄.heap.objs.size (s₄.heap.push { cls := .type "frame", data := .dict #[] }) h' →
          Q' (.ref h'.objs.size) { s₄ with
            gens := s₄.gens.push (.fresh (.compStart (.GeneratorExp elt [⟨tg, iter, ifs, 0⟩] scope gpos) 0 (.ref it) .none (genEnv scope (cloFrom X.env.cells scope.names []) s₄.heap.objs.size code bi X.env))),
            toks := s₄.toks + 1 + 1 + 1,
            heap := h'.push { cls := .type "generator", data := .fields #[.int s₄.gens.size 0, .str "<genexpr>" (s₄.toks + 1), .str (X.env.qual ++ "<genexpr>") (s₄.toks + 1 + 1)] } }) X.xe { s2 with heap := h3, toks := tk } := by
    intro code h3 tk ps' hx hP3 hmore ht3
    obtain ⟨bm, ob, e1, e2, e3, e4, e5, e6, e7, e8⟩ := TB.bm
    have keep3 : ∀ b u, b ≠ P → s2.heap.get? b = some u → h3.get? b = some u := fun b u hb e => hx b u hb e
    refine wpAny_builtinsFor (m := X.mg) (by rw [I2.ok.glob]; exact (I2.mod.glob.keeps I2.bk).extBut hx TB.gP) e1 e2 (keep3 _ _ e4 (I2.bk _ _ e5)) e6 e7 e8 ?_
    obtain ⟨more, rfl⟩ := hmore
    have I4 := GxR.inv_tab (more := more) (h' := h3) (g' := s2.gens) (d' := s2.drawn) (t' := tk) I2 hP keep3 hP3 I2.bare
    have tb : GxR.Tabbed P H0 (upd H0 P (.tbl (ps ++ more))) := ⟨⟨_, upd_same, ht3⟩, fun b hb => upd_ne hb⟩
    obtain ⟨W, ⟨m, w0⟩, turn⟩ := hW _ tb
    have nP : ∀ b ∈ fp, b ≠ P := fun b hb z => by
      have q := (hfp b hb).1
      rw [z, hP] at q; cases q
    have st4 : tn 0 h3 := T.keep _ _ _ st fun b hb o e => keep3 b o (nP b hb) e
    have hfp4 : ∀ b ∈ fp, FpOk X pins (upd H0 P (.tbl (ps ++ more))) b := fun b hb => by
      obtain ⟨q1, q2⟩ := hfp b hb
      exact ⟨by rw [upd_ne (nP b hb)]; exact q1, q2⟩
    have hsz4 : ∀ b ∈ fp, b < h3.objs.size := fun b hb => by
      obtain ⟨o, e, _⟩ := T.obj _ _ st4 b hb
      exact Heap.lt_size e
    intro h' hn' hs'
    have hsz : h'.objs.size = h3.objs.size + 1 := by rw [hs'.1, Heap.size_push]
    have k1 : ∀ b o, h3.get? b = some o → h'.get? b = some o := fun b o e => hs'.extBut b o (Nat.ne_of_lt (Heap.lt_size e)) (Heap.get?_push_of_some _ e)
    have k2 : ∀ (go : Obj) b o, h3.get? b = some o → (h'.push go).get? b = some o := fun go b o e => Heap.get?_push_of_some _ (k1 b o e)
    have hbr : AllBare (s2.gens.push (.fresh (.compStart (.GeneratorExp elt [⟨tg, iter, ifs, 0⟩] scope gpos) 0 (.ref it) .none (genEnv scope (cloFrom X.env.cells scope.names []) h3.objs.size code builtinsNs X.env)))) := I2.bare.push rfl
    refine hQ _ _ ⟨s2.gens.size, { s2 with heap := h3, toks := tk }, upd H0 P (.tbl (ps ++ more)), fp, m + 1, _, ⟨_, _, _, Heap.get?_push_size _ rfl, rfl, rfl, rfl⟩, I4.nolimit.keeps (k2 _), hbr, Array.getElem?_push_size .., fun s'' hh ho hb => ⟨rfl, ?_⟩, fun Hz s' e => ?_⟩
    · have J4 := gen_start (fp := fp) (code := code) (h' := h') (itv := .ref it) (A0 := X.A.in1.in1) (s' := s'') (go := { cls := .type "generator", data := .fields #[.int s2.gens.size 0, .str "<genexpr>" (tk + 1), .str (X.env.qual ++ "<genexpr>") (tk + 1 + 1)] }) I4 ok hN
        (fun b hb => ⟨hfp4 b hb, hsz4 b hb⟩) I2.ok.frames hr.hd hn' hs' (fun v z => by cases z) rfl hh ho hb
      obtain ⟨pg, pt, pe⟩ := hin { s2 with heap := h3, toks := tk } (upd H0 P (.tbl (ps ++ more))) h3.objs.size code fp [(h'.objs.size, { cls := .type "generator", data := .fields #[.int s2.gens.size 0, .str "<genexpr>" (tk + 1), .str (X.env.qual ++ "<genexpr>") (tk + 1 + 1)] })]
      refine seg_start (fun h e => ⟨_, _, _, e, rfl, rfl, rfl⟩) hc ok.co (fun b hb z => ?_) T pg pt pe turn m (m + 1) _ s'' _ (Nat.lt_succ_self m) J4 ?_ (fun b hb => (hfp4 b hb).1) w0
      · have := hsz4 b hb
        rw [← z, hsz] at this
        exact absurd this (Nat.not_lt.mpr (Nat.le_succ _))
      · rw [hh]
        exact T.keep _ _ _ st4 fun b hb o e => k2 _ b o e
    · exact I4.call' e.os e.un e.hok e.bare fun b hb => ⟨(hfp4 b hb).2.2.2.1, (hfp4 b hb).2.1, (hfp4 b hb).2.2.2.2.1, (hfp4 b hb).2.2.2.2.2⟩
  refine ⟨I2.nolimit, ?_⟩
  cases hf : codeAmong gpos ps.toList with
  | none =>
    refine wpAny_genexprCodeX hcode (cd.code hPs ht) (cd.tab hPs) hf fun c' h' tk hx hge hlt hco' _ htab' _ => ?_
    obtain ⟨o1, vs, f1, tf, fl, tg, inF, tx, tt, op, _, _, _, _, _, _, _, _, _, htr, _⟩ := hco'
    exact cont _ h' tk _ hx htab'.2 ⟨_, rfl⟩ htr
  | some cv =>
    refine wpAny_genexprCode_hit hcode (cd.code hPs ht) hf ?_
    exact cont cv s2.heap s2.toks ps (Heap.ExtBut.refl _ _) hPs ⟨#[], by simp⟩ ht
end
section
variable {X : Cx} {any : Bool} {pins : List (Addr × Obj)} {σ : L2.St} {s5 : Shared} {a k : Nat} {Q : V → Hp → Prop} {E : Value → Shared → Prop}
/-- what the asker holds -/
def StG (X : Cx) (any : Bool) (s4 : Shared) (H1 : Hp) (fp : List Addr) (a g : Nat) (Q : V → Hp → Prop) : Nat → Shared → Prop := fun n s =>
  s.heap.IsGen a g ∧ s.heap.NoLimit ∧ AllBare s.gens ∧ ∃ gs, s.gens[g]? = some gs ∧ ∀ s'', s''.heap = s.heap → s''.os = s.os → AllBare s''.gens →
    gs.Goes (model X.prog X.w) X.A.in1.in1 (RB X s4 H1 fp a g (Q (.bl (!any)))) (YB X any s4 H1 fp a g (Q (.bl any))) n (.send .none) s''
theorem stg_step {s4 : Shared} {H1 : Hp} {fp : List Addr} {g : Nat} {R : Result → Shared → Prop} (hr : Room (k + 1) X.A) (hI : ∀ H s', EndS X s4 H1 fp a g H s' → Inv X pins σ H s')
    (hR : ∀ b H s', Inv X pins σ H s' → Q (.bl b) H → R (.ok (.ret (.bool b))) s') (n : Nat) (s : Shared) (st : StG X any s4 H1 fp a g Q n s) :
    wpAny (model X.prog X.w) X.A.in1 (pyNext (.ref a)) (fun r s₁ => match r with
      | none => R (.ok (.ret (.bool (!any)))) s₁
      | some v => ∃ k, v = .bool k ∧ (if k = (!any) then ∃ m, m < n ∧ StG X any s4 H1 fp a g Q m s₁ else R (.ok (.ret (.bool any))) s₁)) (fun e s' => R (.error e) s') s := by
  obtain ⟨hg, hl, hb, gs, hgs, hgo⟩ := st
  have hgl : g < s.gens.size := (Array.getElem?_eq_some_iff.mp hgs).1
  refine wpAny_gsz (n := g + 1) hgl (next_genG (A := X.A.in1) (F := fun n s₀ s₁ => ∃ H, EndS X s4 H1 fp a g H s₁ ∧ Q (.bl (!any)) H) (Er := fun _ _ => False) hr.hd hl (by have := hr.dp; show X.A.depth < _; omega) hg hgs (hgo _ rfl rfl (allBare_setGen hb rfl)) (fun v s₁ gs' hbare hv => ?_) (fun s₁ hp h' hk => ?_) fun e s₁ he => he.elim)
  · intro hsz
    obtain ⟨kb, H, rfl, es, hg1, hl1, q⟩ := hv
    have hb1 : AllBare (s₁.setGen g gs').gens := allBare_setGen es.bare hbare
    refine ⟨kb, rfl, ?_⟩
    by_cases hk : kb = any
    · rw [if_pos hk] at q
      rw [if_neg (by rw [hk]; cases any <;> decide)]
      exact hR _ H _ (hI H _ (es.regen (fun _ _ e => e) rfl hb1)) q
    · rw [if_neg hk] at q
      rw [if_pos (by cases kb <;> cases any <;> first | rfl | exact absurd rfl hk)]
      have hsz1 : g < s₁.gens.size := by
        have q : (s₁.setGen g gs').gens.size = s₁.gens.size := setGen_size _ _ _
        have hsz' : g + 1 ≤ (s₁.setGen g gs').gens.size := hsz
        omega
      cases n with
      | zero => exact (q s₁ rfl rfl es.bare).elim
      | succ m => exact ⟨m, Nat.lt_succ_self m, hg1, hl1, hb1, gs', setGen_at hsz1, fun s'' e1 e2 e3 => q s'' e1 e2 e3⟩
  · intro _
    obtain ⟨H, es, q⟩ := hp
    exact hR _ H _ (hI H _ (es.regen hk rfl (allBare_setGen es.bare rfl))) q
theorem call_gall (hr : Room (k + 1) X.A) (h : GReady X false pins σ Q a s5) : wpAny (model X.prog X.w) X.A (call (.builtin "all") [.ref a]) (fun v s' => ∃ x H, Inv X pins σ H s' ∧ RelV x v ∧ Q x H) E s5 := by
  obtain ⟨g, s4, H1, fp, n, gs, hg, hl, hb, hgs, hgo, hI⟩ := h
  refine call_function_tree F.kind_all F.plain_all F.entry_all (F.args_all1 _) ?_
  unfold Builtin.«all»
  refine wpAny_bind (m := oneArg "all" _) (wpAny_pure ?_)
  refine wpAny_bind (wpAny_pyIter_gen hg ?_)
  refine wpAny_pure ⟨plainId_quiet F.plain_all_loop _, all_loop (StG X false s4 H1 fp a g Q) (fun n s st => stg_step (any := false) hr hI (fun b H s' I q => ⟨.bl b, H, I, rfl, q⟩) n s st) n s5 ⟨hg, hl, hb, gs, hgs, hgo⟩⟩
theorem call_gany (hr : Room (k + 1) X.A) (h : GReady X true pins σ Q a s5) : wpAny (model X.prog X.w) X.A (call (.builtin "any") [.ref a]) (fun v s' => ∃ x H, Inv X pins σ H s' ∧ RelV x v ∧ Q x H) E s5 := by
  obtain ⟨g, s4, H1, fp, n, gs, hg, hl, hb, hgs, hgo, hI⟩ := h
  refine call_function_tree F.kind_any F.plain_any F.entry_any (F.args_any1 _) ?_
  unfold Builtin.«any»
  refine wpAny_bind (m := oneArg "any" _) (wpAny_pure ?_)
  refine wpAny_bind (wpAny_pyIter_gen hg ?_)
  refine wpAny_pure ⟨plainId_quiet F.plain_any_loop _, any_loop (StG X true s4 H1 fp a g Q) (fun n s st => stg_step (any := true) hr hI (fun b H s' I q => ⟨.bl b, H, I, rfl, q⟩) n s st) n s5 ⟨hg, hl, hb, gs, hgs, hgo⟩⟩
end
section
variable {X : Cx} {own : List (Str × Nat)} {c P k : Nat} {elt tg iter : Expr} {ifs : List Expr} {scope : Scope} {p pos gpos : Pos} {wi : TI} {gt : TG} {tt : TT} {te : TE}
theorem pe_gall (hr : Room (k + 1) X.A) (hc : X.calm = true) (hg : Gl X "all") (hm : X.mg "all" = none) (TB : GxR.TabB X.base X.mg c P) (hcode : X.env.code = .ref c) (ok : GenOk X.N X.env.scope scope own) (hN : X.N.Nodup) (hi : PI X tg iter wi)
    (hin : ∀ (s4 : Shared) (H4 : Hp) (C : Addr) (code : Value) (fp : List Addr) (pn : List (Addr × Obj)), PG (Cgen X s4 H4 (genEnv scope (cloFrom X.env.cells scope.names []) C code builtinsNs X.env) (X.A.in1.in1.deeper (genEnv scope (cloFrom X.env.cells scope.names []) C code builtinsNs X.env)) fp pn) tg gt ∧
      PTs (Cgen X s4 H4 (genEnv scope (cloFrom X.env.cells scope.names []) C code builtinsNs X.env) (X.A.in1.in1.deeper (genEnv scope (cloFrom X.env.cells scope.names []) C code builtinsNs X.env)) fp pn) ifs tt ∧
      PE (Cgen X s4 H4 (genEnv scope (cloFrom X.env.cells scope.names []) C code builtinsNs X.env) (X.A.in1.in1.deeper (genEnv scope (cloFrom X.env.cells scope.names []) C code builtinsNs X.env)) fp pn) elt te)
    (hs : ∀ v, genFold iter X.env v = pure v)
    (he : starEach [.GeneratorExp elt [⟨tg, iter, ifs, 0⟩] scope gpos] X.env = (false, eval (.GeneratorExp elt [⟨tg, iter, ifs, 0⟩] scope gpos) X.env) :: starEach [] X.env := by rfl) (hb : bootBuiltins "all" = some (.builtin "all")) :
    PE X (.Call (.Name "all" p) [.GeneratorExp elt [⟨tg, iter, ifs, 0⟩] scope gpos] [] pos) (tAny false wi gt tt te (own.map (·.2)) P) := by
  refine ⟨fun pins s σ H Q I h => ?_⟩
  refine wpAny_Call_Name_kw (ld_blt I hg hm hb ?_)
  refine PyProof.Rows.callWith_builtin1 ?_ he (by rfl)
  rw [he]
  show wpAny _ _ (spliced ((false, eval (.GeneratorExp elt [⟨tg, iter, ifs, 0⟩] scope gpos) X.env) :: backTo pos (starEach [] X.env))) _ _ s
  refine Calls.spliced_cons (gen_make hr hc TB hcode ok hN hi hin hs I h fun a s5 hG => ?_)
  refine Calls.spliced_nil ?_
  exact call_gall hr hG
theorem pe_gany (hr : Room (k + 1) X.A) (hc : X.calm = true) (hg : Gl X "any") (hm : X.mg "any" = none) (TB : GxR.TabB X.base X.mg c P) (hcode : X.env.code = .ref c) (ok : GenOk X.N X.env.scope scope own) (hN : X.N.Nodup) (hi : PI X tg iter wi)
    (hin : ∀ (s4 : Shared) (H4 : Hp) (C : Addr) (code : Value) (fp : List Addr) (pn : List (Addr × Obj)), PG (Cgen X s4 H4 (genEnv scope (cloFrom X.env.cells scope.names []) C code builtinsNs X.env) (X.A.in1.in1.deeper (genEnv scope (cloFrom X.env.cells scope.names []) C code builtinsNs X.env)) fp pn) tg gt ∧
      PTs (Cgen X s4 H4 (genEnv scope (cloFrom X.env.cells scope.names []) C code builtinsNs X.env) (X.A.in1.in1.deeper (genEnv scope (cloFrom X.env.cells scope.names []) C code builtinsNs X.env)) fp pn) ifs tt ∧
      PE (Cgen X s4 H4 (genEnv scope (cloFrom X.env.cells scope.names []) C code builtinsNs X.env) (X.A.in1.in1.deeper (genEnv scope (cloFrom X.env.cells scope.names []) C code builtinsNs X.env)) fp pn) elt te)
    (hs : ∀ v, genFold iter X.env v = pure v)
    (he : starEach [.GeneratorExp elt [⟨tg, iter, ifs, 0⟩] scope gpos] X.env = (false, eval (.GeneratorExp elt [⟨tg, iter, ifs, 0⟩] scope gpos) X.env) :: starEach [] X.env := by rfl) :
    PE X (.Call (.Name "any" p) [.GeneratorExp elt [⟨tg, iter, ifs, 0⟩] scope gpos] [] pos) (tAny true wi gt tt te (own.map (·.2)) P) := by
  refine ⟨fun pins s σ H Q I h => ?_⟩
  refine wpAny_Call_Name_kw (ld_blt I hg hm boot_any ?_)
  refine PyProof.Rows.callWith_builtin1 ?_ he (by rfl)
  rw [he]
  show wpAny _ _ (spliced ((false, eval (.GeneratorExp elt [⟨tg, iter, ifs, 0⟩] scope gpos) X.env) :: backTo pos (starEach [] X.env))) _ _ s
  refine Calls.spliced_cons (gen_make hr hc TB hcode ok hN hi hin hs I h fun a s5 hG => ?_)
  refine Calls.spliced_nil ?_
  exact call_gany hr hG
end
end GQ
set_option maxRecDepth 100000
set_option maxHeartbeats 2000000
/-! The reading of any, all of a generator expression. -/
namespace Mi
open PySem L2 PySem.Spec PyProof.Rows
section
variable {K : PySem.W.Frag} {T M B : Addr → Prop} {W : WC} {C : Den} {env env' env1 env2 e0 e1 e2 e4 : En} {σ σ' σ1 σ2 σ0 : L2.St} {H H' H0 H1 H2 H3 : Hp} {N N' : Addr → Prop} {own : List Nat} {P : Addr}
theorem block_endF {Mx : Addr → Prop} {P : List Addr} (r0 : Rel K T M B env σ H) (hown : ownOk own env = true) (fre : Fre env σ H H') (s1 : Sub env e1) (hM : ∀ a, MP M P a → Mx a) (hP : ∀ a ∈ P, H a = none)
    (re : Rel K T Mx B e2 (wipe σ own) H') (b : BS own (wipeE own e1) (wipe σ own) e2 (wipe σ own)) :
    Sub env (backE own env e2) ∧ Rel K T (MP M P) B (backE own env e2) σ H' ∧ ∀ a, NS (MP M P) (backE own env e2) σ a → NS Mx e2 (wipe σ own) a := by
  have back : ∀ {j : Nat} {d : Mi.D} {k : Kd}, (backE own env e2)[j]? = some (some (d, k)) → (j ∈ own ∧ k = .fz ∧ env[j]? = some (some (d, .fz))) ∨ (j ∉ own ∧ e2[j]? = some (some (d, k)) ∧ σ[j]? = (wipe σ own)[j]?) := fun {j d k} h => by
    rw [backE_get] at h
    split at h
    · rename_i hj
      split at h
      · simp only [Option.some.injEq] at h
        rw [List.getD_eq_getElem?_getD] at h
        cases e : env[j]? with
        | none => rw [e] at h; cases h
        | some x =>
          rw [e] at h
          simp only [Option.getD_some] at h
          subst h
          obtain rfl := ownOk_get hown hj e
          exact .inl ⟨hj, rfl, rfl⟩
      · cases h
    · rename_i hj
      exact .inr ⟨hj, h, by rw [wipe_get, if_neg hj]⟩
  have oww : ∀ a, Ow (wipeE own e1) (wipe σ own) a → Ow env σ a := fun a ⟨j, d, k, h1, h2, h3⟩ => by
    obtain ⟨n, e⟩ := wipeE_some h1
    rw [wipe_get, if_neg n] at h3
    exact s1.ow ⟨j, d, k, e, h2, h3⟩
  have ow : ∀ a, Ow (backE own env e2) σ a → Ow e2 (wipe σ own) a := fun a ⟨j, d, k, h1, h2, h3⟩ => by
    rcases back h1 with ⟨_, z, _⟩ | ⟨_, e, q⟩
    · exact (h2 z).elim
    · exact ⟨j, d, k, e, h2, by rw [← q]; exact h3⟩
  have hn : ∀ a, NS (MP M P) (backE own env e2) σ a → NS Mx e2 (wipe σ own) a := fun a z => z.elim (fun y => .inl (hM a y)) fun y => .inr (ow a y)
  have hn2 : ∀ a, NS (MP M P) (backE own env e2) σ a → NS M env σ a ∨ H a = none := fun a z => by
    rcases NS_MP z with (z | z) | z
    · exact .inl (.inl z)
    · exact .inl (.inr (oww a (b.ow (ow a z))))
    · exact .inr (hP a z)
  refine ⟨⟨by rw [backE_len, b.len, wipeE_len]; exact s1.1, fun j d' k h hk => ?_⟩, ⟨?_, fun j d h => ?_, fun j d k h hk => ?_, fun i j d k d' k' a h1 hk1 h2 hk2 q1 q2 => ?_, fun j d a h q => ?_, fun a q z => re.od a (ow a q) (hM a z), fun a q => re.dm a (hM a q), re.db, re.tb⟩, hn⟩
  · rcases back h with ⟨_, z, _⟩ | ⟨n, e, q⟩
    · exact (hk z).elim
    · obtain ⟨_, d0, e0', l⟩ := b.sub j d' k e hk
      obtain ⟨d9, e9, l9⟩ := s1.2 j d0 k (wipeE_some e0').2 hk
      exact ⟨d9, e9, fun z => (l9 z).trans (l z)⟩
  · rw [backE_len, b.len, wipeE_len, s1.1]
    exact r0.len
  · rcases back h with ⟨_, _, e⟩ | ⟨n, e, q⟩
    · obtain ⟨v, q1, q2⟩ := r0.fz j d e
      exact ⟨v, q1, q2.step (fre.toKp r0 fun a y => .inr y) hn2⟩
    · obtain ⟨v, q1, q2⟩ := re.fz j d e
      exact ⟨v, by rw [q]; exact q1, q2.anti hn⟩
  · rcases back h with ⟨_, z, _⟩ | ⟨n, e, q⟩
    · exact (hk z).elim
    · obtain ⟨a, q1, q2⟩ := re.ow j d k e hk
      exact ⟨a, by rw [q]; exact q1, q2.step (Kp.refl _ _) (fun x z => .inl (hn x z)) fun _ z => z⟩
  · rcases back h1 with ⟨_, z, _⟩ | ⟨_, e, q⟩
    · exact (hk1 z).elim
    · rcases back h2 with ⟨_, z, _⟩ | ⟨_, e', q'⟩
      · exact (hk2 z).elim
      · rw [q] at q1; rw [q'] at q2
        exact re.dis i j d k d' k' a e hk1 e' hk2 q1 q2
  · rcases back h with ⟨_, z, _⟩ | ⟨n, e, q'⟩
    · cases z
    · rw [q'] at q
      exact re.fr j d a e q
theorem tabbed_ne {a : Addr} {o : HO} (hP : GxR.TabG H P) (h : H a = some o) (hn : ∀ ps, o ≠ .tbl ps) : a ≠ P := fun z => by
  obtain ⟨ps, e, _⟩ := hP
  rw [z, e] at h
  cases h
  exact hn ps rfl
theorem tabbed_some {a : Addr} (t : GxR.Tabbed P H H') (h : H a ≠ none) : H' a ≠ none := by
  by_cases z : a = P
  · obtain ⟨ps, e, _⟩ := t.1
    rw [z, e]; simp
  · rw [t.2 a z]; exact h
theorem tabbed_fre (hP : GxR.TabG H P) (t : GxR.Tabbed P H H') : Fre env σ H H' :=
  ⟨fun a o h _ ht => (t.2 a (tabbed_ne hP h ht)).trans h, fun a h => tabbed_some t h⟩
theorem tabbed_kp (hP : GxR.TabG H P) (t : GxR.Tabbed P H H') : Kp N H H' :=
  ⟨fun a xs h _ => (t.2 a (tabbed_ne hP h fun ps z => by cases z)).trans h, fun a xs h => (t.2 a (tabbed_ne hP h fun ps z => by cases z)).trans h, fun a o u h => (t.2 a (tabbed_ne hP h fun ps z => by cases z)).trans h⟩
theorem Rel.tabbed (r : Rel K T M B env σ H) (hP : GxR.TabG H P) (t : GxR.Tabbed P H H') : Rel K T M B env σ H' := by
  refine ⟨r.len, fun i d e => ?_, fun i d k e hk => ?_, r.dis, r.fr, r.od, fun a q => tabbed_some t (r.dm a q), fun a q => tabbed_some t (r.db a q), fun Q q => ?_⟩
  · obtain ⟨v, e1, e2⟩ := r.fz i d e
    exact ⟨v, e1, e2.step (tabbed_kp hP t) fun _ z => .inl z⟩
  · obtain ⟨a, e1, e2⟩ := r.ow i d k e hk
    obtain ⟨xs, e3⟩ := r.owlst ⟨i, d, k, e, hk, e1⟩
    exact ⟨a, e1, e2.step (tabbed_kp hP t) (fun _ z => .inl z) fun o h => by rw [e3] at h; cases h; exact (t.2 a (tabbed_ne hP e3 fun ps z => by cases z)).trans e3⟩
  · by_cases z : Q = P
    · rw [z]; exact t.1
    · obtain ⟨ps, e, h⟩ := r.tb Q q
      exact ⟨ps, (t.2 Q z).trans e, h⟩
/-- the state of a search's block -/
structure GS (K : PySem.W.Frag) (T M B : Addr → Prop) (own : List Nat) (e0 : En) (σ0 : L2.St) (H0 : Hp) (e' : En) (σ' : L2.St) (H' : Hp) : Prop where
  rel : Rel K T M B e' σ' H'
  bs : BS own e0 σ0 e' σ'
  fre : Fre e0 σ0 H0 H'
def ResB (K : PySem.W.Frag) (T M B : Addr → Prop) (own : List Nat) (e0 : En) (σ0 : L2.St) (H0 : Hp) (o : O Bool) (FinN FinY : Hp → Prop) : Prop := match o with
  | .ok b e' => ∀ H', GS K T M B own e0 σ0 H0 e' σ0 H' → if b = true then FinY H' else FinN H'
  | _ => False
theorem GS.wipe {Hx : Hp} {e3 : En} (h : GS K T M B own e0 σ H0 e3 σ2 Hx) (hs : L2.wipe σ2 own = σ) : GS K T M B own e0 σ H0 (wipeE own e3) σ Hx := by
  have b2 := h.bs.wipe own fun _ z => z
  have r2 := h.rel.wipe own
  rw [hs] at b2 r2
  exact ⟨r2, b2, h.fre⟩
theorem gloopB {J : L2.It} {ws : List R} {vs : List V} {P : List Addr} {cs items : List Mi.D} {f : Mi.D → En → O Bool} {FinN FinY : Hp → Prop} {Step : V → Hp → (Hp → Prop) → Prop}
    (r : Rel K T M B e1 σ H0) (hw : wipeE own e1 = e1) (hσ : L2.wipe σ own = σ) (qv : RVs K H0 (NS M e1 σ) σ ws vs P) (hP : ∀ p ∈ P, M p) (wk : Wlk K J vs cs items) (hc : lkd (lockE ws e1) ws = true → rds e1 ws = some cs)
    (q : ResB K T M B own e1 σ H0 (locked ws (turnsB ws own f items) e1) FinN FinY)
    (step : ∀ (d : Mi.D) (env' : En) (H' : Hp) (x : V) (b : Bool) (e2 : En) (Nx : Hp → Prop), GS K T M B own (lockE ws e1) σ H0 env' σ H' → DR K H' (NS M env' σ) x d → f d env' = .ok b e2 →
      (b = false → ∀ H2 σ2, L2.wipe σ2 own = σ → GS K T M B own (lockE ws e1) σ H0 e2 σ2 H2 → Nx H2) → (b = true → ∀ H2 σ2, L2.wipe σ2 own = σ → GS K T M B own (lockE ws e1) σ H0 e2 σ2 H2 → FinY H2) → Step x H' Nx) :
    ∃ W : Nat → Nat → Hp → Prop, (∃ m, W 0 m H0) ∧ ∀ i m H, W i m H → (J.stop i H ∧ FinN H) ∨ (J.go i H ∧ ∃ Nx : Hp → Prop, (∀ H', Nx H' → ∃ m', m' < m ∧ W (i + 1) m' H') ∧ ∀ x H', J.yld i H x H' → Step x H' Nx) := by
  have kl := kin_lock ws e1
  have r0 := r.lock ws
  have wl : wipeE own (lockE ws e1) = lockE ws e1 := by
    refine List.ext_getElem? fun j => ?_
    rw [wipeE_get]
    split
    · rename_i hj
      rcases lock_get ws e1 j with z | ⟨d, k, z1, z2, z3⟩
      · rw [z, ← hw, wipeE_get, if_pos hj]
        cases e1[j]? <;> rfl
      · rw [← hw] at z1
        exact ((wipeE_some z1).1 hj).elim
    · rfl
  have b0 : BS own (lockE ws e1) σ (lockE ws e1) σ := ⟨rfl, rfl, fun j d k e hk => ⟨(wipeE_some (by rw [wl]; exact e)).1, d, e, fun _ => rfl⟩, fun _ _ => rfl⟩
  have l0 : GS K T M B own (lockE ws e1) σ H0 (lockE ws e1) σ H0 := ⟨r0, b0, Fre.refl⟩
  have q0 : ResB K T M B own (lockE ws e1) σ H0 (turnsB ws own f items (lockE ws e1)) FinN FinY := by
    unfold ResB at q ⊢
    unfold locked at q
    cases eo : turnsB ws own f items (lockE ws e1) with
    | bad => rw [eo] at q; exact q
    | ex c e => rw [eo] at q; exact q
    | ok y e' =>
      rw [eo] at q
      exact fun H' h => q H' ⟨unlock_rel r.fr h.bs h.rel, h.bs.unlock, ⟨fun a o z hn ht => h.fre.kp a o z (fun y => hn (kl.oww.mp y)) ht, h.fre.dm⟩⟩
  have qv0 : RVs K H0 (NS M (lockE ws e1) σ) σ ws vs P := qv.step (Kp.refl _ _) (fun a z => .inl (kl.ns.mp z)) fun _ _ _ z => z
  refine ⟨fun i m H => m = items.length - i ∧ i ≤ items.length ∧ ∃ env', GS K T M B own (lockE ws e1) σ H0 env' σ H ∧ ResB K T M B own (lockE ws e1) σ H0 (turnsB ws own f (items.drop i) env') FinN FinY, ⟨_, rfl, Nat.zero_le _, _, l0, q0⟩, ?_⟩
  rintro i m H ⟨rfl, hi', env', h, h'⟩
  have hl : lkd env' ws = true := by
    cases e : lkd env' ws with
    | true => rfl
    | false =>
      cases ei : items.drop i with
      | nil => rw [ei] at h'; simp [turnsB, e, ResB] at h'
      | cons d ds => rw [ei] at h'; simp [turnsB, e, ResB] at h'
  have st : StP (lockE ws e1) σ H env' σ H := h.bs.stp Fre.refl
  have hl0 : lkd (lockE ws e1) ws = true := by
    refine List.all_eq_true.mpr fun w hw' => ?_
    cases w with
    | v d => rfl
    | o d => rfl
    | s j =>
      obtain ⟨d, k, e, hk⟩ := lkd_mem hl hw'
      have := (st.lk j d k e hk).1
      simp only [this]
      exact hk
  have erd := hc hl0
  have qv' : RVs K H (NS M env' σ) σ ws vs P := by
    have hn : ∀ a, NS M env' σ a → NS M (lockE ws e1) σ a ∨ H0 a = none := fun a z => .inl (h.bs.ns z)
    refine qv0.step (h.fre.toKp r0 fun a y => .inr y) hn fun p hp o ho => ?_
    obtain ⟨xs, e⟩ := qv0.lst p hp
    rw [e] at ho; cases ho
    exact h.fre.kp p _ e (fun z => r0.od p z (hP p hp)) (fun ps z => by cases z)
  have pr : Paired (RdV K H (NS M env' σ)) vs cs := qv'.rds h.rel (rds_kept st hl erd)
  by_cases hi2 : i < items.length
  · have ed : items.drop i = items[i] :: items.drop (i + 1) := List.drop_eq_getElem_cons hi2
    rw [ed] at h'
    simp only [turnsB, hl, if_true] at h'
    cases ef : f items[i] env' with
    | bad => rw [ef] at h'; exact h'.elim
    | ex c e => rw [ef] at h'; exact h'.elim
    | ok y e2 =>
      rw [ef] at h'
      simp only [O.bind_ok] at h'
      refine .inr ⟨wk.goes i _ H hi2 pr, fun H2 => y = false ∧ ∃ σ2, L2.wipe σ2 own = σ ∧ GS K T M B own (lockE ws e1) σ H0 e2 σ2 H2, fun H2 ⟨hy, σ2, hσ2, h2⟩ => ⟨items.length - (i + 1), by omega, rfl, hi2, wipeE own e2, h2.wipe hσ2, ?_⟩, fun x H2 z => ?_⟩
      · subst hy
        exact h'
      · obtain ⟨g, dr⟩ := wk.yields i _ H x H2 hi2 pr z
        have l2 : GS K T M B own (lockE ws e1) σ H0 env' σ H2 := ⟨h.rel.grow' g, h.bs, h.bs.fre h.fre g.fre⟩
        refine step items[i] env' H2 x y e2 _ l2 (dr _ (List.getElem?_eq_getElem hi2)) ef (fun hy H3 σ3 e3 h3 => ⟨hy, σ3, e3, h3⟩) fun hy H3 σ3 e3 h3 => ?_
        subst hy
        simp only [if_true] at h'
        have := h' H3 (h3.wipe e3)
        simpa using this
  · have e : i = items.length := by omega
    subst e
    refine .inl ⟨wk.stops _ H pr, ?_⟩
    rw [List.drop_length] at h'
    simp only [turnsB, hl, if_true] at h'
    have := h' H h
    simpa using this
end
section
variable {X : Cx} {T M B : Addr → Prop} {W : WC} {C : Den} {env env' env1 env2 e0 e1 e2 e4 : En} {σ σ' σ1 σ2 σ0 : L2.St} {H H' H0 H1 H2 H3 : Hp} {N N' : Addr → Prop} {own : List Nat} {P : Addr} {any : Bool}
theorem elemB_read {e : E} {r : Bool} {Nx Yx : Hp → Prop} (re : Rel X.K T M B e4 σ2 H3) (ek : ((ev C e e4).bind fun x e1 => (boolR x e1).bind fun b _ => .ok (b == any) e1) = .ok r e2)
    (nx : r = false → ∀ H5, Rel X.K T M B e2 σ2 H5 → Sub e4 e2 → Fre e4 σ2 H3 H5 → Nx H5) (yx : r = true → ∀ H5, Rel X.K T M B e2 σ2 H5 → Sub e4 e2 → Fre e4 σ2 H3 H5 → Yx H5) :
    TEv X.K T B WF (ev C e) σ2 H3 fun y H4 => ∃ k, y = .bl k ∧ (if k = any then Yx H4 else Nx H4) := by
  refine TTv.val (Q := fun k H4 => if k = any then Yx H4 else Nx H4) ⟨e4, M, re, ?_⟩
  rw [show ((ev C e e4).bind fun x e1 => (boolR x e1).bind fun b _ => O.ok (b == any) e1) = (evT C e e4).bind fun b e1 => .ok (b == any) e1 from by
    unfold evT; rw [O.bind_assoc]; congr 1; funext x e1; unfold boolR; split <;> rfl] at ek
  cases ex : evT C e e4 with
  | bad => rw [ex] at ek; cases ek
  | ex c e => rw [ex] at ek; cases ek
  | ok b e5 =>
    rw [ex] at ek
    simp only [O.bind_ok] at ek
    cases ek
    intro H5 f s r5
    show if b = any then Yx H5 else Nx H5
    by_cases hb : b = any
    · rw [if_pos hb]; exact yx (by simp [hb]) H5 r5 s f
    · rw [if_neg hb]; exact nx (by simp [hb]) H5 r5 s f
theorem turnsB_lkd {ws : List R} {f : Mi.D → En → O Bool} {items : List Mi.D} {env : En} {r : Bool} {e : En} (h : turnsB ws own f items env = .ok r e) : lkd env ws = true := by
  cases z : lkd env ws with
  | true => rfl
  | false => cases items <;> simp [turnsB, z] at h
theorem gen_open {it : It} {f : Mi.D → En → O Bool} {Q : VK} {Stp : V → Hp → (Hp → Prop) → (Hp → Prop) → Prop} (hT : T P)
    (q : TEv X.K T B W (fun env => if ownOk own env then (evIt C it env).bind fun x e1 => (locked x.2 (turnsB x.2 own f x.1) (wipeE own e1)).nox.bind fun y e2 => .ok (.v (.bool (y == any))) (backE own env e2) else .bad) σ H Q)
    (step : ∀ (M : Addr → Prop) (e0 : En) (H0 : Hp) (d : Mi.D) (env' : En) (H' : Hp) (x : V) (b : Bool) (e2 : En) (Nx Yx : Hp → Prop), GS X.K T M B own e0 (L2.wipe σ own) H0 env' (L2.wipe σ own) H' → DR X.K H' (NS M env' (L2.wipe σ own)) x d → f d env' = .ok b e2 →
      (b = false → ∀ H2 σ2, L2.wipe σ2 own = L2.wipe σ own → GS X.K T M B own e0 (L2.wipe σ own) H0 e2 σ2 H2 → Nx H2) → (b = true → ∀ H2 σ2, L2.wipe σ2 own = L2.wipe σ own → GS X.K T M B own e0 (L2.wipe σ own) H0 e2 σ2 H2 → Yx H2) → Stp x H' Nx Yx) :
    TIv X.K T B W (evIt C it) σ H fun J H1 => GxR.TabG H1 P ∧ ∀ H2, GxR.Tabbed P H1 H2 → ∃ W : Nat → Nat → Hp → Prop, (∃ m, W 0 m H2) ∧ ∀ i m H, W i m H →
      (J.stop i H ∧ Q (.bl (!any)) H) ∨ (J.go i H ∧ ∃ Nx : Hp → Prop, (∀ H', Nx H' → ∃ m', m' < m ∧ W (i + 1) m' H') ∧ ∀ x H', J.yld i H x H' → Stp x H' Nx (Q (.bl any))) := by
  obtain ⟨env, M, r0, q⟩ := q
  dsimp only at q
  split at q
  case isFalse => exact q.elim
  case isTrue hown =>
    refine ⟨env, M, r0, ?_⟩
    cases ex : evIt C it env with
    | bad => rw [ex] at q; exact q
    | ex c e1 => rw [ex] at q; exact q
    | ok y e1 =>
      obtain ⟨items, ws⟩ := y
      rw [ex] at q
      simp only [O.bind_ok] at q
      intro vs H1 cs J h erd wk
      obtain ⟨f1, s1, P1, qv, r1, nd, fr⟩ := h
      refine ⟨r1.tb P hT, fun H2 tb => ?_⟩
      have hTP := r1.tb P hT
      cases el : locked ws (turnsB ws own f items) (wipeE own e1) with
      | bad => rw [el] at q; exact q.elim
      | ex c e => rw [el] at q; exact q.elim
      | ok ys e2 =>
        rw [el] at q
        simp only [O.nox, O.bind_ok] at q
        obtain ⟨e9, h9⟩ := locked_ok el
        have hl := turnsB_lkd h9
        have rx : Rel X.K T (MP M P1) B e1 σ H2 := r1.tabbed hTP tb
        have rw' := rx.wipe own
        have hnw : ∀ a, NS (MP M P1) (wipeE own e1) (L2.wipe σ own) a → NS (MP M P1) e1 σ a ∨ H1 a = none := fun a z => by
          rcases z with z | ⟨j, d, k, h1, h2, h3⟩
          · exact .inl (.inl z)
          · obtain ⟨n, e⟩ := wipeE_some h1
            rw [wipe_get, if_neg n] at h3
            exact .inl (.inr ⟨j, d, k, e, h2, h3⟩)
        have qv1 : RVs X.K H2 (NS (MP M P1) (wipeE own e1) (L2.wipe σ own)) σ ws vs P1 := qv.step (tabbed_kp hTP tb) hnw fun p hp o e => by
          obtain ⟨xs, e'⟩ := qv.lst p hp
          rw [e'] at e; cases e
          exact (tb.2 p (tabbed_ne hTP e' fun ps z => by cases z)).trans e'
        obtain ⟨qv2, erd2⟩ := block_ws hl qv1 erd
        refine gloopB (FinN := Q (.bl (!any))) (FinY := Q (.bl any)) (Step := fun x H' Nx => Stp x H' Nx (Q (.bl any))) rw' wipeE_wipeE wipe_wipe qv2 (fun p hp => .inr hp) wk (fun _ => erd2) (f := f) ?_ fun d env' H' x b e2 Nx l hx ef nx yx => step _ _ _ d env' H' x b e2 Nx _ l hx ef nx yx
        rw [el]
        intro H' l
        have fre : Fre env σ H H' := by
          have f2 : Fre e1 σ H1 H' := ⟨fun a o z hn ht => l.fre.kp a o ((tabbed_fre (env := e1) (σ := σ) hTP tb).kp a o z hn ht) (fun y => hn (by
            obtain ⟨j, d, k, h1, h2, h3⟩ := y
            obtain ⟨n, e⟩ := wipeE_some h1
            rw [wipe_get, if_neg n] at h3
            exact ⟨j, d, k, e, h2, h3⟩)) ht, fun a z => l.fre.dm a (tabbed_some tb z)⟩
          exact Fre.trans r1 s1 f1 f2
        obtain ⟨s2, r2, hn⟩ := block_endF (P := []) r0 hown fre s1 (fun a z => Or.elim z Or.inl (fun y => nomatch y)) (fun a ha => by cases ha) l.rel l.bs
        have fin := q (.bl (ys == any)) H' ⟨fre, s2, [], .v (.bl _) .nil, r2, List.nodup_nil, fun a ha => by cases ha⟩
        cases ys <;> cases any <;> exact fin
theorem gen_read {p : Pt} {it : It} {t e : E} {tt : TT} {Q : VK} (hT : T P) (hp : ∀ i ∈ slotsP p, i ∈ own) (htt : ∀ σ H Q, TTv X.K T B WF (evT C t) σ H Q → tt σ H Q) (q : TEv X.K T B W (ev C (.gen any own p it t e)) σ H Q) :
    GQ.tAny any (TIv X.K T B W (evIt C it)) (gPt X.K T B p) tt (TEv X.K T B WF (ev C e)) own P σ H Q := by
  have e1 : ev C (.gen any own p it t e) = fun env => if ownOk own env then (evIt C it env).bind fun x e1 => (locked x.2 (turnsB x.2 own (bodyG p (ev C t) (fun e0 => (ev C e e0).bind fun x e1 => (boolR x e1).bind fun b _ => .ok (b == any) e1) false) x.1) (wipeE own e1)).nox.bind fun y e2 => .ok (.v (.bool (y == any))) (backE own env e2) else .bad := by
    funext env; rw [ev]
  rw [e1] at q
  refine gen_open (Stp := fun x H' Nx Yx => gPt X.K T B p x (L2.wipe σ own) H' fun σ2 H2 => L2.wipe σ2 own = L2.wipe σ own ∧ tt σ2 H2 fun b H3 =>
    if b = true then TEv X.K T B WF (ev C e) σ2 H3 fun y H4 => ∃ k, y = .bl k ∧ (if k = any then Yx H4 else Nx H4) else Nx H3) hT q fun M e0 H0 d env' H' x b e2 Nx Yx l hx ef nx yx => ?_
  have bt := body_turn (Nx := Nx) (KK := fun σ2 H3 => TEv X.K T B WF (ev C e) σ2 H3 fun y H4 => ∃ k, y = .bl k ∧ (if k = any then Yx H4 else Nx H4)) l.rel l.bs hx hp ef
    (fun e4 σ2 H3 hw r4 b4 f4 ek => elemB_read r4 ek (fun hb H5 r5 s5 f5 => nx hb H5 σ2 (by rw [hw, wipe_wipe]) ⟨r5, (l.bs.trans b4 fun _ z => z).ev s5, l.bs.fre l.fre (b4.fre f4 f5)⟩)
      fun hb H5 r5 s5 f5 => yx hb H5 σ2 (by rw [hw, wipe_wipe]) ⟨r5, (l.bs.trans b4 fun _ z => z).ev s5, l.bs.fre l.fre (b4.fre f4 f5)⟩)
    (fun σ2 H3 hw r4 b4 f4 er => nx er H3 σ2 (by rw [hw, wipe_wipe]) ⟨r4, l.bs.trans b4 fun _ z => z, l.bs.fre l.fre f4⟩)
  rw [wipe_wipe] at bt
  exact bt.mono fun σ2 H2 z => ⟨z.1, htt _ _ _ z.2⟩
end
end Mi
set_option maxRecDepth 100000
set_option maxHeartbeats 2000000
namespace Mi
open PySem L2 PySem.Spec PyProof.Rows
/-- what is known where a text is read: the slots' names; the names' kinds; names whose cells are the context's own; defs; built-ins; names that own; how deep generator expressions may nest -/
structure G where
  N : List Str
  sc : Scope
  fnA : Bool
  fnl : List Str
  gl : List (Str × Nat)
  bl : List Str
  own : List Str
  gd : Nat
def slotG (g : G) (x : Str) : Option Nat := (List.range g.N.length).find? fun i => g.N[i]? == some x
def visG (g : G) (x : Str) : Bool := (match g.sc.names.lookup x with
  | some .local | some .cell | some .free => true
  | _ => false) && !(x == ("__debug__" : Str)) && !(x == ("__classdict__" : Str))
def glbG (g : G) (x : Str) : Bool := (match g.sc.names.lookup x with
  | some .globalImplicit => true
  | _ => false) && !(x == ("__name__" : Str)) && !(x == ("__debug__" : Str))
def bltG (g : G) (x : Str) : Bool := glbG g x && g.bl.contains x
def lclG (g : G) (x : Str) : Bool := match g.sc.names.lookup x with
  | some .local => true
  | _ => false
def locG (g : G) (x : Str) : Bool := match g.sc.names.lookup x with
  | some .local => true
  | some .cell => g.fnA || g.fnl.contains x
  | _ => false
structure EOk (X : Cx) (g : G) (T : Addr → Prop) (cl : Nat → Value) (Wx : WX) (C : Den) (k : Nat) : Prop where
  N : X.N = g.N
  nd : X.N.Nodup
  calm : X.calm = true
  sc : X.env.scope = g.sc
  room : Room (k + g.gd) X.A
  tab : 0 < g.gd → ∃ c P, X.env.code = .ref c ∧ T P ∧ GxR.TabB X.base X.mg c P
  tk : Takes X Wx
  fn : ∀ x, (g.fnA || g.fnl.contains x) = true → X.fn x = true
  bl : ∀ x, g.bl.contains x = true → X.mg x = none
  gl : ∀ x id, g.gl.lookup x = some id → ∃ f fd ps, X.mg x = some (.ref f) ∧ PySem.W.keepIn X.K (.ref f) = true ∧ Binds X.K fd ps [] ∧ FnOk X.prog X.w X.K X.mg X.base (L2.CX X.prog X.w) k f fd ps (spF X.K T cl (C.run id))
section
variable {X : Cx} {g : G} {T : Addr → Prop} {cl : Nat → Value} {Wx : WX} {C : Den} {k : Nat} (ok : EOk X g T cl Wx C k)
include ok
theorem EOk.slot {x : Str} {i : Nat} (h : slotG g x = some i) : X.N[i]? = some x := by
  rw [ok.N]
  have := List.find?_some h
  simpa using this
theorem EOk.vis {x : Str} (h : visG g x = true) : Vis X.env.scope x ∧ (x == ("__debug__" : Str)) = false ∧ (x == ("__classdict__" : Str)) = false := by
  unfold visG at h
  simp only [Bool.and_eq_true, Bool.not_eq_true'] at h
  obtain ⟨⟨h1, h2⟩, h3⟩ := h
  refine ⟨?_, h2, h3⟩
  unfold Vis
  rw [ok.sc]
  split at h1 <;> simp_all
theorem EOk.glb {x : Str} (h : glbG g x = true) : Gl X x ∧ x ≠ "__name__" ∧ (x == ("__debug__" : Str)) = false := by
  unfold glbG at h
  simp only [Bool.and_eq_true, Bool.not_eq_true'] at h
  obtain ⟨⟨h1, h2⟩, h3⟩ := h
  refine ⟨?_, fun z => by rw [z] at h2; simp at h2, h3⟩
  unfold Gl Env.kindOf
  rw [ok.sc]
  split at h1 <;> simp_all
theorem EOk.blt {x : Str} (h : bltG g x = true) : Gl X x ∧ X.mg x = none ∧ x ≠ "__name__" ∧ (x == ("__debug__" : Str)) = false := by
  unfold bltG at h
  simp only [Bool.and_eq_true] at h
  obtain ⟨a, b, c⟩ := ok.glb h.1
  exact ⟨a, ok.bl x h.2, b, c⟩
theorem EOk.lcl {x : Str} (h : lclG g x = true) : X.env.scope.names.lookup x = some .local := by
  unfold lclG at h
  rw [ok.sc]
  split at h <;> simp_all
theorem EOk.loc {x : Str} (h : locG g x = true) : L2.Loc X.env.scope x ∧ (X.fn x = true ∨ X.env.scope.names.lookup x = some .local) := by
  unfold locG at h
  unfold L2.Loc
  rw [ok.sc]
  split at h
  · rename_i e; exact ⟨.inl e, .inr e⟩
  · rename_i e; exact ⟨.inr e, .inl (ok.fn x h)⟩
  · cases h
theorem EOk.hu : X.A.units + 65 < cLine := by have := ok.room.un; omega
theorem EOk.hu2 : X.A.units + 80 < cLine := by have := ok.room.un; omega
end
/-! ### side conditions -/
def nStar : Expr → Bool
  | .Starred .. => false
  | _ => true
theorem star_cons {e : Expr} (h : nStar e = true) (es : List Expr) (env : Env) : starEach (e :: es) env = (false, eval e env) :: starEach es env := by
  cases e <;> first | rfl | (simp [nStar] at h)
theorem star_any {es : List Expr} (h : es.all nStar = true) (env : Env) (pos : Pos) : (backTo pos (starEach es env)).any (·.1) = false := by
  induction es with
  | nil => rfl
  | cons e es ih =>
    simp only [List.all_cons, Bool.and_eq_true] at h
    rw [star_cons h.1]
    have := ih h.2
    unfold backTo at this ⊢
    simpa using this
def nTest : Expr → Bool
  | .UnaryOp .. | .BoolOp .. | .IfExp .. | .Compare .. => false
  | _ => true
theorem isTrue_plain' {e : Expr} (h : nTest e = true) (env : Env) (whole : Sem Value) : isTrue e env whole = (do let v ← whole; standAt e.pos; holding [v] (truthy v)) := by
  cases e <;> first | rfl | (simp [nTest] at h)
def nSet : Expr → Bool
  | .Set .. => false
  | _ => true
theorem folded_set {e : Expr} (h : nSet e = true) (env : Env) (x : Value) : foldedSetIterable e env x = pure x := by
  cases e <;> first | rfl | (simp [nSet] at h)
def nSlice : Expr → Bool
  | .Slice .. => false
  | _ => true
theorem plainIx {e : Expr} (h : nSlice e = true) : PlainIx e := by
  intro o i
  cases e <;> first | rfl | (simp [nSlice] at h)
def nComp : Expr → Bool
  | .ListComp .. | .SetComp .. | .DictComp .. => false
  | _ => true
theorem swaps_no {e : Expr} (h : nComp e = true) (t : Option Expr) (l : Nat) (env : Env) : swapsWith e t l env = pure false := by
  cases e <;> first | rfl | (simp [nComp] at h)
def nCall : Expr → Bool
  | .Call .. => false
  | _ => true
theorem abase {e : Expr} (h : nCall e = true) (m : Str) (env : Env) (whole : Sem Value) : attributeBase e m env whole = whole := by
  cases e <;> first | rfl | (simp [nCall] at h)
theorem asg_cons {e : Expr} (h : nStar e = true) (es : List Expr) (env : Env) : assignEach (e :: es) env = (false, assign e env) :: assignEach es env := by
  cases e <;> first | rfl | (simp [nStar] at h)
theorem asg_len {es : List Expr} (h : es.all nStar = true) (env : Env) : (assignEach es env).length = es.length ∧ (assignEach es env).findIdx? (·.1) = none := by
  induction es with
  | nil => exact ⟨rfl, rfl⟩
  | cons e es ih =>
    simp only [List.all_cons, Bool.and_eq_true] at h
    rw [asg_cons h.1]
    obtain ⟨a, b⟩ := ih h.2
    refine ⟨by simp [a], ?_⟩
    rw [List.findIdx?_cons]
    simp [b]
def nTup : Expr → Bool
  | .Tuple .. => false
  | _ => true
theorem sw_notup {t e : Expr} (h : nTup e = true) (env : Env) : swappedStores [t] e env = pure none := by
  cases e <;> first | (simp [nTup] at h; done) | (cases t <;> rfl)
/-- a, b = two names, side by side -/
def par2 (sc : Scope) (x y : Str) (px py : Pos) (vs : List Expr) : Bool :=
  (match sc.kind with | .function => true | _ => false) && (match sc.names.lookup x, sc.names.lookup y with | some .local, some .local => true | _, _ => false) && (py.line == px.line) && !(x == y) && vs.all nStar && !(vs.all (foldedForSure 8)) && !(vs.all (constantsAlone 8))
theorem bk_fun {env : Env} (h : env.scope.kind = .function) : env.blockKind = .function := by unfold Env.blockKind; rw [h]; rfl
theorem star_any' {vs : List Expr} (h : vs.all nStar = true) : (vs.any fun | .Starred .. => true | _ => false) = false := by
  induction vs with
  | nil => rfl
  | cons e es ih =>
    simp only [List.all_cons, Bool.and_eq_true] at h
    simp only [List.any_cons, ih h.2, Bool.or_false]
    cases e <;> first | rfl | (have := h.1; simp [nStar] at this)
theorem par2_ok {env : Env} {x y : Str} {px py pt : Pos} {a b : Expr} {kt k2 : Nat} {pt2 : Pos} (h : par2 env.scope x y px py [a, b] = true) : swappedStores [.Tuple [.Name x px, .Name y py] kt pt] (.Tuple [a, b] k2 pt2) env = pure (some [x, y]) := by
  unfold par2 at h
  simp only [Bool.and_eq_true, Bool.not_eq_true'] at h
  obtain ⟨⟨⟨⟨⟨⟨h1, h2⟩, h3⟩, h4⟩, h5⟩, h6⟩, h7⟩ := h
  have hk : env.scope.kind = .function := by split at h1 <;> simp_all
  have hx : env.kindOf x = some .local ∧ env.kindOf y = some .local := by
    unfold Env.kindOf
    split at h2 <;> simp_all
  have h4' : ¬ x = y := by simpa using h4
  have h3' : py.line = px.line := by simpa using h3
  have h5' : nStar a = true ∧ nStar b = true := by simpa using h5
  unfold swappedStores
  simp only [bk_fun hk, hx.1, hx.2, h6, h7]
  simp [h3', Expr.pos, List.eraseDups_cons, h4', Ne.symm h4', hx.1, hx.2, List.filterMap_cons]
  rintro (h | h)
  · split at h
    · simp [nStar] at h5'
    · cases h
  · split at h
    · simp [nStar] at h5'
    · cases h
def par3 (sc : Scope) (x y z : Str) (px py pz : Pos) (vs : List Expr) : Bool :=
  (match sc.kind with | .function => true | _ => false) && (match sc.names.lookup x, sc.names.lookup y, sc.names.lookup z with | some .local, some .local, some .local => true | _, _, _ => false) && (py.line == px.line) && (pz.line == px.line) && !(x == y) && !(x == z) && !(y == z) && vs.all nStar && !(vs.all (foldedForSure 8)) && !(vs.all (constantsAlone 8))
theorem par3_ok {env : Env} {x y z : Str} {px py pz pt : Pos} {a b c : Expr} {kt k2 : Nat} {pt2 : Pos} (h : par3 env.scope x y z px py pz [a, b, c] = true) : swappedStores [.Tuple [.Name x px, .Name y py, .Name z pz] kt pt] (.Tuple [a, b, c] k2 pt2) env = pure (some [x, y, z]) := by
  unfold par3 at h
  simp only [Bool.and_eq_true, Bool.not_eq_true'] at h
  obtain ⟨⟨⟨⟨⟨⟨⟨⟨⟨h1, h2⟩, h3⟩, h3z⟩, h4⟩, h4z⟩, h4y⟩, h5⟩, h6⟩, h7⟩ := h
  have hk : env.scope.kind = .function := by split at h1 <;> simp_all
  have hx : env.kindOf x = some .local ∧ env.kindOf y = some .local ∧ env.kindOf z = some .local := by
    unfold Env.kindOf
    split at h2 <;> simp_all
  have h4' : ¬ x = y := by simpa using h4
  have h4z' : ¬ x = z := by simpa using h4z
  have h4y' : ¬ y = z := by simpa using h4y
  have h3' : py.line = px.line := by simpa using h3
  have h3z' : pz.line = px.line := by simpa using h3z
  have h5' : nStar a = true ∧ nStar b = true ∧ nStar c = true := by simpa using h5
  unfold swappedStores
  simp only [bk_fun hk, hx.1, hx.2.1, hx.2.2, h6, h7]
  simp [h3', h3z', Expr.pos, List.eraseDups_cons, h4', Ne.symm h4', h4z', Ne.symm h4z', h4y', Ne.symm h4y', hx.1, hx.2.1, hx.2.2, List.filterMap_cons]
  rintro (h | h | h)
  · split at h
    · simp [nStar] at h5'
    · cases h
  · split at h
    · simp [nStar] at h5'
    · cases h
  · split at h
    · simp [nStar] at h5'
    · cases h
/-- a tuple of constants -/
theorem fold_ok {t : Expr} {vs : List Expr} {k2 : Nat} {pt2 : Pos} {env : Env} (h : vs.all (foldedForSure 8) = true) : swappedStores [t] (.Tuple vs k2 pt2) env = pure none := by
  unfold swappedStores
  simp only [h]
  split <;> (try rfl)
  all_goals (repeat' (first | rfl | split))
  all_goals
    rename_i ts' vs' heq a1 a2 a3 a4 a5
    exfalso
    have e : vs' = vs := by
      split at heq
      · rename_i z1 z2
        simp only [Option.some.injEq, Prod.mk.injEq] at heq
        cases z2
        exact heq.2.symm
      · rename_i z1 z2
        simp only [Option.some.injEq, Prod.mk.injEq] at heq
        cases z2
        exact heq.2.symm
      · cases heq
    rw [e] at a4
    exact a4 h
end Mi
set_option maxRecDepth 100000
set_option maxHeartbeats 2000000
namespace Mi
open PySem L2 PySem.Spec PyProof.Rows
def bopOf : Operator → Option BOp
  | .Add => some .add | .Sub => some .sub | .Mult => some .mul | .Mod => some .mod | .FloorDiv => some .fdiv | .Pow => some .pow
  | _ => none
def copOf : CmpOp → Option COp
  | .Eq => some .eq | .NotEq => some .ne | .Lt => some .lt | .LtE => some .le | .Gt => some .gt | .GtE => some .ge | .Is => some .is_ | .IsNot => some .isn | .In => some .isin | .NotIn => some .notin
theorem bopOf_ok {o : Operator} {b : BOp} (h : bopOf o = some b) : pyB b = o := by cases o <;> cases h <;> rfl
theorem copOf_ok {o : CmpOp} {b : COp} (h : copOf o = some b) : pyC b = o := by cases o <;> cases h <;> rfl
/-- built-ins that only read, by name and number of arguments -/
def biT (x : Str) (n : Nat) : Option Bi :=
  if x = "len" ∧ n = 1 then some .len else if x = "tuple" ∧ n = 1 then some .tuple else if x = "list" ∧ n = 1 then some .list else if x = "sum" ∧ n = 1 then some .sum else
  if x = "min" ∧ n = 1 then some .min1 else if x = "max" ∧ n = 1 then some .max1 else if x = "min" ∧ n = 2 then some .min2 else if x = "max" ∧ n = 2 then some .max2 else
  if x = "abs" ∧ n = 1 then some .abs else if x = "int" ∧ n = 1 then some .int else if x = "sorted" ∧ n = 1 then some .sorted else none
def cstO : Const → Option D
  | .int i => some (.int i)
  | .bool b => some (.bool b)
  | .none => some .none
  | .str s => some (.str s)
  | _ => none
/-- a block's own names with their places -/
def ownG (g : G) (scope : Scope) : List (Str × Nat) := scope.names.filterMap fun y => match y.2 with
  | .local | .cell => (slotG g y.1).map (y.1, ·)
  | _ => none
def blkG (g : G) (scope : Scope) : G := { g with sc := relS scope g.sc, fnA := false, fnl := (scope.names.map (·.1)).filter fun x => scope.names.lookup x == some .cell }
/-- a generator expression's own frame -/
def genG (g : G) (scope : Scope) : G := { g with sc := scope, fnA := false, fnl := [], gd := 0 }
def genC (g : G) (scope : Scope) : Bool := blkC g.N g.sc scope (ownG g scope) && !scope.isCoroutine && (scope.names.all fun y => match y.2 with | .cell => false | _ => true) && (match scope.names.lookup (".0" : Str) with | some .local => true | _ => false)
def nGen : Expr → Bool
  | .List .. | .Set .. => false
  | _ => true
theorem gen_fold {e : Expr} (h : nGen e = true) (env : Env) (x : Value) : genFold e env x = pure x := by
  cases e <;> first | rfl | (simp [nGen] at h)
mutual
def compP : Nat → G → Expr → Option Pt
  | 0, _, _ => none
  | n + 1, g, e => match e with
    | .Name x _ => if locG g x = true then (slotG g x).map .nm else none
    | .Tuple es _ _ => if es.all nStar = true then (compPs n g es).map .tp else none
    | _ => none
def compPs : Nat → G → List Expr → Option (List Pt)
  | 0, _, _ => none
  | n + 1, g, es => match es with
    | [] => some []
    | e :: es => (compP n g e).bind fun p => (compPs n g es).map fun ps => p :: ps
end
def tupT : Expr → Bool
  | .Tuple .. => true
  | _ => false
mutual
def compE : Nat → G → Expr → Option E
  | 0, _, _ => none
  | n + 1, g, e => match e with
    | .Name x _ => if visG g x = true then (slotG g x).map .var else none
    | .Constant c _ _ => (cstO c).map .con
    | .Tuple es _ _ => (compAs n g es).map .tup
    | .List es _ => (compAs n g es).map .lst
    | .BinOp a op b _ => (bopOf op).bind fun o => (compE n g a).bind fun a' => (compE n g b).map fun b' => .op (.bin o) (.cons a' (.cons b' .nil))
    | .UnaryOp op a _ => (match op with
      | .USub => (compE n g a).map fun a' => .op .neg (.cons a' .nil)
      | .Not => (compE n g a).map fun a' => .op .not (.cons a' .nil)
      | _ => none)
    | .Compare a ops bs _ => compC n g a ops bs
    | .BoolOp op vs _ => compB n g op vs
    | .IfExp c a b _ => (compT n g c).bind fun c' => (compE n g a).bind fun a' => (compE n g b).map fun b' => .ite c' a' b'
    | .Subscript a s _ => (compE n g a).bind fun a' => compX n g a' s
    | .Call f args kws pos => (match f, kws with
      | .Name x _, [] => compF n g x args
      | .Attribute (.Name x _) m apos, [] => if (apos.endLine == pos.line) = true ∧ visG g x = true then (slotG g x).bind fun i => compM n g m i args else none
      | _, _ => none)
    | .ListComp elt gens scope _ => compL n g elt gens scope
    | _ => none
/-- comparisons -/
def compC : Nat → G → Expr → List CmpOp → List Expr → Option E
  | 0, _, _, _, _ => none
  | n + 1, g, a, ops, bs => match ops, bs with
    | [op], [b] => if behindInMarks op b = false then (copOf op).bind fun o => (compE n g a).bind fun a' => (compE n g b).map fun b' => .op (.cmp o) (.cons a' (.cons b' .nil)) else none
    | [op, op'], [b, c] => if lastMarks [op, op'] [b, c] = false then (copOf op).bind fun o => (copOf op').bind fun o' => (compE n g a).bind fun a' => (compE n g b).bind fun b' => (compE n g c).map fun c' => .chain o o' a' b' c' else none
    | _, _ => none
/-- and, or as values -/
def compB : Nat → G → BoolOp → List Expr → Option E
  | 0, _, _, _ => none
  | n + 1, g, op, vs => match vs with
    | [] => none
    | [a] => compE n g a
    | a :: b :: r => (compE n g a).bind fun a' => (compB n g op (b :: r)).map fun b' => match op with
      | .And => .and a' b'
      | .Or => .or a' b'
/-- tests -/
def compT : Nat → G → Expr → Option E
  | 0, _, _ => none
  | n + 1, g, e => match e with
    | .UnaryOp .Not a _ => (compT n g a).map fun a' => .ite a' (.con (.bool false)) (.con (.bool true))
    | .BoolOp op vs _ => compTB n g op vs
    | .Compare a ops bs _ => compC n g a ops bs
    | e => if nTest e = true then (compE n g e).map fun a' => .op .tru (.cons a' .nil) else none
def compTB : Nat → G → BoolOp → List Expr → Option E
  | 0, _, _, _ => none
  | n + 1, g, op, vs => match vs with
    | [] => none
    | [a] => compT n g a
    | a :: b :: r => (compT n g a).bind fun a' => (compTB n g op (b :: r)).map fun b' => match op with
      | .And => .and a' b'
      | .Or => .or a' b'
def compAs : Nat → G → List Expr → Option As
  | 0, _, _ => none
  | n + 1, g, es => match es with
    | [] => some .nil
    | .Starred e _ :: es => (compE n g e).bind fun a => (compAs n g es).map fun r => .star a r
    | e :: es => if nStar e = true then (compE n g e).bind fun a => (compAs n g es).map fun r => .cons a r else none
/-- what stands in brackets -/
def compX : Nat → G → E → Expr → Option E
  | 0, _, _, _ => none
  | n + 1, g, a', s => match s with
    | .Slice lo hi st _ => (match st with
      | none => (compO n g lo).bind fun l => (compO n g hi).map fun h => .op .sl (.cons a' (.cons l (.cons h .nil)))
      | some _ => none)
    | s => if nSlice s = true then (compE n g s).map fun b' => .op .idx (.cons a' (.cons b' .nil)) else none
def compO : Nat → G → Option Expr → Option E
  | 0, _, _ => none
  | n + 1, g, o => match o with
    | none => some (.con .none)
    | some e => (compE n g e).map fun l => .op .asInt (.cons l .nil)
/-- calls of names -/
def compF : Nat → G → Str → List Expr → Option E
  | 0, _, _, _ => none
  | n + 1, g, x, args => match args with
    | [.Call (.Name y _) [e] [] _] => if x = "list" ∧ y = "reversed" ∧ bltG g "list" = true ∧ bltG g "reversed" = true ∧ nStar e = true then (compE n g e).map fun a => .op (.bi .listRev) (.cons a .nil)
      else if x = "list" ∧ y = "dict" ∧ bltG g "list" = true ∧ bltG g "dict" = true ∧ nStar e = true then (compE n g e).map fun a => .op (.bi .dictKeys) (.cons a .nil)
      else compG n g x args
    | [.GeneratorExp elt [⟨tg, it, ifs, as⟩] scope _] => if as = 0 ∧ (x = "all" ∨ x = "any") ∧ bltG g x = true ∧ genC g scope = true ∧ nGen it = true ∧ 0 < g.gd then
        (compIt n g tg it).bind fun it' => (compP n (genG g scope) tg).bind fun p => (compIf n (genG g scope) ifs).bind fun t => (compE n (genG g scope) elt).bind fun e' =>
          if ((slotsP p).all fun i => ((ownG g scope).map (·.2)).contains i) = true then some (.gen (decide (x = "any")) ((ownG g scope).map (·.2)) p it' t e') else none
      else none
    | args => compG n g x args
def compG : Nat → G → Str → List Expr → Option E
  | 0, _, _, _ => none
  | n + 1, g, x, args => if args.all nStar = true ∧ args ≠ [] then (if bltG g x = true then (biT x args.length).bind fun b => (compAs n g args).map fun as => .op (.bi b) as
    else if glbG g x = true then (g.gl.lookup x).bind fun id => (compAs n g args).map fun as => .call id as else none) else none
def compM : Nat → G → Str → Nat → List Expr → Option E
  | 0, _, _, _, _ => none
  | n + 1, g, m, i, args => match args with
    | [] => if m = "pop" then some (.mth .pop i .nil) else none
    | [e] => if nStar e = true then (compE n g e).bind fun a => if m = "append" then some (.mth .append i (.cons a .nil)) else if m = "extend" then some (.mth .extend i (.cons a .nil)) else none else none
    | _ => none
def compL : Nat → G → Expr → List Comprehension → Scope → Option E
  | 0, _, _, _, _ => none
  | n + 1, g, elt, gens, scope => match gens with
    | [⟨tg, it, ifs, as⟩] => if as = 0 ∧ blkC g.N g.sc scope (ownG g scope) = true ∧ nSet it = true then
        (compIt n g tg it).bind fun it' => (compP n (blkG g scope) tg).bind fun p => (compIf n (blkG g scope) ifs).bind fun t => (compE n (blkG g scope) elt).bind fun e' =>
          if ((slotsP p).all fun i => ((ownG g scope).map (·.2)).contains i) = true then some (.lc ((ownG g scope).map (·.2)) p it' t e') else none
      else none
    | [⟨tg, it, ifs, as⟩, ⟨tg1, it1, ifs1, as1⟩] => if as = 0 ∧ as1 = 0 ∧ blkC g.N g.sc scope (ownG g scope) = true ∧ nSet it = true ∧ nSet it1 = true then
        (compIt n g tg it).bind fun it' => (compP n (blkG g scope) tg).bind fun p => (compIf n (blkG g scope) ifs).bind fun t =>
        (compIt n (blkG g scope) tg1 it1).bind fun it1' => (compP n (blkG g scope) tg1).bind fun p1 => (compIf n (blkG g scope) ifs1).bind fun t1 => (compE n (blkG g scope) elt).bind fun e' =>
          if ((slotsP p).all fun i => ((ownG g scope).map (·.2)).contains i) = true ∧ ((slotsP p1).all fun i => ((ownG g scope).map (·.2)).contains i) = true then some (.lc2 ((ownG g scope).map (·.2)) p it' t p1 it1' t1 e') else none
      else none
    | _ => none
def compIf : Nat → G → List Expr → Option E
  | 0, _, _ => none
  | n + 1, g, ifs => match ifs with
    | [] => some (.con (.bool true))
    | [c] => compT n g c
    | _ => none
/-- what a loop walks -/
def compIt : Nat → G → Expr → Expr → Option It
  | 0, _, _, _ => none
  | n + 1, g, tg, it => match it with
    | .Call (.Name x _) args [] _ => if x = "range" ∧ bltG g "range" = true ∧ args.all nStar = true ∧ (args.length = 1 ∨ args.length = 2) then (compAs n g args).map .rng
      else if x = "zip" ∧ bltG g "zip" = true ∧ args.all nStar = true ∧ (args.length = 2 ∨ args.length = 3) ∧ tupT tg = true then (compAs n g args).map .zip
      else (compE n g it).map .val
    | it => (compE n g it).map .val
end
end Mi
set_option maxRecDepth 100000
set_option maxHeartbeats 4000000
namespace Mi
open PySem L2 PySem.Spec PyProof.Rows
abbrev W0 : WX := fun _ _ _ _ => False
theorem EOk.blk {X : Cx} {g : G} {T : Addr → Prop} {cl : Nat → Value} {Wx : WX} {C : Den} {k : Nat} (ok : EOk X g T cl Wx C k) (s : Shared) (H : Hp) (scope : Scope) (Ca : Addr) (cc : List (Str × Addr)) (fp : List Addr) :
    EOk (X.blk s H scope (compEnvC scope cc Ca X.env) fp) (blkG g scope) T cl W0 C k := by
  refine ⟨ok.N, ok.nd, ok.calm, ?_, ok.room, ok.tab, takes0, fun x h => ?_, ok.bl, ok.gl⟩
  · show relS scope X.env.scope = relS scope g.sc
    rw [ok.sc]
  · show (scope.names.lookup x == some .cell) = true
    simp only [blkG, Bool.false_or] at h
    have := List.contains_iff_mem.mp h
    exact (List.mem_filter.mp this).2
theorem EOk.gen {X : Cx} {g : G} {T : Addr → Prop} {cl : Nat → Value} {Wx : WX} {C : Den} {k : Nat} (ok : EOk X g T cl Wx C k) (hg : 0 < g.gd) (s : Shared) (H : Hp) (scope : Scope) (Ca : Addr) (code : Value) (cc : List (Str × Addr)) (fp : List Addr) (pn : List (Addr × Obj)) :
    EOk (GQ.Cgen X s H (genEnv scope cc Ca code builtinsNs X.env) (X.A.in1.in1.deeper (genEnv scope cc Ca code builtinsNs X.env)) fp pn) (genG g scope) T cl W0 C k := by
  refine ⟨ok.N, ok.nd, ok.calm, rfl, ?_, fun h => absurd h (Nat.lt_irrefl _), takes0, fun x h => ?_, ok.bl, ok.gl⟩
  · have r : Room (k + 1) X.A := ok.room.mono (by omega)
    exact ⟨r.hd, by have := r.dp; show X.A.depth + 1 + 3 * k + 5 < _; omega, by have := r.un; show X.A.units + 1 + 1 + 3 + 16 * k + 200 < _; omega⟩
  · simp [genG] at h
theorem genOk_by {X : Cx} {g : G} {scope : Scope} (eN : X.N = g.N) (es : X.env.scope = g.sc) (h : genC g scope = true) : GQ.GenOk X.N X.env.scope scope (ownG g scope) := by
  unfold genC at h
  simp only [Bool.and_eq_true, Bool.not_eq_true', List.all_eq_true] at h
  obtain ⟨⟨⟨h1, h2⟩, h3⟩, h4⟩ := h
  refine ⟨blkOk_by (by rw [eN, es]; exact h1), h2, fun y hy z => ?_, ?_⟩
  · have := h3 y hy
    rw [z] at this
    cases this
  · split at h4
    · assumption
    · cases h4
/-- the parts of a comprehension -/
inductive LcP (X : Cx) (T B : Addr → Prop) (W : WC) (C : Den) : Expr → List Comprehension → Scope → E → Prop
  | one {elt tg iter : Expr} {ifs : List Expr} {scope : Scope} {own : List (Str × Nat)} {p : Pt} {it : It} {t e : E} {tt : TT} (hi : PI X tg iter (TIv X.K T B W (evIt C it))) (ok : BlkOk X.N X.env.scope scope own) (hp : ∀ i ∈ slotsP p, i ∈ own.map (·.2)) (htt : ∀ σ H Q, TTv X.K T B WF (evT C t) σ H Q → tt σ H Q)
    (hg : Blk X scope fun Y => PG Y tg (gPt X.K T B p)) (ht : Blk X scope fun Y => PTs Y ifs tt) (he : Blk X scope fun Y => PE Y elt (TEv X.K T B WF (ev C e))) (hs : ∀ x, foldedSetIterable iter X.env x = pure x) : LcP X T B W C elt [⟨tg, iter, ifs, 0⟩] scope (.lc (own.map (·.2)) p it t e)
  | two {elt tg iter tg1 iter1 : Expr} {ifs ifs1 : List Expr} {scope : Scope} {own : List (Str × Nat)} {p p1 : Pt} {it it1 : It} {t t1 e : E} {tt tt1 : TT} (hi : PI X tg iter (TIv X.K T B W (evIt C it))) (ok : BlkOk X.N X.env.scope scope own) (hp : ∀ i ∈ slotsP p, i ∈ own.map (·.2)) (hp1 : ∀ i ∈ slotsP p1, i ∈ own.map (·.2))
    (htt : ∀ σ H Q, TTv X.K T B WF (evT C t) σ H Q → tt σ H Q) (htt1 : ∀ σ H Q, TTv X.K T B WF (evT C t1) σ H Q → tt1 σ H Q)
    (hg : Blk X scope fun Y => PG Y tg (gPt X.K T B p)) (ht : Blk X scope fun Y => PTs Y ifs tt) (hi1 : Blk X scope fun Y => PI Y tg1 iter1 (TIv X.K T B WF (evIt C it1))) (hg1 : Blk X scope fun Y => PG Y tg1 (gPt X.K T B p1)) (ht1 : Blk X scope fun Y => PTs Y ifs1 tt1)
    (he : Blk X scope fun Y => PE Y elt (TEv X.K T B WF (ev C e))) (hs : ∀ x, foldedSetIterable iter X.env x = pure x) (hs1 : ∀ env x, foldedSetIterable iter1 env x = pure x) : LcP X T B W C elt [⟨tg, iter, ifs, 0⟩, ⟨tg1, iter1, ifs1, 0⟩] scope (.lc2 (own.map (·.2)) p it t p1 it1 t1 e)
theorem LcP.pe {X : Cx} {T B : Addr → Prop} {W : WC} {C : Den} {elt : Expr} {gens : List Comprehension} {scope : Scope} {e : E} {pos : Pos} (hc : X.calm = true) (hN : X.N.Nodup) (h : LcP X T B W C elt gens scope e) : PE X (.ListComp elt gens scope pos) (TEv X.K T B W (ev C e)) := by
  cases h with
  | one hi ok hp htt hg ht he hs => exact pem_lc hc hN hi ok hp htt hg ht he hs
  | two hi ok hp hp1 htt htt1 hg ht hi1 hg1 ht1 he hs hs1 => exact pem_lc2 hc hN hi ok hp hp1 htt htt1 hg ht hi1 hg1 ht1 he hs hs1
theorem LcP.set {X : Cx} {T B : Addr → Prop} {W : WC} {C : Den} {elt : Expr} {gens : List Comprehension} {scope : Scope} {e : E} {pos spos py : Pos} {i : Nat} {y : Str} {ow : Bool} (hc : X.calm = true) (hN : X.N.Nodup) (hy : X.N[i]? = some y) (hyl : X.env.scope.names.lookup y = some .local)
    (hsw : swapsWith (.ListComp elt gens scope pos) (some (.Name y py)) spos.line X.env = pure true) (h : LcP X T B W C elt gens scope e) : PS X (.Assign [.Name y py] (.ListComp elt gens scope pos) spos) (TSv X.K T B W (exS C (.set i ow e))) := by
  cases h with
  | one hi ok hp htt hg ht he hs => exact psm_setLc hc hN hy hyl hsw hi ok hp htt hg ht he hs
  | two hi ok hp hp1 htt htt1 hg ht hi1 hg1 ht1 he hs hs1 => exact psm_setLc2 hc hN hy hyl hsw hi ok hp hp1 htt htt1 hg ht hi1 hg1 ht1 he hs hs1
theorem compP_ok : ∀ (n : Nat), (∀ {X : Cx} {g : G} {T B : Addr → Prop} {cl : Nat → Value} {Wx : WX} {C : Den} {k : Nat} {e : Expr} {p : Pt}, EOk X g T cl Wx C k → compP n g e = some p → PG X e (gPt X.K T B p)) ∧
    (∀ {X : Cx} {g : G} {T B : Addr → Prop} {cl : Nat → Value} {Wx : WX} {C : Den} {k : Nat} {es : List Expr} {ps : List Pt}, EOk X g T cl Wx C k → es.all nStar = true → compPs n g es = some ps → PGs X es (gPts X.K T B ps) ∧ es.length = ps.length)
  | 0 => ⟨fun _ h => by simp [compP] at h, fun _ _ h => by simp [compPs] at h⟩
  | n + 1 => by
    obtain ⟨i1, i2⟩ := compP_ok n
    refine ⟨fun {X g T B cl Wx C k e p} ok h => ?_, fun {X g T B cl Wx C k es ps} ok hst h => ?_⟩
    · unfold compP at h
      split at h
      · split at h
        · rename_i hl
          obtain ⟨i, hi, rfl⟩ := Option.map_eq_some_iff.mp h
          obtain ⟨a, b⟩ := ok.loc hl
          exact pgm_name ok.nd (ok.slot hi) a b
        · cases h
      · split at h
        · rename_i hst
          obtain ⟨ps, hps, rfl⟩ := Option.map_eq_some_iff.mp h
          obtain ⟨a, b⟩ := i2 (B := B) ok hst hps
          obtain ⟨c, d⟩ := asg_len hst X.env
          exact pgm_tup ok.calm a b c d
        · cases h
      · cases h
    · unfold compPs at h
      split at h
      · cases h
        exact ⟨pgms_nil, rfl⟩
      · simp only [List.all_cons, Bool.and_eq_true] at hst
        obtain ⟨p, hp, h⟩ := Option.bind_eq_some_iff.mp h
        obtain ⟨ps, hps, rfl⟩ := Option.map_eq_some_iff.mp h
        obtain ⟨a, b⟩ := i2 (B := B) ok hst.2 hps
        exact ⟨pgms_cons (i1 ok hp) a (by rw [asg_cons hst.1]; rfl), by simp [b]⟩
/-- soundness at fuel n -/
structure Snd (T B : Addr → Prop) (cl : Nat → Value) (C : Den) (k n : Nat) : Prop where
  cE : ∀ {X : Cx} {g : G} {Wx : WX} {e : Expr} {e' : E}, EOk X g T cl Wx C k → compE n g e = some e' → PE X e (TEv X.K T B (WCof cl Wx) (ev C e'))
  cC : ∀ {X : Cx} {g : G} {Wx : WX} {a : Expr} {ops : List CmpOp} {bs : List Expr} {e' : E} {pos : Pos}, EOk X g T cl Wx C k → compC n g a ops bs = some e' → PE X (.Compare a ops bs pos) (TEv X.K T B (WCof cl Wx) (ev C e')) ∧ PT X (.Compare a ops bs pos) (TTv X.K T B (WCof cl Wx) (evT C e'))
  cB : ∀ {X : Cx} {g : G} {Wx : WX} {op : BoolOp} {vs : List Expr} {e' : E} {pos : Pos}, EOk X g T cl Wx C k → compB n g op vs = some e' → PE X (.BoolOp op vs pos) (TEv X.K T B (WCof cl Wx) (ev C e'))
  cT : ∀ {X : Cx} {g : G} {Wx : WX} {e : Expr} {e' : E}, EOk X g T cl Wx C k → compT n g e = some e' → PT X e (TTv X.K T B (WCof cl Wx) (evT C e'))
  cTB : ∀ {X : Cx} {g : G} {Wx : WX} {op : BoolOp} {vs : List Expr} {e' : E} {pos : Pos}, EOk X g T cl Wx C k → compTB n g op vs = some e' → PW X (.BoolOp op vs pos) (TTv X.K T B (WCof cl Wx) (evT C e'))
  cAs : ∀ {X : Cx} {g : G} {Wx : WX} {es : List Expr} {as : As}, EOk X g T cl Wx C k → compAs n g es = some as → PA X es (TAv X.K T B (WCof cl Wx) (evAs C as))
  cX : ∀ {X : Cx} {g : G} {Wx : WX} {a s : Expr} {a' e' : E} {pos : Pos}, EOk X g T cl Wx C k → PE X a (TEv X.K T B (WCof cl Wx) (ev C a')) → compX n g a' s = some e' → PE X (.Subscript a s pos) (TEv X.K T B (WCof cl Wx) (ev C e'))
  cO : ∀ {X : Cx} {g : G} {Wx : WX} {o : Option Expr} {e' : E}, EOk X g T cl Wx C k → compO n g o = some e' → PartM X T B (WCof cl Wx) C o e'
  cF : ∀ {X : Cx} {g : G} {Wx : WX} {x : Str} {args : List Expr} {e' : E} {p pos : Pos}, EOk X g T cl Wx C k → compF n g x args = some e' → PE X (.Call (.Name x p) args [] pos) (TEv X.K T B (WCof cl Wx) (ev C e'))
  cG : ∀ {X : Cx} {g : G} {Wx : WX} {x : Str} {args : List Expr} {e' : E} {p pos : Pos}, EOk X g T cl Wx C k → compG n g x args = some e' → PE X (.Call (.Name x p) args [] pos) (TEv X.K T B (WCof cl Wx) (ev C e'))
  cM : ∀ {X : Cx} {g : G} {Wx : WX} {x m : Str} {i : Nat} {args : List Expr} {e' : E} {p apos pos : Pos}, EOk X g T cl Wx C k → slotG g x = some i → visG g x = true → (apos.endLine == pos.line) = true → compM n g m i args = some e' → PE X (.Call (.Attribute (.Name x p) m apos) args [] pos) (TEv X.K T B (WCof cl Wx) (ev C e'))
  cL : ∀ {X : Cx} {g : G} {Wx : WX} {elt : Expr} {gens : List Comprehension} {scope : Scope} {e' : E}, EOk X g T cl Wx C k → compL n g elt gens scope = some e' → LcP X T B (WCof cl Wx) C elt gens scope e'
  cI : ∀ {X : Cx} {g : G} {Wx : WX} {tg it : Expr} {it' : It}, EOk X g T cl Wx C k → compIt n g tg it = some it' → PI X tg it (TIv X.K T B (WCof cl Wx) (evIt C it'))
theorem own_sub {l : List Nat} {p : Pt} (h : ((slotsP p).all fun i => l.contains i) = true) : ∀ i ∈ slotsP p, i ∈ l := fun i hi => List.contains_iff_mem.mp (List.all_eq_true.mp h i hi)
section
variable {T B : Addr → Prop} {cl : Nat → Value} {C : Den} {k n : Nat}
theorem snd0 : Snd T B cl C k 0 where
  cE := fun _ h => by simp [compE] at h
  cC := fun _ h => by simp [compC] at h
  cB := fun _ h => by simp [compB] at h
  cT := fun _ h => by simp [compT] at h
  cTB := fun _ h => by simp [compTB] at h
  cAs := fun _ h => by simp [compAs] at h
  cX := fun _ _ h => by simp [compX] at h
  cO := fun _ h => by simp [compO] at h
  cF := fun _ h => by simp [compF] at h
  cG := fun _ h => by simp [compG] at h
  cM := fun _ _ _ _ h => by simp [compM] at h
  cL := fun _ h => by simp [compL] at h
  cI := fun _ h => by simp [compIt] at h
variable (Sd : Snd T B cl C k n)
include Sd
theorem snd_C {X : Cx} {g : G} {Wx : WX} {a : Expr} {ops : List CmpOp} {bs : List Expr} {e' : E} {pos : Pos} (ok : EOk X g T cl Wx C k) (h : compC (n + 1) g a ops bs = some e') : PE X (.Compare a ops bs pos) (TEv X.K T B (WCof cl Wx) (ev C e')) ∧ PT X (.Compare a ops bs pos) (TTv X.K T B (WCof cl Wx) (evT C e')) := by
  unfold compC at h
  split at h
  · split at h
    · rename_i hm
      obtain ⟨o, ho, h⟩ := Option.bind_eq_some_iff.mp h
      obtain ⟨a', ha, h⟩ := Option.bind_eq_some_iff.mp h
      obtain ⟨b', hb, rfl⟩ := Option.map_eq_some_iff.mp h
      have e := copOf_ok ho
      subst e
      exact ⟨pem_cmp ok.hu (Sd.cE ok ha) (Sd.cE ok hb) hm, ptm_cmp ok.hu (Sd.cE ok ha) (Sd.cE ok hb) hm⟩
    · cases h
  · split at h
    · rename_i hm
      obtain ⟨o, ho, h⟩ := Option.bind_eq_some_iff.mp h
      obtain ⟨o', ho', h⟩ := Option.bind_eq_some_iff.mp h
      obtain ⟨a', ha, h⟩ := Option.bind_eq_some_iff.mp h
      obtain ⟨b', hb, h⟩ := Option.bind_eq_some_iff.mp h
      obtain ⟨c', hc, rfl⟩ := Option.map_eq_some_iff.mp h
      have e := copOf_ok ho
      have e2 := copOf_ok ho'
      subst e e2
      exact ⟨pem_chain ok.hu (Sd.cE ok ha) (Sd.cE ok hb) (Sd.cE ok hc) hm, ptm_chain ok.hu (Sd.cE ok ha) (Sd.cE ok hb) (Sd.cE ok hc) hm⟩
    · cases h
  · cases h
theorem snd_B {X : Cx} {g : G} {Wx : WX} {op : BoolOp} {vs : List Expr} {e' : E} {pos : Pos} (ok : EOk X g T cl Wx C k) (h : compB (n + 1) g op vs = some e') : PE X (.BoolOp op vs pos) (TEv X.K T B (WCof cl Wx) (ev C e')) := by
  unfold compB at h
  split at h
  · cases h
  · exact pe_one (Sd.cE ok h)
  · obtain ⟨a', ha, h⟩ := Option.bind_eq_some_iff.mp h
    obtain ⟨b', hb, rfl⟩ := Option.map_eq_some_iff.mp h
    cases op with
    | And => exact pem_and (Sd.cE ok ha) (Sd.cB ok hb)
    | Or => exact pem_or (Sd.cE ok ha) (Sd.cB ok hb)
theorem snd_TB {X : Cx} {g : G} {Wx : WX} {op : BoolOp} {vs : List Expr} {e' : E} {pos : Pos} (ok : EOk X g T cl Wx C k) (h : compTB (n + 1) g op vs = some e') : PW X (.BoolOp op vs pos) (TTv X.K T B (WCof cl Wx) (evT C e')) := by
  unfold compTB at h
  split at h
  · cases h
  · cases op with
    | And => exact pw_and1 (Sd.cT ok h)
    | Or => exact pw_or1 (Sd.cT ok h)
  · obtain ⟨a', ha, h⟩ := Option.bind_eq_some_iff.mp h
    obtain ⟨b', hb, rfl⟩ := Option.map_eq_some_iff.mp h
    cases op with
    | And => exact pwm_and (Sd.cT ok ha) (Sd.cTB ok hb)
    | Or => exact pwm_or (Sd.cT ok ha) (Sd.cTB ok hb)
theorem snd_T {X : Cx} {g : G} {Wx : WX} {e : Expr} {e' : E} (ok : EOk X g T cl Wx C k) (h : compT (n + 1) g e = some e') : PT X e (TTv X.K T B (WCof cl Wx) (evT C e')) := by
  unfold compT at h
  split at h
  · obtain ⟨a', ha, rfl⟩ := Option.map_eq_some_iff.mp h
    exact ptm_not (Sd.cT ok ha)
  · exact (Sd.cTB ok h).pt
  · exact (Sd.cC ok h).2
  · split at h
    · rename_i hn
      obtain ⟨a', ha, rfl⟩ := Option.map_eq_some_iff.mp h
      exact ptm_tru (Sd.cE ok ha) fun w => isTrue_plain' hn _ w
    · cases h
theorem snd_As {X : Cx} {g : G} {Wx : WX} {es : List Expr} {as : As} (ok : EOk X g T cl Wx C k) (h : compAs (n + 1) g es = some as) : PA X es (TAv X.K T B (WCof cl Wx) (evAs C as)) := by
  unfold compAs at h
  split at h
  · cases h; exact pam_nil
  · obtain ⟨a, ha, h⟩ := Option.bind_eq_some_iff.mp h
    obtain ⟨r, hr, rfl⟩ := Option.map_eq_some_iff.mp h
    exact pam_star (Sd.cE ok ha) (Sd.cAs ok hr) rfl
  · split at h
    · rename_i hs
      obtain ⟨a, ha, h⟩ := Option.bind_eq_some_iff.mp h
      obtain ⟨r, hr, rfl⟩ := Option.map_eq_some_iff.mp h
      exact pam_cons (Sd.cE ok ha) (Sd.cAs ok hr) (star_cons hs _ _)
    · cases h
theorem snd_O {X : Cx} {g : G} {Wx : WX} {o : Option Expr} {e' : E} (ok : EOk X g T cl Wx C k) (h : compO (n + 1) g o = some e') : PartM X T B (WCof cl Wx) C o e' := by
  unfold compO at h
  split at h
  · cases h; exact part_none
  · obtain ⟨l, hl, rfl⟩ := Option.map_eq_some_iff.mp h
    exact part_some (Sd.cE ok hl)
theorem snd_X {X : Cx} {g : G} {Wx : WX} {a s : Expr} {a' e' : E} {pos : Pos} (ok : EOk X g T cl Wx C k) (ha : PE X a (TEv X.K T B (WCof cl Wx) (ev C a'))) (h : compX (n + 1) g a' s = some e') : PE X (.Subscript a s pos) (TEv X.K T B (WCof cl Wx) (ev C e')) := by
  unfold compX at h
  split at h
  · split at h
    · obtain ⟨l, hl, h⟩ := Option.bind_eq_some_iff.mp h
      obtain ⟨r, hr, rfl⟩ := Option.map_eq_some_iff.mp h
      exact pem_sl ha (Sd.cO ok hl) (Sd.cO ok hr)
    · cases h
  · split at h
    · rename_i hs
      obtain ⟨b', hb, rfl⟩ := Option.map_eq_some_iff.mp h
      exact pem_idx ha (Sd.cE ok hb) (plainIx hs)
    · cases h
theorem bi_call {X : Cx} {g : G} {Wx : WX} {x : Str} {args : List Expr} {b : Bi} {as : As} {p pos : Pos} (ok : EOk X g T cl Wx C k) (hx : bltG g x = true) (hb : biT x args.length = some b) (hst : args.all nStar = true) (ha : PA X args (TAv X.K T B (WCof cl Wx) (evAs C as))) (hne : args ≠ []) :
    PE X (.Call (.Name x p) args [] pos) (TEv X.K T B (WCof cl Wx) (ev C (.op (.bi b) as))) := by
  cases args with
  | nil => exact (hne rfl).elim
  | cons e es =>
    simp only [List.all_cons, Bool.and_eq_true] at hst
    obtain ⟨hg, hm, hn, hd⟩ := ok.blt hx
    have he := star_cons hst.1 es X.env
    have hpl := star_any hst.2 X.env pos
    have rd : ∀ σ H Q, TEv X.K T B (WCof cl Wx) (ev C (.op (.bi b) as)) σ H Q → tCB (OpV X.K (.bi b)) (TAv X.K T B (WCof cl Wx) (evAs C as)) σ H Q := fun σ H Q q => by
      rw [ev_op] at q
      exact q.op
    unfold biT at hb
    repeat' split at hb
    all_goals (cases hb)
    · rename_i h; obtain ⟨rfl, _⟩ := h
      exact pe_weak (pe_callB cr_len hg hm PySem.boot_len ha hn hd he hpl) rd
    · rename_i h; obtain ⟨rfl, _⟩ := h
      exact pe_weak (pe_callTy cr_tuple hg hm boot_tuple ha hn hd he hpl) rd
    · rename_i h; obtain ⟨rfl, _⟩ := h
      exact pe_weak (pe_callTy cr_list hg hm boot_list ha hn hd he hpl) rd
    · rename_i h; obtain ⟨rfl, _⟩ := h
      exact pe_weak (pe_callB (crm_sum ok.calm) hg hm (by decide +kernel) ha hn hd he hpl) rd
    · rename_i h; obtain ⟨rfl, _⟩ := h
      exact pe_weak (pe_callB (crm_min1 ok.calm) hg hm (by decide +kernel) ha hn hd he hpl) rd
    · rename_i h; obtain ⟨rfl, _⟩ := h
      exact pe_weak (pe_callB (crm_max1 ok.calm) hg hm (by decide +kernel) ha hn hd he hpl) rd
    · rename_i h; obtain ⟨rfl, _⟩ := h
      exact pe_weak (pe_callB (crm_min2 ok.calm) hg hm (by decide +kernel) ha hn hd he hpl) rd
    · rename_i h; obtain ⟨rfl, _⟩ := h
      exact pe_weak (pe_callB (crm_max2 ok.calm) hg hm (by decide +kernel) ha hn hd he hpl) rd
    · rename_i h; obtain ⟨rfl, _⟩ := h
      exact pe_weak (pe_callB crm_abs hg hm (by decide +kernel) ha hn hd he hpl) rd
    · rename_i h; obtain ⟨rfl, _⟩ := h
      exact pe_weak (pe_callTy crm_int hg hm (by decide +kernel) ha hn hd he hpl) rd
    · rename_i h; obtain ⟨rfl, _⟩ := h
      exact pe_weak (pe_callB (crm_sorted ok.hu2) hg hm (by decide +kernel) ha hn hd he hpl) rd
theorem snd_G {X : Cx} {g : G} {Wx : WX} {x : Str} {args : List Expr} {e' : E} {p pos : Pos} (ok : EOk X g T cl Wx C k) (h : compG (n + 1) g x args = some e') : PE X (.Call (.Name x p) args [] pos) (TEv X.K T B (WCof cl Wx) (ev C e')) := by
  unfold compG at h
  split at h
  · rename_i hc
    obtain ⟨hst, hne⟩ := hc
    split at h
    · rename_i hx
      obtain ⟨b, hb, h⟩ := Option.bind_eq_some_iff.mp h
      obtain ⟨as, has, rfl⟩ := Option.map_eq_some_iff.mp h
      exact bi_call Sd ok hx hb hst (Sd.cAs ok has) hne
    · split at h
      · rename_i hx
        obtain ⟨id, hid, h⟩ := Option.bind_eq_some_iff.mp h
        obtain ⟨as, has, rfl⟩ := Option.map_eq_some_iff.mp h
        obtain ⟨hg, hn, hd⟩ := ok.glb hx
        obtain ⟨f, fd, ps, hm, hk, hb, F⟩ := ok.gl x id hid
        cases args with
        | nil => exact (hne rfl).elim
        | cons e es =>
          simp only [List.all_cons, Bool.and_eq_true] at hst
          exact pe_weak (pe_callS F (ok.room.mono (Nat.le_add_right _ _)) hg hm hk hb (passAt ok.tk) (Sd.cAs ok has) hd (star_cons hst.1 es X.env) (star_any hst.2 X.env pos)) fun σ H Q q => call_read q
      · cases h
  · cases h
theorem lrev_read {X : Cx} {Wx : WX} {a : E} {σ : L2.St} {H : Hp} {Q : VK} (q : TEv X.K T B (WCof cl Wx) (ev C (.op (.bi .listRev) (.cons a .nil))) σ H Q) : RT.tLstRev X.K (TEv X.K T B (WCof cl Wx) (ev C a)) σ H Q := by
  refine (top1 q).mono fun x H1 h => ?_
  obtain ⟨N, ds, r, pr, e, k⟩ := h
  obtain ⟨d, rfl, hx⟩ := paired1 pr
  simp only [opO] at e
  unfold biO at e
  split at e <;> (try (rename_i hh; cases hh)) <;> first | contradiction | skip
  rename_i ds hcs
  cases hcs
  cases e
  obtain ⟨p, ys, rfl, hq, hd⟩ := hx.list
  exact ⟨p, ys, rfl, hq, fun l hl => k _ _ (res_lst hd.rev hl)⟩
theorem snd_F {X : Cx} {g : G} {Wx : WX} {x : Str} {args : List Expr} {e' : E} {p pos : Pos} (h0 : ∀ {g' : G} {ifs : List Expr} {t : E}, compIf n g' ifs = some t → ∃ tt, (∀ σ H Q, TTv X.K T B WF (evT C t) σ H Q → tt σ H Q) ∧ ∀ Y : Cx, EOk Y g' T cl W0 C k → Y.K = X.K → PTs Y ifs tt) (ok : EOk X g T cl Wx C k) (h : compF (n + 1) g x args = some e') : PE X (.Call (.Name x p) args [] pos) (TEv X.K T B (WCof cl Wx) (ev C e')) := by
  unfold compF at h
  split at h
  · split at h
    · rename_i hc
      obtain ⟨rfl, rfl, b1, b2, hst⟩ := hc
      obtain ⟨a, ha, rfl⟩ := Option.map_eq_some_iff.mp h
      obtain ⟨g1, m1, _, _⟩ := ok.blt b1
      obtain ⟨g2, m2, _, _⟩ := ok.blt b2
      exact pe_weak (RT.pe_lstRev ok.calm g1 m1 g2 m2 (Sd.cE ok ha) (star_cons hst [] _)) fun σ H Q q => lrev_read Sd q
    · split at h
      · rename_i hc
        obtain ⟨rfl, rfl, b1, b2, hst⟩ := hc
        obtain ⟨a, ha, rfl⟩ := Option.map_eq_some_iff.mp h
        obtain ⟨g1, m1, _, _⟩ := ok.blt b1
        obtain ⟨g2, m2, _, _⟩ := ok.blt b2
        exact pe_weak (pe_lstDict ok.calm ok.hu2 g1 m1 g2 m2 (Sd.cE ok ha) (star_cons hst [] _)) fun σ H Q q => top1 q
      · exact Sd.cG ok h
  · rename_i elt tg it ifs as scope gpos
    split at h
    · rename_i hc
      obtain ⟨rfl, hx, hb, hgc, hn, hgd⟩ := hc
      obtain ⟨it', h1, h⟩ := Option.bind_eq_some_iff.mp h
      obtain ⟨p, h2, h⟩ := Option.bind_eq_some_iff.mp h
      obtain ⟨t, h3, h⟩ := Option.bind_eq_some_iff.mp h
      obtain ⟨e1, h4, h'⟩ := Option.bind_eq_some_iff.mp h
      clear h
      split at h'
      · rename_i hp
        cases h'
        obtain ⟨tt, a, b⟩ := h0 h3
        obtain ⟨c, P, hcode, hT, TB⟩ := ok.tab hgd
        obtain ⟨hg, hm, _, _⟩ := ok.blt hb
        have r : Room (k + 1) X.A := ok.room.mono (by omega)
        have gk := genOk_by ok.N ok.sc hgc
        have hin := fun (s4 : Shared) (H4 : Hp) (Ca : Addr) (code : Value) (fp : List Addr) (pn : List (Addr × Obj)) =>
          let o4 := ok.gen hgd s4 H4 scope Ca code (cloFrom X.env.cells scope.names []) fp pn
          And.intro ((compP_ok n).1 (B := B) o4 h2) (And.intro (b _ o4 rfl) (Sd.cE o4 h4))
        rcases hx with rfl | rfl
        · exact pe_weak (GQ.pe_gall r ok.calm hg hm TB hcode gk ok.nd (Sd.cI ok h1) hin (gen_fold hn _) rfl PyProof.Rows.boot_all) fun σ H Q q => gen_read hT (own_sub hp) a q
        · exact pe_weak (GQ.pe_gany r ok.calm hg hm TB hcode gk ok.nd (Sd.cI ok h1) hin (gen_fold hn _) rfl) fun σ H Q q => gen_read hT (own_sub hp) a q
      · cases h'
    · cases h
  · exact Sd.cG ok h
theorem if_gen {K : PySem.W.Frag} {g : G} {ifs : List Expr} {t : E} (h : compIf (n + 1) g ifs = some t) : ∃ tt, (∀ σ H Q, TTv K T B WF (evT C t) σ H Q → tt σ H Q) ∧ ∀ Y : Cx, EOk Y g T cl W0 C k → Y.K = K → PTs Y ifs tt := by
  unfold compIf at h
  split at h
  · cases h
    exact ⟨tYes, fun σ H Q q => yes_tt q, fun Y _ _ => pts_nil⟩
  · exact ⟨_, fun σ H Q q => q, fun Y ok e => by subst e; exact pts_one (Sd.cT ok h)⟩
  · cases h
theorem snd_M {X : Cx} {g : G} {Wx : WX} {x m : Str} {i : Nat} {args : List Expr} {e' : E} {p apos pos : Pos} (ok : EOk X g T cl Wx C k) (hi : slotG g x = some i) (hv : visG g x = true) (hl : (apos.endLine == pos.line) = true) (h : compM (n + 1) g m i args = some e') :
    PE X (.Call (.Attribute (.Name x p) m apos) args [] pos) (TEv X.K T B (WCof cl Wx) (ev C e')) := by
  obtain ⟨v1, v2, v3⟩ := ok.vis hv
  unfold compM at h
  split at h
  · split at h
    · rename_i hm
      subst hm
      cases h
      exact pem_pop (ok.slot hi) v1 v2 v3 (abase rfl _ _ _) hl
    · cases h
  · split at h
    · rename_i hs
      obtain ⟨a, ha, h'⟩ := Option.bind_eq_some_iff.mp h
      clear h
      split at h'
      · rename_i hm
        subst hm
        cases h'
        exact pem_append (ok.slot hi) v1 v2 v3 (Sd.cE ok ha) (star_cons hs _ _) (abase rfl _ _ _) hl
      · split at h'
        · rename_i hm
          subst hm
          cases h'
          exact pem_extend (ok.slot hi) v1 v2 v3 (Sd.cE ok ha) (star_cons hs _ _) (abase rfl _ _ _) hl
        · cases h'
    · cases h
  · cases h
theorem snd_If {X : Cx} {g : G} {ifs : List Expr} {t : E} (ok : EOk X g T cl W0 C k) (h : compIf (n + 1) g ifs = some t) : (ifs = [] ∧ t = .con (.bool true)) ∨ ∃ c, ifs = [c] ∧ PT X c (TTv X.K T B WF (evT C t)) := by
  unfold compIf at h
  split at h
  · cases h; exact .inl ⟨rfl, rfl⟩
  · exact .inr ⟨_, rfl, Sd.cT ok h⟩
  · cases h
theorem blk_if {X : Cx} {g : G} {Wx : WX} {scope : Scope} {ifs : List Expr} {t : E} (ok : EOk X g T cl Wx C k) (h : compIf (n + 1) (blkG g scope) ifs = some t) : ∃ tt, (∀ σ H Q, TTv X.K T B WF (evT C t) σ H Q → tt σ H Q) ∧ Blk X scope fun Y => PTs Y ifs tt := by
  unfold compIf at h
  split at h
  · cases h
    exact ⟨tYes, fun σ H Q q => yes_tt q, fun s H Ca cc fp => pts_nil⟩
  · exact ⟨_, fun σ H Q q => q, fun s H Ca cc fp => pts_one (Sd.cT (ok.blk s H scope Ca cc fp) h)⟩
  · cases h
theorem snd_L {X : Cx} {g : G} {Wx : WX} {elt : Expr} {gens : List Comprehension} {scope : Scope} {e' : E} (h0 : ∀ {ifs : List Expr} {t : E}, compIf n (blkG g scope) ifs = some t → ∃ tt, (∀ σ H Q, TTv X.K T B WF (evT C t) σ H Q → tt σ H Q) ∧ Blk X scope fun Y => PTs Y ifs tt) (ok : EOk X g T cl Wx C k) (h : compL (n + 1) g elt gens scope = some e') : LcP X T B (WCof cl Wx) C elt gens scope e' := by
  unfold compL at h
  split at h
  · split at h
    · rename_i hc
      obtain ⟨rfl, hb, hs⟩ := hc
      obtain ⟨it', h1, h⟩ := Option.bind_eq_some_iff.mp h
      obtain ⟨p, h2, h⟩ := Option.bind_eq_some_iff.mp h
      obtain ⟨t, h3, h⟩ := Option.bind_eq_some_iff.mp h
      obtain ⟨e1, h4, h'⟩ := Option.bind_eq_some_iff.mp h
      clear h
      split at h'
      · rename_i hp
        cases h'
        obtain ⟨tt, a, b⟩ := h0 h3
        exact .one (Sd.cI ok h1) (blkOk_by (by rw [ok.N, ok.sc]; exact hb)) (own_sub hp) a (fun s H Ca cc fp => (compP_ok n).1 (ok.blk s H scope Ca cc fp) h2) b (fun s H Ca cc fp => Sd.cE (ok.blk s H scope Ca cc fp) h4) (folded_set hs _)
      · cases h'
    · cases h
  · split at h
    · rename_i hc
      obtain ⟨rfl, rfl, hb, hs, hs1⟩ := hc
      obtain ⟨it', h1, h⟩ := Option.bind_eq_some_iff.mp h
      obtain ⟨p, h2, h⟩ := Option.bind_eq_some_iff.mp h
      obtain ⟨t, h3, h⟩ := Option.bind_eq_some_iff.mp h
      obtain ⟨it1', h5, h⟩ := Option.bind_eq_some_iff.mp h
      obtain ⟨p1, h6, h⟩ := Option.bind_eq_some_iff.mp h
      obtain ⟨t1, h7, h⟩ := Option.bind_eq_some_iff.mp h
      obtain ⟨e1, h4, h'⟩ := Option.bind_eq_some_iff.mp h
      clear h
      split at h'
      · rename_i hp
        cases h'
        obtain ⟨tt, a, b⟩ := h0 h3
        obtain ⟨tt1, a1, b1⟩ := h0 h7
        exact .two (Sd.cI ok h1) (blkOk_by (by rw [ok.N, ok.sc]; exact hb)) (own_sub hp.1) (own_sub hp.2) a a1 (fun s H Ca cc fp => (compP_ok n).1 (ok.blk s H scope Ca cc fp) h2) b (fun s H Ca cc fp => Sd.cI (ok.blk s H scope Ca cc fp) h5)
          (fun s H Ca cc fp => (compP_ok n).1 (ok.blk s H scope Ca cc fp) h6) b1 (fun s H Ca cc fp => Sd.cE (ok.blk s H scope Ca cc fp) h4) (folded_set hs _) (folded_set hs1)
      · cases h'
    · cases h
  · cases h
theorem as_one {X : Cx} {g : G} {a : Expr} {as : As} (hs : nStar a = true) (h : compAs n g [a] = some as) : ∃ a', as = .cons a' .nil := by
  cases n with
  | zero => simp [compAs] at h
  | succ n =>
    unfold compAs at h
    split at h
    · rename_i z; cases z
    · rename_i z; cases z; simp [nStar] at hs
    · rename_i z; cases z
      rw [if_pos hs] at h
      obtain ⟨a', ha, h⟩ := Option.bind_eq_some_iff.mp h
      obtain ⟨r, hr, rfl⟩ := Option.map_eq_some_iff.mp h
      cases n with
      | zero => simp [compAs] at hr
      | succ n =>
        unfold compAs at hr
        cases hr
        exact ⟨_, rfl⟩
end
section
variable {T B : Addr → Prop} {cl : Nat → Value} {C : Den} {k : Nat}
theorem as_cons {n : Nat} {g : G} {a : Expr} {es : List Expr} {as : As} (hs : nStar a = true) (h : compAs n g (a :: es) = some as) : ∃ m a' r, compAs m g es = some r ∧ as = .cons a' r := by
  cases n with
  | zero => simp [compAs] at h
  | succ n =>
    unfold compAs at h
    split at h
    · rename_i z; cases z
    · rename_i z; cases z; simp [nStar] at hs
    · rename_i z; cases z
      rw [if_pos hs] at h
      obtain ⟨a', ha, h⟩ := Option.bind_eq_some_iff.mp h
      obtain ⟨r, hr, rfl⟩ := Option.map_eq_some_iff.mp h
      exact ⟨n, a', r, hr, rfl⟩
theorem as_nil {n : Nat} {g : G} {as : As} (h : compAs n g [] = some as) : as = .nil := by
  cases n with
  | zero => simp [compAs] at h
  | succ n => unfold compAs at h; cases h; rfl
theorem snd_I {n : Nat} (Sd : Snd T B cl C k n) {X : Cx} {g : G} {Wx : WX} {tg it : Expr} {it' : It} (ok : EOk X g T cl Wx C k) (h : compIt (n + 1) g tg it = some it') : PI X tg it (TIv X.K T B (WCof cl Wx) (evIt C it')) := by
  have val : ∀ {e : E}, compE n g it = some e → PI X tg it (TIv X.K T B (WCof cl Wx) (evIt C (.val e))) := fun {e} h => pi_weak (pi_src (Sd.cE ok h)) fun σ H Q q => q.val
  unfold compIt at h
  split at h
  · rename_i x p args pos
    split at h
    · rename_i hc
      obtain ⟨rfl, hx, hst, hl⟩ := hc
      obtain ⟨as, has, rfl⟩ := Option.map_eq_some_iff.mp h
      obtain ⟨hg, hm, _, _⟩ := ok.blt hx
      have PAs := Sd.cAs ok has
      match args, hl, hst with
      | [a], _, hst =>
        simp only [List.all_cons, List.all_nil, Bool.and_true] at hst
        obtain ⟨m, a', r, hr, rfl⟩ := as_cons hst has
        obtain rfl := as_nil hr
        exact pi_weak (pi_range1 hg hm PAs (star_cons hst [] _)) fun σ H Q q => q.rng1
      | [a, b], _, hst =>
        simp only [List.all_cons, List.all_nil, Bool.and_true, Bool.and_eq_true] at hst
        obtain ⟨m, a', r, hr, rfl⟩ := as_cons hst.1 has
        obtain ⟨m, b', r, hr2, rfl⟩ := as_cons hst.2 hr
        obtain rfl := as_nil hr2
        exact pi_weak (pi_range2 hg hm PAs ((star_cons hst.1 _ _).trans (by rw [star_cons hst.2]; rfl)) (star_cons hst.2 [] _)) fun σ H Q q => q.rng2
      | [], hl, _ => simp at hl
      | _ :: _ :: _ :: _, hl, _ => simp at hl
    · split at h
      · rename_i hc
        obtain ⟨rfl, hx, hst, hl, ht⟩ := hc
        obtain ⟨as, has, rfl⟩ := Option.map_eq_some_iff.mp h
        obtain ⟨hg, hm, _, _⟩ := ok.blt hx
        have PAs := Sd.cAs ok has
        cases tg <;> simp [tupT] at ht
        match args, hl, hst with
        | [a, b], _, hst =>
          have hst' := hst
          simp only [List.all_cons, List.all_nil, Bool.and_true, Bool.and_eq_true] at hst
          obtain ⟨m, a', r, hr, rfl⟩ := as_cons hst.1 has
          obtain ⟨m, b', r, hr2, rfl⟩ := as_cons hst.2 hr
          obtain rfl := as_nil hr2
          exact pi_weak (pi_z2 hg hm PAs (star_cons hst.1 _ _) (star_any (by simp [hst.2]) _ _)) fun σ H Q q => q.zip2
        | [a, b, c], _, hst =>
          simp only [List.all_cons, List.all_nil, Bool.and_true, Bool.and_eq_true] at hst
          obtain ⟨m, a', r, hr, rfl⟩ := as_cons hst.1 has
          obtain ⟨m, b', r, hr2, rfl⟩ := as_cons hst.2.1 hr
          obtain ⟨m, c', r, hr3, rfl⟩ := as_cons hst.2.2 hr2
          obtain rfl := as_nil hr3
          exact pi_weak (pi_z3 hg hm PAs (star_cons hst.1 _ _) (star_any (by simp [hst.2.1, hst.2.2]) _ _)) fun σ H Q q => q.zip3
        | [], hl, _ => simp at hl
        | [_], hl, _ => simp at hl
        | _ :: _ :: _ :: _ :: _, hl, _ => simp at hl
      · obtain ⟨e, he, rfl⟩ := Option.map_eq_some_iff.mp h
        exact val he
  · obtain ⟨e, he, rfl⟩ := Option.map_eq_some_iff.mp h
    exact val he
theorem cst_ok {X : Cx} {W : WC} {c : Const} {d : D} {j pos} (h : cstO c = some d) : PE X (.Constant c j pos) (TEv X.K T B W (ev C (.con d))) := by
  cases c <;> cases h
  · exact pem_non
  · exact pem_bl
  · exact pem_int
  · exact pem_str
theorem snd_E {n : Nat} (Sd : Snd T B cl C k n) {X : Cx} {g : G} {Wx : WX} {e : Expr} {e' : E} (ok : EOk X g T cl Wx C k) (h : compE (n + 1) g e = some e') : PE X e (TEv X.K T B (WCof cl Wx) (ev C e')) := by
  unfold compE at h
  split at h
  · split at h
    · rename_i hv
      obtain ⟨i, hi, rfl⟩ := Option.map_eq_some_iff.mp h
      obtain ⟨a, b, c⟩ := ok.vis hv
      exact pem_var (ok.slot hi) a b c
    · cases h
  · obtain ⟨d, hd, rfl⟩ := Option.map_eq_some_iff.mp h
    exact cst_ok hd
  · obtain ⟨as, has, rfl⟩ := Option.map_eq_some_iff.mp h
    exact pem_tup (Sd.cAs ok has)
  · obtain ⟨as, has, rfl⟩ := Option.map_eq_some_iff.mp h
    exact pem_lst (Sd.cAs ok has)
  · obtain ⟨o, ho, h⟩ := Option.bind_eq_some_iff.mp h
    obtain ⟨a', ha, h⟩ := Option.bind_eq_some_iff.mp h
    obtain ⟨b', hb, rfl⟩ := Option.map_eq_some_iff.mp h
    have e := bopOf_ok ho
    subst e
    exact pem_bin (Sd.cE ok ha) (Sd.cE ok hb)
  · split at h
    · obtain ⟨a', ha, rfl⟩ := Option.map_eq_some_iff.mp h
      exact pem_neg (Sd.cE ok ha)
    · obtain ⟨a', ha, rfl⟩ := Option.map_eq_some_iff.mp h
      exact pem_not (Sd.cE ok ha)
    · cases h
  · exact (Sd.cC ok h).1
  · exact Sd.cB ok h
  · obtain ⟨c', hc, h⟩ := Option.bind_eq_some_iff.mp h
    obtain ⟨a', ha, h⟩ := Option.bind_eq_some_iff.mp h
    obtain ⟨b', hb, rfl⟩ := Option.map_eq_some_iff.mp h
    exact pem_ite (Sd.cT ok hc) (Sd.cE ok ha) (Sd.cE ok hb)
  · obtain ⟨a', ha, h⟩ := Option.bind_eq_some_iff.mp h
    exact Sd.cX ok (Sd.cE ok ha) h
  · split at h
    · exact Sd.cF ok h
    · split at h
      · rename_i hc
        obtain ⟨i, hi, h⟩ := Option.bind_eq_some_iff.mp h
        exact Sd.cM ok hi hc.2 hc.1 h
      · cases h
    · cases h
  · exact (Sd.cL ok h).pe ok.calm ok.nd
  · cases h
/-- SOUNDNESS of expressions -/
theorem snd : ∀ n, Snd T B cl C k n
  | 0 => snd0
  | n + 1 => by
    have Sd := snd n
    exact {
      cE := snd_E Sd
      cC := snd_C Sd
      cB := snd_B Sd
      cT := snd_T Sd
      cTB := snd_TB Sd
      cAs := snd_As Sd
      cX := snd_X Sd
      cO := snd_O Sd
      cF := fun {X g Wx x args e' p pos} ok h => snd_F Sd (fun {g' ifs t} hi => by
        cases n with
        | zero => simp [compIf] at hi
        | succ m => exact if_gen (snd m) hi) ok h
      cG := snd_G Sd
      cM := snd_M Sd
      cL := fun {X g Wx elt gens scope e'} ok h => snd_L Sd (fun {ifs t} hi => by
        cases n with
        | zero => simp [compIf] at hi
        | succ m => exact blk_if (snd m) ok hi) ok h
      cI := snd_I Sd }
end
end Mi
set_option maxRecDepth 100000
set_option maxHeartbeats 4000000
namespace Mi
open PySem L2 PySem.Spec PyProof.Rows
def lcT : Expr → Option (Expr × List Comprehension × Scope × Pos)
  | .ListComp elt gens scope pos => some (elt, gens, scope, pos)
  | _ => none
def tupV : Expr → Option (List Expr)
  | .Tuple vs _ _ => some vs
  | _ => none
def swC (g : G) (y : Str) (py : Pos) (scope : Scope) (pos : Pos) : Bool := (match g.sc.kind with | .function => true | _ => false) && lclG g y && (py.line == pos.line) && !(scope.names.any fun (n, k) => n == y && (k == .local || k == .cell))
/-- a parallel store of names -/
def compPar (n : Nat) (g : G) (ts vs : List Expr) : Option S := match ts, vs with
  | [.Name x px, .Name y py], [a, b] => if par2 g.sc x y px py [a, b] = true then (slotG g x).bind fun i => (slotG g y).bind fun j => if i ≠ j then (compAs n g [a, b]).map fun as => .par [(i, g.own.contains x), (j, g.own.contains y)] as else none else none
  | [.Name x px, .Name y py, .Name z pz], [a, b, c] => if par3 g.sc x y z px py pz [a, b, c] = true then (slotG g x).bind fun i => (slotG g y).bind fun j => (slotG g z).bind fun l => if i ≠ j ∧ i ≠ l ∧ j ≠ l then (compAs n g [a, b, c]).map fun as => .par [(i, g.own.contains x), (j, g.own.contains y), (l, g.own.contains z)] as else none else none
  | _, _ => none
def compAsg (n : Nat) (g : G) (tg e : Expr) : Option S := match tg with
  | .Name y py => (slotG g y).bind fun i => if locG g y = true then (match lcT e with
    | some (elt, gens, scope, cpos) => if swC g y py scope cpos = true then (compL n g elt gens scope).map (.set i (g.own.contains y)) else none
    | none => if nComp e = true then (compE n g e).map (.set i (g.own.contains y)) else none) else none
  | .Tuple ts kt pt => (match tupV e with
    | some vs => if vs.all (foldedForSure 8) = true then (compP n g (.Tuple ts kt pt)).bind fun p => (compE n g e).map (.unp p) else compPar n g ts vs
    | none => if nTup e = true then (compP n g (.Tuple ts kt pt)).bind fun p => (compE n g e).map (.unp p) else none)
  | _ => none
mutual
def compS : Nat → G → Stmt → Option S
  | 0, _, _ => none
  | n + 1, g, st => match st with
    | .Assign ts e _ => (match ts with
      | [tg] => compAsg n g tg e
      | _ => none)
    | .Expr e _ => if nComp e = true then (compE n g e).map .expr else none
    | .Return o _ => (match o with
      | some e => (compE n g e).map .ret
      | none => some .retN)
    | .If c a b _ => (compT n g c).bind fun c' => (compSs n g a).bind fun a' => (compSs n g b).map fun b' => .iff c' a' b'
    | .For tg it body els _ => (match els with
      | [] => if nSet it = true then (compIt n g tg it).bind fun it' => (compP n g tg).bind fun p => (compSs n g body).map fun b' => .for p it' b' else none
      | _ => none)
    | .While c body els _ => (match els with
      | [] => (compT n g c).bind fun c' => (compSs n g body).map fun b' => .whl c' b'
      | _ => none)
    | .Pass _ => some .pass
    | .Break _ => some .brk
    | _ => none
def compSs : Nat → G → List Stmt → Option Ss
  | 0, _, _ => none
  | n + 1, g, sts => match sts with
    | [] => some .nil
    | st :: sts => (compS n g st).bind fun s => (compSs n g sts).map fun r => .cons s r
end
theorem sole_tup {ts : List Expr} {kt : Nat} {pt : Pos} {e : Expr} {l : Nat} {env : Env} : swapsWithSole [.Tuple ts kt pt] e l env = pure false := by
  cases e <;> rfl
theorem lcT_some {e : Expr} {x} (h : lcT e = some x) : e = .ListComp x.1 x.2.1 x.2.2.1 x.2.2.2 := by
  cases e <;> simp [lcT] at h
  subst h; rfl
theorem tupV_some {e : Expr} {vs} (h : tupV e = some vs) : ∃ k p, e = .Tuple vs k p := by
  cases e <;> simp [tupV] at h
  subst h; exact ⟨_, _, rfl⟩
section
variable {T B : Addr → Prop} {cl : Nat → Value} {C : Den} {k : Nat} {X : Cx} {g : G} {Wx : WX}
theorem sw_ok (ok : EOk X g T cl Wx C k) {y : Str} {py pos : Pos} {scope : Scope} {elt : Expr} {gens : List Comprehension} {l : Nat} (h : swC g y py scope pos = true) : swapsWith (.ListComp elt gens scope pos) (some (.Name y py)) l X.env = pure true ∧ X.env.scope.names.lookup y = some .local := by
  unfold swC at h
  simp only [Bool.and_eq_true, Bool.not_eq_true'] at h
  obtain ⟨⟨⟨h1, h2⟩, h3⟩, h4⟩ := h
  have hl := ok.lcl h2
  refine ⟨sw_true ?_ hl h3 h4, hl⟩
  rw [ok.sc]
  split at h1 <;> simp_all
theorem asg_ok {n : Nat} (ok : EOk X g T cl Wx C k) {tg e : Expr} {s : S} {pos : Pos} (h : compAsg n g tg e = some s) : PS X (.Assign [tg] e pos) (TSv X.K T B (WCof cl Wx) (exS C s)) := by
  have Sd := snd (T := T) (B := B) (cl := cl) (C := C) (k := k) n
  unfold compAsg at h
  split at h
  · obtain ⟨i, hi, h2⟩ := Option.bind_eq_some_iff.mp h
    clear h
    rename_i y py
    have h := h2
    clear h2
    split at h
    · rename_i hl
      split at h
      · rename_i elt gens scope cpos hlc
        have e1 := lcT_some hlc
        dsimp only at e1
        subst e1
        split at h
        · rename_i hsw
          obtain ⟨e', he, rfl⟩ := Option.map_eq_some_iff.mp h
          obtain ⟨a, b⟩ := sw_ok ok (elt := elt) (gens := gens) (l := pos.line) hsw
          exact (Sd.cL ok he).set ok.calm ok.nd (ok.slot hi) b a
        · cases h
      · split at h
        · rename_i hn
          obtain ⟨e', he, rfl⟩ := Option.map_eq_some_iff.mp h
          obtain ⟨a, b⟩ := ok.loc hl
          exact psm_set ok.nd (ok.slot hi) a (Sd.cE ok he) (swaps_no hn _ _ _) b
        · cases h
    · cases h
  · rename_i ts kt pt
    have unp : ∀ {p : Pt} {e' : E}, compP n g (.Tuple ts kt pt) = some p → compE n g e = some e' → swappedStores [.Tuple ts kt pt] e X.env = pure none → PS X (.Assign [.Tuple ts kt pt] e pos) (TSv X.K T B (WCof cl Wx) (exS C (.unp p e'))) := fun {p e'} hp he hw =>
      psm_unp (Sd.cE ok he) ((compP_ok n).1 ok hp) sole_tup hw rfl
    split at h
    · rename_i vs hv
      obtain ⟨k2, pt2, rfl⟩ := tupV_some hv
      split at h
      · rename_i hf
        obtain ⟨p, hp, h⟩ := Option.bind_eq_some_iff.mp h
        obtain ⟨e', he, rfl⟩ := Option.map_eq_some_iff.mp h
        exact unp hp he (fold_ok hf)
      · unfold compPar at h
        split at h
        · rename_i x px y py a b _
          split at h
          · rename_i hpar
            obtain ⟨i, hi, h⟩ := Option.bind_eq_some_iff.mp h
            obtain ⟨j, hj, h⟩ := Option.bind_eq_some_iff.mp h
            split at h
            · rename_i hij
              obtain ⟨as, has, rfl⟩ := Option.map_eq_some_iff.mp h
              have hpar' : par2 X.env.scope x y px py [a, b] = true := by rw [ok.sc]; exact hpar
              have hk : X.env.scope.names.lookup x = some .local ∧ X.env.scope.names.lookup y = some .local := by
                unfold par2 at hpar'
                simp only [Bool.and_eq_true] at hpar'
                obtain ⟨⟨⟨⟨⟨⟨h1, h2⟩, _⟩, _⟩, _⟩, _⟩, _⟩ := hpar'
                split at h2 <;> simp_all
              exact psm_par ok.calm ok.nd (ok.slot hi) (ok.slot hj) hij hk.1 hk.2 (Sd.cAs ok has) (par2_ok hpar') sole_tup
            · cases h
          · cases h
        · rename_i x px y py z pz a b c _
          split at h
          · rename_i hpar
            obtain ⟨i, hi, h⟩ := Option.bind_eq_some_iff.mp h
            obtain ⟨j, hj, h⟩ := Option.bind_eq_some_iff.mp h
            obtain ⟨l, hl, h⟩ := Option.bind_eq_some_iff.mp h
            split at h
            · rename_i hij
              obtain ⟨as, has, rfl⟩ := Option.map_eq_some_iff.mp h
              have hpar' : par3 X.env.scope x y z px py pz [a, b, c] = true := by rw [ok.sc]; exact hpar
              have hk : X.env.scope.names.lookup x = some .local ∧ X.env.scope.names.lookup y = some .local ∧ X.env.scope.names.lookup z = some .local := by
                unfold par3 at hpar'
                simp only [Bool.and_eq_true] at hpar'
                obtain ⟨⟨⟨⟨⟨⟨⟨⟨⟨h1, h2⟩, _⟩, _⟩, _⟩, _⟩, _⟩, _⟩, _⟩, _⟩ := hpar'
                split at h2 <;> simp_all
              exact psm_par3 ok.calm ok.nd (ok.slot hi) (ok.slot hj) (ok.slot hl) hij.1 hij.2.1 hij.2.2 hk.1 hk.2.1 hk.2.2 (Sd.cAs ok has) (par3_ok hpar') sole_tup
            · cases h
          · cases h
        · cases h
    · split at h
      · rename_i hn
        obtain ⟨p, hp, h⟩ := Option.bind_eq_some_iff.mp h
        obtain ⟨e', he, rfl⟩ := Option.map_eq_some_iff.mp h
        exact unp hp he (sw_notup hn _)
      · cases h
  · cases h
/-- SOUNDNESS of statements -/
theorem sndS (ok : EOk X g T cl Wx C k) (hp : PassesOwn (model X.prog X.w) X.A X.env X.xe) : ∀ n, (∀ {st : Stmt} {s : S}, compS n g st = some s → PS X st (TSv X.K T B (WCof cl Wx) (exS C s))) ∧ (∀ {sts : List Stmt} {ss : Ss}, compSs n g sts = some ss → PSs X sts (TSv X.K T B (WCof cl Wx) (exSs C ss)))
  | 0 => ⟨fun h => by simp [compS] at h, fun h => by simp [compSs] at h⟩
  | n + 1 => by
    obtain ⟨i1, i2⟩ := sndS ok hp n
    have Sd := snd (T := T) (B := B) (cl := cl) (C := C) (k := k) n
    refine ⟨fun {st s} h => ?_, fun {sts ss} h => ?_⟩
    · unfold compS at h
      split at h
      · split at h
        · exact asg_ok ok h
        · cases h
      · split at h
        · rename_i hn
          obtain ⟨e', he, rfl⟩ := Option.map_eq_some_iff.mp h
          exact psm_expr (Sd.cE ok he) (swaps_no hn _ _ _)
        · cases h
      · split at h
        · obtain ⟨e', he, rfl⟩ := Option.map_eq_some_iff.mp h
          exact psm_ret (Sd.cE ok he)
        · cases h; exact psm_retN
      · obtain ⟨c', hc, h⟩ := Option.bind_eq_some_iff.mp h
        obtain ⟨a', ha, h⟩ := Option.bind_eq_some_iff.mp h
        obtain ⟨b', hb, rfl⟩ := Option.map_eq_some_iff.mp h
        exact psm_iff (Sd.cT ok hc) (i2 ha) (i2 hb)
      · split at h
        · split at h
          · rename_i hs
            obtain ⟨it', h1, h⟩ := Option.bind_eq_some_iff.mp h
            obtain ⟨p, h2, h⟩ := Option.bind_eq_some_iff.mp h
            obtain ⟨b', hb, rfl⟩ := Option.map_eq_some_iff.mp h
            exact psm_for hp ok.calm (Sd.cI ok h1) ((compP_ok n).1 ok h2) (i2 hb) (folded_set hs _)
          · cases h
        · cases h
      · split at h
        · obtain ⟨c', hc, h⟩ := Option.bind_eq_some_iff.mp h
          obtain ⟨b', hb, rfl⟩ := Option.map_eq_some_iff.mp h
          exact psm_whl hp (Sd.cT ok hc) (i2 hb)
        · cases h
      · cases h; exact psm_pass
      · cases h; exact psm_brk
      · cases h
    · unfold compSs at h
      split at h
      · cases h; exact pssm_nil
      · obtain ⟨s, hs, h⟩ := Option.bind_eq_some_iff.mp h
        obtain ⟨r, hr, rfl⟩ := Option.map_eq_some_iff.mp h
        exact pssm_cons (i1 hs) (i2 hr)
end
end Mi
set_option maxRecDepth 100000
set_option maxHeartbeats 4000000
namespace Mi
open PySem L2 PySem.Spec PyProof.Rows
section
variable {K : PySem.W.Frag} {T M B : Addr → Prop} {env env' : En} {σ σ' : L2.St} {H H' : Hp} {N : Addr → Prop}
/-- empty slots behind -/
theorem ext_get {n : Nat} {i : Nat} {d : D} {k : Kd} (h : (env ++ List.replicate n none)[i]? = some (some (d, k))) : env[i]? = some (some (d, k)) := by
  by_cases hi : i < env.length
  · rw [List.getElem?_append_left hi] at h; exact h
  · rw [List.getElem?_append_right (by omega), List.getElem?_replicate] at h
    split at h <;> cases h
theorem ext_get' {n : Nat} {i : Nat} {d : D} {k : Kd} (h : env[i]? = some (some (d, k))) : (env ++ List.replicate n none)[i]? = some (some (d, k)) := by
  rw [List.getElem?_append_left (List.getElem?_eq_some_iff.mp h).1]; exact h
theorem ext_ow {n m : Nat} (hl : env.length = σ.length) {a : Addr} : Ow (env ++ List.replicate n none) (σ ++ List.replicate m none) a ↔ Ow env σ a := by
  constructor
  · rintro ⟨i, d, k, h1, h2, h3⟩
    have h1' := ext_get h1
    have hi : i < σ.length := by rw [← hl]; exact (List.getElem?_eq_some_iff.mp h1').1
    rw [List.getElem?_append_left hi] at h3
    exact ⟨i, d, k, h1', h2, h3⟩
  · rintro ⟨i, d, k, h1, h2, h3⟩
    refine ⟨i, d, k, ext_get' h1, h2, ?_⟩
    rw [List.getElem?_append_left (List.getElem?_eq_some_iff.mp h3).1]
    exact h3
theorem Rel.ext {n : Nat} (r : Rel K T M B env σ H) : Rel K T M B (env ++ List.replicate n none) (σ ++ List.replicate n none) H := by
  have ow : ∀ a, Ow (env ++ List.replicate n none) (σ ++ List.replicate n none) a → Ow env σ a := fun a => (ext_ow r.len).mp
  have hn : ∀ a, NS M (env ++ List.replicate n none) (σ ++ List.replicate n none) a → NS M env σ a := fun a z => z.imp id (ow a)
  have sg : ∀ {i : Nat} {d : D} {k : Kd}, (env ++ List.replicate n none)[i]? = some (some (d, k)) → env[i]? = some (some (d, k)) ∧ (σ ++ List.replicate n none)[i]? = σ[i]? := fun {i d k} h => by
    have h1 := ext_get h
    exact ⟨h1, List.getElem?_append_left (by rw [← r.len]; exact (List.getElem?_eq_some_iff.mp h1).1)⟩
  refine ⟨by simp [r.len], fun i d h => ?_, fun i d k h hk => ?_, fun i j d k d' k' a h1 hk1 h2 hk2 q1 q2 => ?_, fun i d a h q => ?_, fun a z => r.od a (ow a z), r.dm, r.db, r.tb⟩
  · obtain ⟨h1, e⟩ := sg h
    obtain ⟨v, q1, q2⟩ := r.fz i d h1
    exact ⟨v, by rw [e]; exact q1, q2.anti hn⟩
  · obtain ⟨h1, e⟩ := sg h
    obtain ⟨a, q1, q2⟩ := r.ow i d k h1 hk
    exact ⟨a, by rw [e]; exact q1, q2.step (Kp.refl _ _) (fun x z => .inl (hn x z)) fun _ z => z⟩
  · obtain ⟨g1, e1⟩ := sg h1
    obtain ⟨g2, e2⟩ := sg h2
    rw [e1] at q1; rw [e2] at q2
    exact r.dis i j d k d' k' a g1 hk1 g2 hk2 q1 q2
  · obtain ⟨h1, e⟩ := sg h
    rw [e] at q
    exact r.fr i d a h1 q
theorem outsE_get : ∀ {args : List (D × Bool)} {env : En} {outs : List D}, outsE args env = some outs → (endA args outs).length = args.length ∧ ∀ (n : Nat) (d : D) (k : Kd), (endA args outs)[n]? = some (some (d, k)) → k = .io ∧ env[n]? = some (some (d, .io))
  | [], env, outs, h => by simp [outsE] at h; subst h; exact ⟨rfl, fun n d k z => by simp [endA] at z⟩
  | (x, true) :: args, env, outs, h => by
    unfold outsE at h
    split at h <;> try (cases h; done)
    · rename_i z; cases z
    · rename_i z; cases z
      obtain ⟨o, ho, rfl⟩ := Option.map_eq_some_iff.mp h
      obtain ⟨l, g⟩ := outsE_get ho
      refine ⟨by simp [endA, l], fun n d k z => ?_⟩
      cases n with
      | zero => simp [endA] at z; obtain ⟨rfl, rfl⟩ := z; exact ⟨rfl, rfl⟩
      | succ n => simpa using g n d k (by simpa [endA] using z)
    · rename_i z; cases z
  | (x, false) :: args, env, outs, h => by
    unfold outsE at h
    split at h <;> try (cases h; done)
    · rename_i z; cases z
    · rename_i z; cases z
    · rename_i z; cases z
      obtain ⟨o, ho, rfl⟩ := Option.map_eq_some_iff.mp h
      obtain ⟨l, g⟩ := outsE_get ho
      refine ⟨by simp [endA, l], fun n d k z => ?_⟩
      cases n with
      | zero => simp [endA] at z
      | succ n => simpa using g n d k (by simpa [endA] using z)
/-- what a def leaves of its lent slots -/
theorem Rel.ends {args : List (D × Bool)} {outs : List D} {vs : List V} {e0 : En} {n : Nat} (ho : outsE args env' = some outs) (hl : args.length = vs.length) (s : StP e0 (vSt vs ++ List.replicate n none) H env' σ' H') (r : Rel K T M B env' σ' H') :
    Rel K T M B (endA args outs) (vSt vs) H' ∧ ∀ a, NS M (endA args outs) (vSt vs) a → NS M env' σ' a := by
  obtain ⟨l, g⟩ := outsE_get ho
  have sg : ∀ {i : Nat} {d : D} {k : Kd}, (endA args outs)[i]? = some (some (d, k)) → env'[i]? = some (some (d, .io)) ∧ (vSt vs)[i]? = σ'[i]? := fun {i d k} h => by
    obtain ⟨_, h1⟩ := g i d k h
    refine ⟨h1, ?_⟩
    rw [(s.io i d .io h1 rfl).2, List.getElem?_append_left]
    simp only [List.length_map]
    rw [← hl, ← l]
    exact (List.getElem?_eq_some_iff.mp h).1
  have ow : ∀ a, Ow (endA args outs) (vSt vs) a → Ow env' σ' a := fun a ⟨i, d, k, h1, h2, h3⟩ => by
    obtain ⟨e1, e2⟩ := sg h1
    exact ⟨i, d, .io, e1, by simp, by rw [← e2]; exact h3⟩
  have hn : ∀ a, NS M (endA args outs) (vSt vs) a → NS M env' σ' a := fun a z => z.imp id (ow a)
  refine ⟨⟨by simp [l, hl], fun i d h => ?_, fun i d k h hk => ?_, fun i j d k d' k' a h1 hk1 h2 hk2 q1 q2 => ?_, fun i d a h q => ?_, fun a z => r.od a (ow a z), r.dm, r.db, r.tb⟩, hn⟩
  · cases (g i d .fz h).1
  · obtain ⟨e1, e2⟩ := sg h
    obtain ⟨a, q1, q2⟩ := r.ow i d .io e1 (by simp)
    exact ⟨a, by rw [e2]; exact q1, q2.step (Kp.refl _ _) (fun x z => .inl (hn x z)) fun _ z => z⟩
  · obtain ⟨g1, e1⟩ := sg h1
    obtain ⟨g2, e2⟩ := sg h2
    rw [e1] at q1; rw [e2] at q2
    exact r.dis i j d .io d' .io a g1 (by simp) g2 (by simp) q1 q2
  · cases (g i d .ow h).1
theorem RtV.ends {args : List (D × Bool)} {outs : List D} {vs : List V} {e0 : En} {n : Nat} {d : D} {own : Bool} {v : V} (ho : outsE args env' = some outs) (hl : args.length = vs.length) (s : StP e0 (vSt vs ++ List.replicate n none) H env' σ' H') (r : RtV K T M B env' σ' H' d own v) :
    RtV K T M B (endA args outs) (vSt vs) H' d own v := by
  unfold RtV at r ⊢
  split at r
  · rename_i h
    rw [if_pos h]
    obtain ⟨p, e, n1, n2, rr, ob⟩ := r
    obtain ⟨a, b⟩ := rr.ends ho hl s
    exact ⟨p, e, n1, n2, a, ob.step (Kp.refl _ _) (fun x z => .inl (b x z)) fun _ z => z⟩
  · rename_i h
    rw [if_neg h]
    obtain ⟨a, b⟩ := r.1.ends ho hl s
    exact ⟨a, r.2.anti b⟩
end
section
variable {P : Program} {w : World} {K : PySem.W.Frag} {mg : Str → Option Value} {base : Heap}
/-- a def's object, its code object c -/
structure FunC (K : PySem.W.Frag) (x qual : Str) (st : Stmt) (f : Addr) (fd : FuncData) (c : Addr) : Prop where
  ex : ∃ (oc : Value) (od : Option Addr) (kV doc pm : Value) (an : Option Addr) (ct : Value) (osl : Array (Option Value)),
    fd = PySem.W.fnOf x qual (defArgs st) (defBody st) (defScope st) .none kV doc pm an (.ref c) ct ∧ K.lookup f = some ⟨oc, od, .func fd, osl⟩ ∧ PySem.W.codeIn K (.ref c) qual = true
  kp : PySem.W.keepIn K (.ref f) = true
theorem FunC.okX {x qual : Str} {st : Stmt} {f c : Addr} {fd : FuncData} {N ps : List Str} {k : Nat} {sp : Sp} (F : FunC K x qual st f fd c) (S : FnScope N ps (defScope st)) (len : ∀ vs H Q E, sp vs H Q E → vs.length = ps.length)
    (hbody : ∀ (A : Around) (outer : List Env) (s : Shared) (H : Hp) (vs : List V) (Q : VK) (E : XK), Room k (A.deeper (envOfC qual (defScope st) s.heap.objs.size f (.ref c))) → sp vs H Q E →
      ∃ t, PSs (cxOf (L2.CX P w) P w K mg base N qual (defScope st) f (.ref c) A outer s H E) (defBody st) t ∧ t { nx := fun _ H' => Q .non H', rt := Q } (start N vs) H) : FnOk P w K mg base (L2.CX P w) (k + 1) f fd ps sp := by
  obtain ⟨oc, od, kV, doc, pm, an, ct, osl, rfl, lk, hcd⟩ := F.ex
  exact fn_of lk hcd S len fun A outer s H vs Q E hr hsp => hbody A outer s H vs Q E hr hsp
/-- a def by its body's evaluation -/
theorem fn_mi {x qual : Str} {st : Stmt} {f : Addr} {fd : FuncData} {N ps : List Str} {k : Nat} {T : Addr → Prop} {cl : Nat → Value} {C : Den} {F : Fn} {c : Addr} (Fu : FunC K x qual st f fd c) (Sc : FnScope N ps (defScope st)) (hp : F.np = ps.length) (hn : F.ns = N.length)
    (hbody : ∀ (A : Around) (outer : List Env) (s : Shared) (H : Hp) (E : XK), Room k (A.deeper (envOfC qual (defScope st) s.heap.objs.size f (.ref c))) →
      PSs (cxOf (L2.CX P w) P w K mg base N qual (defScope st) f (.ref c) A outer s H E) (defBody st) (TSv K T (fun a => H a ≠ none) (WCof cl fun c d _ H' => E c d H') (exSs C F.body))) :
    FnOk P w K mg base (L2.CX P w) (k + 1) f fd ps (spF K T cl (runFn C F)) := by
  refine Fu.okX Sc (spF_len fun args h => ?_) fun A outer s H vs Q E hr h => ⟨_, hbody A outer s H E hr, ?_⟩
  · unfold runFn at h
    split at h
    · rename_i hc; rw [← hp]; exact hc.1
    · exact (h rfl).elim
  · obtain ⟨Mc, args, r, h⟩ := h
    have hlen : args.length = vs.length := by
      have := r.len
      simpa [startA] using this
    unfold runFn at h
    by_cases hc : args.length = F.np ∧ F.np ≤ F.ns
    · rw [if_pos hc] at h
      have es : L2.start N vs = vSt vs ++ List.replicate (F.ns - F.np) none := by
        unfold L2.start
        rw [hn, ← hc.1, hlen]
      have ee : startE F args = startA args ++ List.replicate (F.ns - F.np) none := rfl
      rw [es]
      have r' := r.ext (n := F.ns - F.np)
      refine ⟨startE F args, Mc, r', ?_⟩
      have frA : ∀ {env' : En} {σ' : L2.St} {H' : Hp}, StP (startE F args) (vSt vs ++ List.replicate (F.ns - F.np) none) H env' σ' H' → Fre (startA args) (vSt vs) H H' := fun {env' σ' H'} z =>
        ⟨fun a o h1 h2 h3 => z.fre.kp a o h1 (fun q => h2 ((ext_ow r.len).mp q)) h3, z.fre.dm⟩
      cases ex : exSs C F.body (startE F args) with
      | bad => rw [ex] at h; exact h
      | ex c env =>
        rw [ex] at h
        simp only at h
        cases eo : outsE args env with
        | none => rw [eo] at h; exact h.elim
        | some outs =>
          rw [eo] at h
          exact fun σ' H' s' r1 => h H' (frA s') (r1.ends eo hlen s').1
      | ok fl env =>
        rw [ex] at h
        simp only at h
        cases eo : outsE args env with
        | none => rw [eo] at h; exact h.elim
        | some outs =>
          rw [eo] at h
          cases fl with
          | nx => exact fun σ' H' s' r1 => h .non H' (frA s') ⟨(r1.ends eo hlen s').1, .non⟩
          | brk => exact h.elim
          | ret d own => exact fun v σ' H' s' r1 => h v H' (frA s') (r1.ends eo hlen s')
    · rw [if_neg hc] at h
      exact h.elim
/-- a def of the text: its name, its statement, its slots, those that own, what it is -/
structure FD where
  x : Str
  qual : Str
  st : Stmt
  N : List Str
  ps : List Str
  own : List Str
  gd : Nat
  F : Fn
def lev (k : Nat) : Nat := 2 * k
def glOf (tb : List FD) : List (Str × Nat) := (tb.map (·.x)).zipIdx
def gOf (tb : List FD) (bl : List Str) (d : FD) : G := ⟨d.N, defScope d.st, true, [], glOf tb, bl, d.own, d.gd⟩
def PF (tb : List FD) (i : Nat) : Option Fn := (tb[i]?).map (·.F)
/-- a def's text reads as what it is -/
structure FD.Ok (tb : List FD) (bl : List Str) (fuel : Nat) (d : FD) : Prop where
  sc : FnScope d.N d.ps (defScope d.st)
  np : d.F.np = d.ps.length
  ns : d.F.ns = d.N.length
  gd : d.gd ≤ 1
  body : compSs fuel (gOf tb bl d) (defBody d.st) = some d.F.body
theorem gl_get {tb : List FD} {x : Str} {id : Nat} (h : (glOf tb).lookup x = some id) : ∃ d, tb[id]? = some d ∧ d.x = x := by
  have := PySem.mem_of_lookup h
  unfold glOf at this
  obtain ⟨_, h2⟩ := List.mem_zipIdx this
  have h3 := (List.mem_zipIdx_iff_getElem?.mp this)
  rw [List.getElem?_map] at h3
  obtain ⟨d, h4, h5⟩ := Option.map_eq_some_iff.mp h3
  exact ⟨d, h4, h5⟩
theorem den_ok {tb : List FD} {bl : List Str} {fuel : Nat} {mt : Nat → Nat → Bool} {T : Addr → Prop} {cl : Nat → Value} (hok : ∀ d ∈ tb, FD.Ok tb bl fuel d) (hbl : ∀ x, bl.contains x = true → mg x = none)
    (hf : ∀ d ∈ tb, ∃ f fd c, FunC K d.x d.qual d.st f fd c ∧ mg d.x = some (.ref f) ∧ Binds K fd d.ps [] ∧ (0 < d.gd → ∃ P, T P ∧ GxR.TabB base mg c P)) : ∀ (k : Nat) (i : Nat) (d : FD) (f : Addr) (fd : FuncData) (c : Addr), tb[i]? = some d → FunC K d.x d.qual d.st f fd c → (0 < d.gd → ∃ P, T P ∧ GxR.TabB base mg c P) → mg d.x = some (.ref f) → FnOk P w K mg base (L2.CX P w) (lev k) f fd d.ps (spF K T cl (den (PF tb) mt k i))
  | 0, i, d, f, fd, c, hd, Fu, ht, hm => ⟨fun vs H Q E ⟨_, _, _, h⟩ => h.elim, fun A outer s H args us vs Q E _ _ _ _ ⟨_, _, _, h⟩ => h.elim⟩
  | k + 1, i, d, f, fd, c, hd, Fu, ht, hm => by
    have ok := hok d (List.mem_of_getElem? hd)
    have e : den (PF tb) mt (k + 1) i = runFn ⟨den (PF tb) mt k, mt⟩ d.F := by
      funext args
      show (match PF tb i with | some F => runFn ⟨den (PF tb) mt k, mt⟩ F args | none => .bad) = _
      unfold PF
      rw [hd]
      rfl
    rw [e]
    show FnOk P w K mg base (L2.CX P w) (lev k + 1 + 1) f fd d.ps _
    refine fn_mi Fu ok.sc ok.np ok.ns fun A outer s H E hr => ?_
    refine (sndS (X := cxOf (L2.CX P w) P w K mg base d.N d.qual (defScope d.st) f (.ref c) A outer s H E) (g := gOf tb bl d) (k := lev k) ⟨rfl, ok.sc.nd, rfl, rfl, hr.mono (Nat.add_le_add_left ok.gd _), fun z => (let ⟨P, h1, h2⟩ := ht z; ⟨c, P, rfl, h1, h2⟩), takes_of rfl rfl rfl rfl, fun _ _ => rfl, hbl, fun x id h => ?_⟩ (passes_of rfl) fuel).2 ok.body
    obtain ⟨d', hd', rfl⟩ := gl_get h
    obtain ⟨f', fd', c', Fu', hm', hb', ht'⟩ := hf d' (List.mem_of_getElem? hd')
    exact ⟨f', fd', d'.ps, hm', Fu'.kp, hb', den_ok hok hbl hf k id d' f' fd' c' hd' Fu' ht' hm'⟩
end
end Mi
set_option maxRecDepth 100000
namespace Mi
open PySem PySem.Spec PyProof.Rows L2
def FD.binds (d : FD) : Prop := ∀ (kV doc pm : Value) (an : Option Addr) (cdv ct : Value) (us : List Value), us.length = d.ps.length → bindArgs (PySem.W.fnOf d.x d.qual (defArgs d.st) (defBody d.st) (defScope d.st) .none kV doc pm an cdv ct) ⟨us, []⟩ = pure (d.ps.zip us)
def FD.dat (d : FD) : He.DefD := ⟨(d.x, none), d.x, d.qual, defArgs d.st, defBody d.st, defScope d.st, [], []⟩
def fnT (tb : List FD) : List He.DefD := tb.map FD.dat
def faT (tb : List FD) (bl : List Str) : List He.Fa := tb.map (fun d => He.Fa.glo d.x) ++ bl.map He.Fa.free
def tfT (tb : List FD) : List He.Defn := (tb.filter fun d => decide (0 < d.gd)).map fun d => (d.x, none)
theorem funC_of {K : PySem.W.Frag} {x qual : Str} {st : Stmt} {f : Addr} {fd : FuncData} (F : FunD K x qual (defArgs st) (defBody st) (defScope st) [] [] f fd) : ∃ c, FunC K x qual st f fd c ∧ fd.code = .ref c := by
  obtain ⟨oc, od, dV, kV, doc, pm, an, cdv, ct, osl, rfl, lk, hcd, hD, hK⟩ := F.ex
  rcases hD with ⟨_, rfl⟩ | ⟨e, _⟩
  · obtain ⟨c, rfl⟩ := He.codeIn_ref hcd
    exact ⟨c, ⟨⟨oc, od, kV, doc, pm, an, ct, osl, rfl, lk, hcd⟩, F.kp⟩, rfl⟩
  · exact absurd rfl e
theorem rel_start {K : PySem.W.Frag} {T : Addr → Prop} {H : Hp} {a : Addr} {ns : List Int} (hT : ∀ P, T P → H P = some (.tbl #[])) (hS : SqL K H a (ns.map V.int)) : Rel K T (fun _ => False) (fun b => H b ≠ none) (startA [(.list (ns.map .int), false)]) (vSt [.ref a]) H := by
  have no : ∀ {i : Nat} {d : D} {k : Kd}, (startA [(PyData.list (ns.map .int), false)])[i]? = some (some (d, k)) → i = 0 ∧ d = .list (ns.map .int) ∧ k = .fz := fun {i d k} h => by
    cases i with
    | zero =>
      have h : some (some (PyData.list (ns.map .int), Kd.fz)) = some (some (d, k)) := h
      cases h
      exact ⟨rfl, rfl, rfl⟩
    | succ i => cases h
  have nOw : ∀ b, ¬ Ow (startA [(PyData.list (ns.map .int), false)]) (vSt [.ref a]) b := fun b ⟨i, d, k, h1, h2, _⟩ => h2 (no h1).2.2
  have hds : ∀ {N : Addr → Prop} (ns : List Int), DRs K H N (ns.map V.int) (ns.map PyData.int) := fun {N} ns => by
    induction ns with
    | nil => exact .nil
    | cons n ns ih => exact .cons (.int n) ih
  refine ⟨rfl, fun i d h => ?_, fun i d k h hk => absurd (no h).2.2 hk, fun i j d k d' k' b h1 hk1 _ _ _ _ => absurd (no h1).2.2 hk1, fun i d b h _ => ?_, fun b z => absurd z (nOw b), fun b z => z.elim, fun b z => z, fun P hP => ?_⟩
  · obtain ⟨rfl, rfl, _⟩ := no h
    refine ⟨.ref a, rfl, .lst ?_ (hds ns)⟩
    exact hS.imp (fun z => ⟨z, fun q => q.elim id (nOw a)⟩) id
  · cases (no h).2.2
  · exact ⟨#[], hT P hP, by first | exact trivial | simp [TriplesOk] | decide⟩
section
variable {l : PySem.W.OpenLaw} {w : World} {K : PySem.W.Frag} {h : Heap} {mg : Str → Option Value} {tb : List FD} {bl : List Str} {fuel : Nat} {mt : Nat → Nat → Bool} {ex : PySem.W.Frag → Bool}
/-- the law's promise by the table of its defs and its value -/
theorem law_at {f : Addr} {lawId k : Nat} {dl : FD} (hok : ∀ d ∈ tb, FD.Ok tb bl fuel d) (hb : ∀ d ∈ tb, d.binds) (hl : tb[lawId]? = some dl) (hps : dl.ps = [("script" : Str)])
    (hval : ∀ ns : List Int, ns.length ≤ 63 → den (PF tb) mt k lawId [(.list (ns.map .int), false)] = .ok (.bool true) false [.none])
    (X : K.In h) (G : h.Ns mainGlobals mg) (hmg : mg dl.x = some (.ref f)) (c : He.SaysX (faT tb bl) (fnT tb) [] (tfT tb) ex w h K) : LamX.LawAtS l w K (L2.CX l.prog w) (lev k) 63 "script" mg f h := by
  have cd := c.t.d
  have hdef : ∀ d ∈ tb, ∃ fd c', FunC K d.x d.qual d.st (He.fAd K (d.x, none)) fd c' ∧ fd.code = .ref c' ∧ mg d.x = some (.ref (He.fAd K (d.x, none))) ∧ Binds K fd d.ps [] := fun d hd => by
    obtain ⟨fd, F⟩ := cd.defs (d := d.dat) (List.mem_map.mpr ⟨d, hd, rfl⟩)
    have F : FunD K d.x d.qual (defArgs d.st) (defBody d.st) (defScope d.st) [] [] (He.fAd K (d.x, none)) fd := F
    obtain ⟨c', FC, e⟩ := funC_of F
    refine ⟨fd, c', FC, e, He.glo_ok X G (cd.facts (f := .glo d.x) (List.mem_append_left _ (List.mem_map.mpr ⟨d, hd, rfl⟩))), F.bindsN (hb d hd)⟩
  have hbl : ∀ x, bl.contains x = true → mg x = none := fun x hx => He.free_ok X G (cd.facts (f := .free x) (List.mem_append_right _ (List.mem_map.mpr ⟨x, by simpa using hx, rfl⟩)))
  have hdl := List.mem_of_getElem? hl
  obtain ⟨fd, FD0⟩ := cd.defs (d := dl.dat) (List.mem_map.mpr ⟨dl, hdl, rfl⟩)
  have FD0 : FunD K dl.x dl.qual (defArgs dl.st) (defBody dl.st) (defScope dl.st) [] [] (He.fAd K (dl.x, none)) fd := FD0
  obtain ⟨c', FC, ec⟩ := funC_of FD0
  have hm := He.glo_ok X G (cd.facts (f := .glo dl.x) (List.mem_append_left _ (List.mem_map.mpr ⟨dl, hdl, rfl⟩)))
  rw [hmg] at hm
  have ef : f = He.fAd K (dl.x, none) := by
    cases hm
    rfl
  subst ef
  refine ⟨fd, (tfT tb).map (He.cT K), spF K (fun P => ∃ p ∈ (tfT tb).map (He.cT K), p.2 = P) (fun _ => .none) (den (PF tb) mt k lawId), fun p hp => ?_, fun p hp => ?_, fun p hp => ?_, fun s u => ?_, fun H a ns hn _ hT hS => ?_, fun base hB hG hTB => ?_⟩
  · obtain ⟨q, hq, rfl⟩ := List.mem_map.mp hp
    exact c.empty q hq
  · obtain ⟨q, hq, rfl⟩ := List.mem_map.mp hp
    exact c.out q hq
  · obtain ⟨q, hq, rfl⟩ := List.mem_map.mp hp
    exact PySem.W.codeHd_of_K X (c.hd q hq)
  · have := FD0.bindsA (ps := dl.ps) (hb dl hdl) s [u] (by rw [hps]; rfl)
    rw [hps] at this
    exact this
  · refine ⟨fun _ => False, [(.list (ns.map .int), false)], rel_start (fun P ⟨p, hp, e⟩ => by rw [← e]; exact hT p hp) hS, ?_⟩
    rw [hval ns hn]
    intro v H' _ r
    unfold RtV at r
    rw [if_neg (by decide)] at r
    cases r.2
    rfl
  · have tabs : ∀ d ∈ tb, ∀ c', (∃ fd, FunC K d.x d.qual d.st (He.fAd K (d.x, none)) fd c' ∧ fd.code = .ref c') → 0 < d.gd → ∃ P, (∃ p ∈ (tfT tb).map (He.cT K), p.2 = P) ∧ GxR.TabB base mg c' P := fun d hd c' ⟨fd, FC, e⟩ hg => by
      have hp : (d.x, (none : Option Str)) ∈ tfT tb := List.mem_map.mpr ⟨d, List.mem_filter.mpr ⟨hd, decide_eq_true hg⟩, rfl⟩
      have hq := List.mem_map_of_mem (f := He.cT K) hp
      have t := hTB _ hq
      obtain ⟨oc, od, kV, doc, pm, an, ct, osl, e1, lk, _⟩ := FC.ex
      have hc : (He.cT K (d.x, none)).1 = c' := He.codeOf_eq lk e
      refine ⟨_, ⟨_, hq, rfl⟩, ?_⟩
      have t1 := t.code
      rw [hc] at t1
      exact ⟨t1, t.bm, t.gP⟩
    have := den_ok (P := l.prog) (w := w) (K := K) (mg := mg) (base := base) (tb := tb) (bl := bl) (fuel := fuel) (mt := mt) (T := fun P => ∃ p ∈ (tfT tb).map (He.cT K), p.2 = P) (cl := fun _ => .none) hok hbl (fun d hd => by
      obtain ⟨fd, c', FC, e, hm, hbd⟩ := hdef d hd
      exact ⟨_, fd, c', FC, hm, hbd, tabs d hd c' ⟨fd, FC, e⟩⟩) k lawId dl (He.fAd K (dl.x, none)) fd c' hl FC (tabs dl hdl c' ⟨fd, FC, ec⟩) hmg
    rw [hps] at this
    exact this
theorem cx_none {P : Program} (w : World) (H : Hp) (s : Shared) (e : Value) (s' : Shared) (z : L2.CX P w [] H s (fun _ _ _ => False) e s') : False := by
  obtain ⟨_, _, _, _, _, _, _, _, _, _, _, _, z⟩ := z
  exact z
end
end Mi
/-! Equations by which the core language's terms are evaluated in proofs. -/
namespace Mi
open PySem
section
variable {C : Den}
theorem lockE_v (d : D) (rs : List R) (env : En) : lockE (.v d :: rs) env = lockE rs env := rfl
theorem lockE_o (d : D) (rs : List R) (env : En) : lockE (.o d :: rs) env = lockE rs env := rfl
theorem lockE_nil (env : En) : lockE [] env = env := rfl
theorem unlockE_nil (env : En) : unlockE [] env = env := rfl
theorem unl_ok {α : Type} (is : List Nat) (a : α) (e : En) : O.unl is (.ok a e) = .ok a (unlockE is e) := rfl
theorem noxq_ok {α : Type} (a : α) (e : En) : O.nox (.ok a e : O α) = .ok a e := rfl
theorem boolR_v (b : Bool) (e : En) : boolR (.v (.bool b)) e = .ok b e := rfl
theorem wipeE_nil (e : En) : wipeE [] e = e := rfl
theorem wipeE_cons (i : Nat) (is : List Nat) (e : En) : wipeE (i :: is) e = wipeE is (e.set i none) := rfl
theorem backE_nil (e e' : En) : backE [] e e' = e' := rfl
theorem backE_cons (i : Nat) (is : List Nat) (e e' : En) : backE (i :: is) e e' = backE is e (e'.set i (e.getD i none)) := rfl
/-- a search's turns, when each leaves the state as it was -/
theorem turnsB_at {α : Type} {ws : List R} {own : List Nat} {f : D → En → O Bool} {E0 : En} (h : α → D) (g : α → Bool) (hl : lkd E0 ws = true) : ∀ {xs : List α}, (∀ x ∈ xs, ∃ e1, f (h x) E0 = .ok (g x) e1 ∧ wipeE own e1 = E0) → turnsB ws own f (xs.map h) E0 = .ok (xs.any g) E0
  | [], _ => by simp [turnsB, hl]
  | d :: ds, hd => by
    obtain ⟨e1, h1, h2⟩ := hd d List.mem_cons_self
    have ih := turnsB_at (own := own) h g hl (xs := ds) fun d hd' => hd d (List.mem_cons_of_mem _ hd')
    simp only [turnsB, hl, if_true, List.map_cons, h1, O.bind_ok, h2, List.any_cons]
    cases g d
    · simpa using ih
    · simp
/-- a clause's turns, when each leaves the state as it was -/
theorem turnsG_at {α : Type} {ws : List R} {own : List Nat} {f : D → En → O (List D)} {E0 : En} (h : α → D) (g : α → List D) (hl : lkd E0 ws = true) : ∀ {xs : List α}, (∀ x ∈ xs, ∃ e1, f (h x) E0 = .ok (g x) e1 ∧ wipeE own e1 = E0) → turnsG ws own f (xs.map h) E0 = .ok (xs.flatMap g) E0
  | [], _ => by simp [turnsG, hl]
  | d :: ds, hd => by
    obtain ⟨e1, h1, h2⟩ := hd d List.mem_cons_self
    have ih := turnsG_at (own := own) h g hl (xs := ds) fun d hd' => hd d (List.mem_cons_of_mem _ hd')
    simp only [turnsG, hl, if_true, List.map_cons, h1, O.bind_ok, h2, ih, List.flatMap_cons]
theorem turnsG_map {α : Type} {ws : List R} {own : List Nat} {f : D → En → O (List D)} {E0 : En} (h g : α → D) (hl : lkd E0 ws = true) {xs : List α} (hx : ∀ x ∈ xs, ∃ e1, f (h x) E0 = .ok [g x] e1 ∧ wipeE own e1 = E0) : turnsG ws own f (xs.map h) E0 = .ok (xs.map g) E0 := by
  rw [turnsG_at (g := fun x => [g x]) h hl hx, ← List.map_eq_flatMap]
/-- .. when a list of states goes along -/
theorem turnsG_inv {ws : List R} {own : List Nat} {f : D → En → O (List D)} (P : List D → List D → En → Prop) (hl : ∀ ds out e, P ds out e → lkd e ws = true) (hs : ∀ d ds out e, P (d :: ds) out e → ∃ x e1, f d e = .ok x e1 ∧ P ds (out ++ x) (wipeE own e1)) : ∀ {ds out : List D} {e : En}, P ds out e → ∃ y e2, turnsG ws own f ds e = .ok y e2 ∧ P [] (out ++ y) e2
  | [], out, e, h => ⟨[], e, by simp [turnsG, hl _ _ _ h], by simpa using h⟩
  | d :: ds, out, e, h => by
    obtain ⟨x, e1, h1, h2⟩ := hs d ds out e h
    obtain ⟨y, e2, h3, h4⟩ := turnsG_inv P hl hs h2
    refine ⟨x ++ y, e2, ?_, by rwa [← List.append_assoc]⟩
    simp only [turnsG, hl _ _ _ h, if_true, h1, O.bind_ok, h3]
/-- a loop -/
theorem loopS_inv {ws : List R} {f : D → En → O Fl} (P : List D → En → Prop) (hl : ∀ ds e, P ds e → lkd e ws = true) (hs : ∀ d ds e, P (d :: ds) e → ∃ e1, f d e = .ok .nx e1 ∧ P ds e1) : ∀ {ds : List D} {e : En}, P ds e → ∃ e2, loopS ws f ds e = .ok .nx e2 ∧ P [] e2
  | [], e, h => ⟨e, by simp [loopS, hl _ _ h], h⟩
  | d :: ds, e, h => by
    obtain ⟨e1, h1, h2⟩ := hs d ds e h
    obtain ⟨e2, h3, h4⟩ := loopS_inv P hl hs h2
    refine ⟨e2, ?_, h4⟩
    simp only [loopS, hl _ _ h, if_true, h1, O.bind_ok, h3]
/-- a list comprehension of one clause -/
theorem ev_lc {own : List Nat} {p : Pt} {it : It} {t e : E} {env e1 e2 : En} {ds y : List D} {ws : List R} (ho : ownOk own env = true) (hi : evIt C it env = .ok (ds, ws) e1)
    (hb : turnsG ws own (bodyG p (ev C t) (fun e0 => (ev C e e0).bind fun x e1 => (O.of (tk e1 x) e1).bind fun y _ => .ok [y.1] y.2) []) ds (lockE ws (wipeE own e1)) = .ok y e2) (hy : y.length ≤ sizeLine) :
    ev C (.lc own p it t e) env = .ok (.o (.list y)) (backE own env (unlockE (ws.filterMap (fresh1 (wipeE own e1))) e2)) := by
  simp only [ev, ho, if_true, hi, O.bind_ok, locked, hb, unl_ok, noxq_ok, hy]
/-- a turn of a comprehension without test -/
theorem body_lc {p : Pt} {e : E} {d d' : D} {env e3 e4 e5 : En} {r : R} (hp : bindP p d env = some e3) (he : ev C e e3 = .ok r e4) (ht : tk e4 r = some (d', e5)) :
    bodyG p (ev C (.con (.bool true))) (fun e0 => (ev C e e0).bind fun x e1 => (O.of (tk e1 x) e1).bind fun y _ => .ok [y.1] y.2) [] d env = .ok [d'] e5 := by
  simp only [bodyG, hp, O.of_some, O.bind_ok, ev, boolR_v, if_true, he, ht, noxq_ok]
theorem body_lcv {p : Pt} {e : E} {d d' : D} {env e3 e4 : En} (hp : bindP p d env = some e3) (he : ev C e e3 = .ok (.v d') e4) :
    bodyG p (ev C (.con (.bool true))) (fun e0 => (ev C e e0).bind fun x e1 => (O.of (tk e1 x) e1).bind fun y _ => .ok [y.1] y.2) [] d env = .ok [d'] e4 := body_lc hp he rfl
theorem ev_gen {any : Bool} {own : List Nat} {p : Pt} {it : It} {t e : E} {env e1 e2 : En} {ds : List D} {ws : List R} {y : Bool} (ho : ownOk own env = true) (hi : evIt C it env = .ok (ds, ws) e1)
    (hb : turnsB ws own (bodyG p (ev C t) (fun e0 => (ev C e e0).bind fun x e1 => (boolR x e1).bind fun b _ => .ok (b == any) e1) false) ds (lockE ws (wipeE own e1)) = .ok y e2) :
    ev C (.gen any own p it t e) env = .ok (.v (.bool (y == any))) (backE own env (unlockE (ws.filterMap (fresh1 (wipeE own e1))) e2)) := by
  simp only [ev, ho, if_true, hi, O.bind_ok, locked, hb, unl_ok, noxq_ok]
theorem body_gen {any : Bool} {p : Pt} {e : E} {d : D} {b : Bool} {env e3 e4 : En} (hp : bindP p d env = some e3) (he : ev C e e3 = .ok (.v (.bool b)) e4) :
    bodyG p (ev C (.con (.bool true))) (fun e0 => (ev C e e0).bind fun x e1 => (boolR x e1).bind fun b _ => .ok (b == any) e1) false d env = .ok (b == any) e4 := by
  simp only [bodyG, hp, O.of_some, O.bind_ok, ev, boolR_v, if_true, he, noxq_ok]
theorem exS_for {p : Pt} {it : It} {b : Ss} {env e1 e2 : En} {ds : List D} {ws : List R} {x : Fl} (hi : evIt C it env = .ok (ds, ws) e1) (hb : loopS ws (fun d e2 => (O.of (bindP p d e2) e2).bind fun e3 _ => exSs C b e3) ds (lockE ws e1) = .ok x e2) :
    exS C (.for p it b) env = .ok x (unlockE (ws.filterMap (fresh1 e1)) e2) := by
  simp only [exS, hi, O.bind_ok, locked, hb, unl_ok]
theorem for_inv {p : Pt} {it : It} {b : Ss} {env e1 : En} {ds : List D} {ws : List R} (hi : evIt C it env = .ok (ds, ws) e1) (P : List D → En → Prop) (h0 : P ds (lockE ws e1)) (hl : ∀ ds e, P ds e → lkd e ws = true)
    (hs : ∀ d ds e, P (d :: ds) e → ∃ e3 e4, bindP p d e = some e3 ∧ exSs C b e3 = .ok .nx e4 ∧ P ds e4) : ∃ e2, exS C (.for p it b) env = .ok .nx (unlockE (ws.filterMap (fresh1 e1)) e2) ∧ P [] e2 := by
  obtain ⟨e2, h1, h2⟩ := loopS_inv (ws := ws) (f := fun d e2 => (O.of (bindP p d e2) e2).bind fun e3 _ => exSs C b e3) P hl (fun d ds e h => by
    obtain ⟨e3, e4, h3, h4, h5⟩ := hs d ds e h
    exact ⟨e4, by simp only [h3, O.of_some, O.bind_ok, h4], h5⟩) h0
  exact ⟨e2, exS_for hi h1, h2⟩
theorem for_map {α : Type} {p : Pt} {it : It} {b : Ss} {env e1 : En} {xs : List α} {h : α → D} {ws : List R} (hi : evIt C it env = .ok (xs.map h, ws) e1) (P : List α → En → Prop) (h0 : P xs (lockE ws e1)) (hl : ∀ ds e, P ds e → lkd e ws = true)
    (hs : ∀ d ds e, P (d :: ds) e → ∃ e3 e4, bindP p (h d) e = some e3 ∧ exSs C b e3 = .ok .nx e4 ∧ P ds e4) : ∃ e2, exS C (.for p it b) env = .ok .nx (unlockE (ws.filterMap (fresh1 e1)) e2) ∧ P [] e2 := by
  obtain ⟨e2, h1, ys, h2, h3⟩ := for_inv (p := p) (b := b) hi (fun ds e => ∃ ys, ds = ys.map h ∧ P ys e) ⟨xs, rfl, h0⟩ (fun ds e ⟨ys, _, h⟩ => hl _ _ h) (fun d ds e ⟨ys, h1, h2⟩ => by
    cases ys with
    | nil => cases h1
    | cons y ys =>
      cases h1
      obtain ⟨e3, e4, a, b, c⟩ := hs _ _ _ h2
      exact ⟨e3, e4, a, b, ys, rfl, c⟩)
  have : ys = [] := by simpa using h2.symm
  subst this
  exact ⟨e2, h1, h3⟩
theorem for_rng {p : Pt} {it : It} {b : Ss} {env e1 : En} {n : Nat} {ws : List R} (hi : evIt C it env = .ok ((List.range n).map (fun (i : Nat) => PyData.int i), ws) e1) (P : Nat → En → Prop) (h0 : P 0 (lockE ws e1)) (hl : ∀ i e, P i e → lkd e ws = true)
    (hs : ∀ i e, i < n → P i e → ∃ e3 e4, bindP p (.int i) e = some e3 ∧ exSs C b e3 = .ok .nx e4 ∧ P (i + 1) e4) : ∃ e2, exS C (.for p it b) env = .ok .nx (unlockE (ws.filterMap (fresh1 e1)) e2) ∧ P n e2 := by
  rw [List.range_eq_range'] at hi
  obtain ⟨e2, h1, i, k, h2, h3, h4⟩ := for_map (p := p) (b := b) hi (fun xs e => ∃ i k, xs = List.range' i k ∧ i + k = n ∧ P i e) ⟨0, n, rfl, by omega, h0⟩ (fun ds e ⟨_, _, _, _, h⟩ => hl _ _ h) (fun d ds e ⟨i, k, h1, h2, h3⟩ => by
    cases k with
    | zero => cases h1
    | succ k =>
      rw [List.range'_succ] at h1
      cases h1
      obtain ⟨e3, e4, a, b, c⟩ := hs _ _ (by omega) h3
      exact ⟨e3, e4, a, b, d + 1, k, rfl, by omega, c⟩)
  have : k = 0 := by simpa using h2.symm
  subst this
  have : i = n := by omega
  subst this
  exact ⟨e2, h1, h4⟩
theorem loop_cons {ws : List R} {p : Pt} {b : Ss} {d : D} {ds : List D} {env e3 e4 : En} (hl : lkd env ws = true) (hp : bindP p d env = some e3) (hb : exSs C b e3 = .ok .nx e4) : loopS ws (fun d e2 => (O.of (bindP p d e2) e2).bind fun e3 _ => exSs C b e3) (d :: ds) env = loopS ws (fun d e2 => (O.of (bindP p d e2) e2).bind fun e3 _ => exSs C b e3) ds e4 := by
  simp only [loopS, hl, if_true, hp, O.of_some, O.bind_ok, hb]
theorem loop_nil {ws : List R} {f : D → En → O Fl} {env : En} (hl : lkd env ws = true) : loopS ws f [] env = .ok .nx env := by
  simp only [loopS, hl, if_true]
theorem ev_lc2 {own : List Nat} {p p1 : Pt} {it it1 : It} {t t1 e : E} {env e1 e2 : En} {ds y : List D} {ws : List R} (ho : ownOk own env = true) (hi : evIt C it env = .ok (ds, ws) e1)
    (hb : turnsG ws own (bodyG p (ev C t) (fun e0 => (evIt C it1 e0).bind fun x1 e5 =>
        locked x1.2 (turnsG x1.2 (slotsP p1) (bodyG p1 (ev C t1) (fun e0 => (ev C e e0).bind fun x e1 => (O.of (tk e1 x) e1).bind fun y _ => .ok [y.1] y.2) []) x1.1) (wipeE (slotsP p1) e5)) []) ds (lockE ws (wipeE own e1)) = .ok y e2) (hy : y.length ≤ sizeLine) :
    ev C (.lc2 own p it t p1 it1 t1 e) env = .ok (.o (.list y)) (backE own env (unlockE (ws.filterMap (fresh1 (wipeE own e1))) e2)) := by
  simp only [locked] at hb
  simp only [ev, ho, if_true, hi, O.bind_ok, locked]
  simp only [hb, unl_ok, noxq_ok, O.bind_ok, hy, if_true]
theorem body_lc2 {p p1 : Pt} {it1 : It} {t1 e : E} {d : D} {env e3 e5 e6 : En} {ds1 y : List D} {ws1 : List R} (hp : bindP p d env = some e3) (hi : evIt C it1 e3 = .ok (ds1, ws1) e5)
    (hb : turnsG ws1 (slotsP p1) (bodyG p1 (ev C t1) (fun e0 => (ev C e e0).bind fun x e1 => (O.of (tk e1 x) e1).bind fun y _ => .ok [y.1] y.2) []) ds1 (lockE ws1 (wipeE (slotsP p1) e5)) = .ok y e6) :
    bodyG p (ev C (.con (.bool true))) (fun e0 => (evIt C it1 e0).bind fun x1 e5 =>
        locked x1.2 (turnsG x1.2 (slotsP p1) (bodyG p1 (ev C t1) (fun e0 => (ev C e e0).bind fun x e1 => (O.of (tk e1 x) e1).bind fun y _ => .ok [y.1] y.2) []) x1.1) (wipeE (slotsP p1) e5)) [] d env = .ok y (unlockE (ws1.filterMap (fresh1 (wipeE (slotsP p1) e5))) e6) := by
  simp only [bodyG, hp, O.of_some, O.bind_ok, ev, boolR_v, if_true, hi, locked, hb, unl_ok, noxq_ok]
theorem exS_iffT {c : E} {a b : Ss} {env e1 : En} (h : ev C c env = .ok (.v (.bool true)) e1) : exS C (.iff c a b) env = exSs C a e1 := by
  rw [exS, h, O.bind_ok, boolR_v, O.bind_ok, if_pos rfl]
theorem exS_iffF {c : E} {a b : Ss} {env e1 : En} (h : ev C c env = .ok (.v (.bool false)) e1) : exS C (.iff c a b) env = exSs C b e1 := by
  rw [exS, h, O.bind_ok, boolR_v, O.bind_ok, if_neg (by decide)]
theorem exS_ret {e : E} {env e1 e2 : En} {r : R} {x : Fl} (h : ev C e env = .ok r e1) (hr : retO r e1 = .ok x e2) : exS C (.ret e) env = .ok x e2 := by
  simp only [exS, h, O.bind_ok, hr]
theorem exS_set {i : Nat} {own : Bool} {e : E} {env e1 e2 : En} {r : R} (h : ev C e env = .ok r e1) (hr : setR i own r e1 = some e2) : exS C (.set i own e) env = .ok .nx e2 := by
  simp only [exS, h, O.bind_ok, hr, O.of_some]
theorem exS_unp {p : Pt} {e : E} {env e1 e2 e3 : En} {r : R} {d : D} (h : ev C e env = .ok r e1) (ht : tk e1 r = some (d, e2)) (hr : bindP p d e2 = some e3) : exS C (.unp p e) env = .ok .nx e3 := by
  simp only [exS, h, O.bind_ok, ht, hr, O.of_some]
theorem ev_op1 {o : Op} {a : E} {env e1 : En} {r r' : R} {d : D} (h : ev C a env = .ok r e1) (hr : rd e1 r = some d) (ho : opO o [d] = some r') : ev C (.op o (.cons a .nil)) env = .ok r' e1 := by
  simp only [ev, evAs, h, O.bind_ok, rds, hr, O.of_some, ho]
theorem ev_callv {f : Nat} {as : As} {env e1 e2 : En} {rs : List R} {r : R} (h : evAs C as env = .ok rs e1) (hc : callO C f rs e1 = .ok r e2) : ev C (.call f as) env = .ok r e2 := by
  simp only [ev, h, O.bind_ok, hc]
theorem exSs_cons {s : S} {r : Ss} {env e1 : En} (h : exS C s env = .ok .nx e1) : exSs C (.cons s r) env = exSs C r e1 := by
  simp only [exSs, h, O.bind_ok]
theorem exSs_ret {s : S} {r : Ss} {env e1 : En} {d : D} {own : Bool} (h : exS C s env = .ok (.ret d own) e1) : exSs C (.cons s r) env = .ok (.ret d own) e1 := by
  simp only [exSs, h, O.bind_ok]
theorem exSs_nil {env : En} : exSs C .nil env = .ok .nx env := by simp only [exSs]
theorem runFn_ret {F : Fn} {args : List (D × Bool)} {d : D} {own : Bool} (e0 : En) {env : En} {outs : List D} (ha : args.length = F.np) (hs : F.np ≤ F.ns) (h0 : startE F args = e0) (he : exSs C F.body e0 = .ok (.ret d own) env) (ho : outsE args env = some outs) : runFn C F args = .ok d own outs := by
  simp only [runFn, ha, hs, and_self, if_true, h0, he, ho]
end

/-! ### equations, one for each form -/
theorem bind_cong {α β : Type} {x x' : O α} {f : α → En → O β} (h : x = x') : O.bind x f = O.bind x' f := by rw [h]
section
variable {C : Den}
theorem evq_var (i : Nat) (env : En) : ev C (.var i) env = (match env[i]? with
    | some (some (d, .fz)) => .ok (.v d) env
    | some (some (_, _)) => .ok (.s i) env
    | _ => .bad) := by simp only [ev] <;> rfl
theorem evq_con (d : D) (env : En) : ev C (.con d) env = .ok (.v d) env := by simp only [ev]
theorem evq_tup (as : As) (env : En) : ev C (.tup as) env = (evAs C as env).bind fun rs e1 => (O.of (tks e1 rs) e1).bind fun x _ => if x.1.length ≤ sizeLine then .ok (.v (.tuple x.1)) x.2 else .bad := by simp only [ev]
theorem evq_lst (as : As) (env : En) : ev C (.lst as) env = (evAs C as env).bind fun rs e1 => (O.of (tks e1 rs) e1).bind fun x _ => if x.1.length ≤ sizeLine then .ok (.o (.list x.1)) x.2 else .bad := by simp only [ev]
theorem evq_op (o : Op) (as : As) (env : En) : ev C (.op o as) env = (evAs C as env).bind fun rs e1 => (O.of (rds e1 rs) e1).bind fun ds _ => O.of (opO o ds) e1 := by simp only [ev]
theorem evq_chain (o o' : COp) (a b c : E) (env : En) : ev C (.chain o o' a b c) env = (ev C a env).bind fun x e1 => (ev C b e1).bind fun y e2 => (O.of (rds e2 [x, y]) e2).bind fun ds _ => (O.of (opO (.cmp o) ds) e2).bind fun t _ => (boolR t e2).bind fun t _ =>
      if t then (ev C c e2).bind fun z e3 => (O.of (rds e3 [y, z]) e3).bind fun ds _ => O.of (opO (.cmp o') ds) e3 else .ok (.v (.bool false)) e2 := by simp only [ev]
theorem evq_and (a b : E) (env : En) : ev C (.and a b) env = (ev C a env).bind fun x e1 => (boolR x e1).bind fun c _ => if c then ev C b e1 else .ok (.v (.bool false)) e1 := by simp only [ev]
theorem evq_or (a b : E) (env : En) : ev C (.or a b) env = (ev C a env).bind fun x e1 => (boolR x e1).bind fun c _ => if c then .ok (.v (.bool true)) e1 else ev C b e1 := by simp only [ev]
theorem evq_ite (c a b : E) (env : En) : ev C (.ite c a b) env = (ev C c env).bind fun x e1 => (boolR x e1).bind fun t _ => if t then ev C a e1 else ev C b e1 := by simp only [ev]
theorem evq_call (f : Nat) (as : As) (env : En) : ev C (.call f as) env = (evAs C as env).bind fun rs e1 => callO C f rs e1 := by simp only [ev]
theorem evq_mth (m : Mth) (i : Nat) (as : As) (env : En) : ev C (.mth m i as) env = if lstSlot i env then (evAs C as env).bind fun rs e1 => mthO m i rs e1 else .bad := by simp only [ev]
theorem evq_nil (env : En) : evAs C .nil env = .ok [] env := by simp only [evAs]
theorem evq_cons (a : E) (r : As) (env : En) : evAs C (.cons a r) env = (ev C a env).bind fun x e1 => (evAs C r e1).bind fun xs e2 => .ok (x :: xs) e2 := by simp only [evAs]
theorem evq_star (a : E) (r : As) (env : En) : evAs C (.star a r) env = (ev C a env).bind fun x e1 => (O.of (rd e1 x) e1).bind fun d _ => (O.of (itemsOf d) e1).bind fun ds _ => (evAs C r e1).bind fun xs e2 => .ok (vLst ds ++ xs) e2 := by simp only [evAs]
theorem evq_val (e : E) (env : En) : evIt C (.val e) env = (ev C e env).bind fun x e1 => (O.of (rd e1 x) e1).bind fun d _ => (O.of (itemsOf d) e1).bind fun ds _ => .ok (ds, [x]) e1 := by simp only [evIt]
theorem evq_rng (as : As) (env : En) : evIt C (.rng as) env = (evAs C as env).bind fun rs e1 => (O.of (rds e1 rs) e1).bind fun ds _ => (O.of (rngO ds) e1).bind fun is _ => .ok (is, []) e1 := by simp only [evIt]
theorem evq_zip (as : As) (env : En) : evIt C (.zip as) env = (evAs C as env).bind fun rs e1 => (O.of (rds e1 rs) e1).bind fun ds _ => (O.of (zipO ds) e1).bind fun is _ => .ok (is, rs) e1 := by simp only [evIt]
theorem exq_set (i : Nat) (own : Bool) (e : E) (env : En) : exS C (.set i own e) env = (ev C e env).bind fun r e1 => (O.of (setR i own r e1) e1).bind fun e2 _ => .ok .nx e2 := by simp only [exS]
theorem exq_unp (p : Pt) (e : E) (env : En) : exS C (.unp p e) env = (ev C e env).bind fun r e1 => (O.of (tk e1 r) e1).bind fun x _ => (O.of (bindP p x.1 x.2) e1).bind fun e2 _ => .ok .nx e2 := by simp only [exS]
theorem exq_par (is : List (Nat × Bool)) (as : As) (env : En) : exS C (.par is as) env = (evAs C as env).bind fun rs e1 => (O.of (setRs is rs e1) e1).bind fun e2 _ => .ok .nx e2 := by simp only [exS]
theorem exq_expr (e : E) (env : En) : exS C (.expr e) env = (ev C e env).bind fun _ e1 => .ok .nx e1 := by simp only [exS]
theorem exq_ret (e : E) (env : En) : exS C (.ret e) env = (ev C e env).bind fun r e1 => retO r e1 := by simp only [exS]
theorem exq_iff (c : E) (a b : Ss) (env : En) : exS C (.iff c a b) env = (ev C c env).bind fun x e1 => (boolR x e1).bind fun t _ => if t then exSs C a e1 else exSs C b e1 := by simp only [exS]
theorem exq_nil (env : En) : exSs C .nil env = .ok .nx env := by simp only [exSs]
theorem exq_cons (s : S) (r : Ss) (env : En) : exSs C (.cons s r) env = (exS C s env).bind fun x e1 => (match x with
    | .nx => exSs C r e1
    | x => .ok x e1) := by simp only [exSs] <;> rfl
end
theorem opq_add (i j : Int) : opO (.bin .add) [.int i, .int j] = some (.v (.int (i + j))) := rfl
theorem opq_sub (i j : Int) : opO (.bin .sub) [.int i, .int j] = some (.v (.int (i - j))) := rfl
theorem opq_mul (i j : Int) : opO (.bin .mul) [.int i, .int j] = if mulOk i j then some (.v (.int (i * j))) else none := rfl
theorem opq_mod (i j : Int) : opO (.bin .mod) [.int i, .int j] = if j ≠ 0 then some (.v (.int (i.fmod j))) else none := rfl
theorem opq_fdiv (i j : Int) : opO (.bin .fdiv) [.int i, .int j] = if j ≠ 0 ∧ j.natAbs < 1073741824 then some (.v (.int (i.fdiv j))) else none := rfl
theorem opq_neg (i : Int) : opO .neg [.int i] = some (.v (.int (-i))) := rfl
theorem opq_lt (i j : Int) : opO (.cmp .lt) [.int i, .int j] = some (.v (.bool (decide (i < j)))) := rfl
theorem opq_le (i j : Int) : opO (.cmp .le) [.int i, .int j] = some (.v (.bool (decide (i ≤ j)))) := rfl
theorem opq_gt (i j : Int) : opO (.cmp .gt) [.int i, .int j] = some (.v (.bool (decide (j < i)))) := rfl
theorem opq_ge (i j : Int) : opO (.cmp .ge) [.int i, .int j] = some (.v (.bool (decide (j ≤ i)))) := rfl
theorem eqvI (i j : Int) : PyData.eqv (.int i) (.int j) = decide (i = j) := by
  rw [PyData.eqv, Bool.eq_iff_iff]; simp
theorem opq_eqI (i j : Int) : opO (.cmp .eq) [.int i, .int j] = some (.v (.bool (decide (i = j)))) := by
  show (cmpO .eq (.int i) (.int j)).map (fun b => R.v (.bool b)) = _
  rw [show cmpO .eq (.int i) (.int j) = some (PyData.eqv (.int i) (.int j)) from rfl, eqvI]
  rfl
theorem opq_neI (i j : Int) : opO (.cmp .ne) [.int i, .int j] = some (.v (.bool (!decide (i = j)))) := by
  show (cmpO .ne (.int i) (.int j)).map (fun b => R.v (.bool b)) = _
  rw [show cmpO .ne (.int i) (.int j) = some (!PyData.eqv (.int i) (.int j)) from rfl, eqvI]
  rfl
theorem opq_eqB (i j : Bool) : opO (.cmp .eq) [.bool i, .bool j] = some (.v (.bool (i == j))) := by cases i <;> cases j <;> rfl
theorem opq_neB (i j : Bool) : opO (.cmp .ne) [.bool i, .bool j] = some (.v (.bool (i != j))) := by cases i <;> cases j <;> rfl
theorem opq_isN : opO (.cmp .is_) [.none, .none] = some (.v (.bool true)) := rfl
theorem opq_isnN : opO (.cmp .isn) [.none, .none] = some (.v (.bool false)) := rfl
theorem opq_isT (xs : List D) : opO (.cmp .is_) [.tuple xs, .none] = some (.v (.bool false)) := rfl
theorem opq_isnT (xs : List D) : opO (.cmp .isn) [.tuple xs, .none] = some (.v (.bool true)) := rfl
theorem opq_isB (a b : Bool) : opO (.cmp .is_) [.bool a, .bool b] = some (.v (.bool (a == b))) := rfl
theorem opq_isnB (a b : Bool) : opO (.cmp .isn) [.bool a, .bool b] = some (.v (.bool (!(a == b)))) := rfl
theorem opq_truB (a : Bool) : opO .tru [.bool a] = some (.v (.bool a)) := rfl
theorem opq_not (a : Bool) : opO .not [.bool a] = some (.v (.bool (!a))) := rfl
theorem opq_asI (i : Int) : opO .asInt [.int i] = some (.v (.int i)) := rfl
theorem opq_i0 (a : D) (r : List D) : opO .idx [.tuple (a :: r), .int 0] = some (.v a) := by
  show (L2.atI (a :: r) 0).map R.v = _
  rw [show L2.atI (a :: r) 0 = some a from L2.atI_nat (j := 0) rfl]; rfl
theorem opq_i1 (a b : D) (r : List D) : opO .idx [.tuple (a :: b :: r), .int 1] = some (.v b) := by
  show (L2.atI (a :: b :: r) 1).map R.v = _
  rw [show L2.atI (a :: b :: r) 1 = some b from L2.atI_nat (j := 1) rfl]; rfl
theorem opq_l0 (a : D) (r : List D) : opO .idx [.list (a :: r), .int 0] = some (.v a) := opq_i0 a r
theorem opq_l1 (a b : D) (r : List D) : opO .idx [.list (a :: b :: r), .int 1] = some (.v b) := opq_i1 a b r
theorem opq_ix {xs : List D} {n : Nat} {a : D} (h : xs[n]? = some a) : opO .idx [.tuple xs, .int n] = some (.v a) := by
  show (L2.atI xs (n : Int)).map R.v = _
  rw [L2.atI_nat h]; rfl
theorem opq_max2 (i j : Int) : opO (.bi .max2) [.int i, .int j] = some (.v (.int (if j > i then j else i))) := rfl
theorem opq_min2 (i j : Int) : opO (.bi .min2) [.int i, .int j] = some (.v (.int (if j < i then j else i))) := rfl
theorem opq_lenL (xs : List D) : opO (.bi .len) [.list xs] = some (.v (.int xs.length)) := rfl
theorem opq_lenT (xs : List D) : opO (.bi .len) [.tuple xs] = some (.v (.int xs.length)) := rfl
theorem opq_tupL (xs : List D) : opO (.bi .tuple) [.list xs] = some (.v (.tuple xs)) := rfl
theorem opq_tupT (xs : List D) : opO (.bi .tuple) [.tuple xs] = some (.v (.tuple xs)) := rfl
theorem opq_lstL (xs : List D) : opO (.bi .list) [.list xs] = some (.o (.list xs)) := rfl
theorem opq_lstT (xs : List D) : opO (.bi .list) [.tuple xs] = some (.o (.list xs)) := rfl
theorem opq_revL (xs : List D) : opO (.bi .listRev) [.list xs] = some (.o (.list xs.reverse)) := rfl
theorem opq_abs (i : Int) : opO (.bi .abs) [.int i] = some (.v (.int (if i < 0 then -i else i))) := rfl
theorem opq_int (i : Int) : opO (.bi .int) [.int i] = some (.v (.int i)) := rfl
theorem opq_addT (xs ys : List D) : opO (.bin .add) [.tuple xs, .tuple ys] = if xs.length + ys.length ≤ sizeLine then some (.v (.tuple (xs ++ ys))) else none := rfl
theorem opq_addL (xs ys : List D) : opO (.bin .add) [.list xs, .list ys] = if xs.length + ys.length ≤ sizeLine then some (.o (.list (xs ++ ys))) else none := rfl
theorem intsOf_map (is : List Int) : intsOf (is.map .int) = some is := by
  induction is with
  | nil => rfl
  | cons i is ih => simp [intsOf, ih]
theorem opq_sum (is : List Int) : opO (.bi .sum) [.list (is.map .int)] = some (.v (.int is.sum)) := by
  show (intsOf (is.map .int)).map _ = _
  rw [intsOf_map]; rfl
theorem opq_min1 (is : List Int) : opO (.bi .min1) [.list (is.map .int)] = is.min?.map fun m => .v (.int m) := by
  show (intsOf (is.map .int)).bind _ = _
  rw [intsOf_map]; rfl
theorem opq_max1 (is : List Int) : opO (.bi .max1) [.list (is.map .int)] = is.max?.map fun m => .v (.int m) := by
  show (intsOf (is.map .int)).bind _ = _
  rw [intsOf_map]; rfl
theorem cutL_take {α : Type} (xs : List α) (n : Nat) : cutL xs none (some (n : Int)) = xs.take n := by
  unfold cutL
  rw [HT.sIx_none, show HT.sIx xs.length xs.length (some (n : Int)) = min n xs.length from HT.sIx_nat xs.length xs.length n]
  simp
theorem cutL_drop {α : Type} (xs : List α) (n : Nat) : cutL xs (some (n : Int)) none = xs.drop n := by
  unfold cutL
  rw [HT.sIx_none, show HT.sIx xs.length 0 (some (n : Int)) = min n xs.length from HT.sIx_nat xs.length 0 n]
  by_cases h : n ≤ xs.length
  · rw [Nat.min_eq_left h, List.take_of_length_le]
    rw [List.length_drop]; omega
  · rw [Nat.min_eq_right (by omega), List.drop_eq_nil_of_le (Nat.le_refl _), List.drop_eq_nil_of_le (by omega)]; simp
theorem opq_slT (xs : List D) (n : Nat) : opO .sl [.tuple xs, .none, .int n] = some (.v (.tuple (xs.take n))) := by
  show some (R.v (.tuple (cutL xs none (some (n : Int))))) = _
  rw [cutL_take]
theorem opq_slD (xs : List D) (n : Nat) : opO .sl [.tuple xs, .int n, .none] = some (.v (.tuple (xs.drop n))) := by
  show some (R.v (.tuple (cutL xs (some (n : Int)) none))) = _
  rw [cutL_drop]
theorem opq_slTL (xs : List D) (n : Nat) : opO .sl [.list xs, .none, .int n] = some (.o (.list (xs.take n))) := by
  show some (R.o (.list (cutL xs none (some (n : Int))))) = _
  rw [cutL_take]
theorem rngO_nat {n : Nat} (h : n < 2 ^ 62) : rngO [.int n] = some ((List.range n).map fun (i : Nat) => .int i) := by
  have : rngOk n := ⟨by omega, by omega⟩
  simp only [rngO, this, if_true, rngD, Int.toNat_natCast]
  congr 2
  funext i
  simp
theorem zipD_map {α β : Type} (f : α → D) (g : β → D) : ∀ (xs : List α) (ys : List β), zipD (xs.map f) (ys.map g) = (xs.zip ys).map fun z => .tuple [f z.1, g z.2]
  | [], _ => by simp [zipD]
  | _ :: _, [] => by simp [zipD]
  | x :: xs, y :: ys => by simp [zipD, zipD_map f g xs ys]
theorem tks_v (env : En) (ds : List D) : tks env (ds.map .v) = some (ds, env) := by
  induction ds with
  | nil => rfl
  | cons d ds ih => simp [tks, tk, ih]

/-! ### data, one equation for each form -/
theorem rdq_v (env : En) (d : D) : rd env (.v d) = some d := rfl
theorem rdq_o (env : En) (d : D) : rd env (.o d) = some d := rfl
theorem rdq_s (env : En) (i : Nat) : rd env (.s i) = match env[i]? with
    | some (some (d, _)) => some d
    | _ => none := rfl
theorem rdsq_nil (env : En) : rds env [] = some [] := rfl
theorem rdsq_cons (env : En) (r : R) (rs : List R) : rds env (r :: rs) = match rd env r, rds env rs with
    | some d, some ds => some (d :: ds)
    | _, _ => none := rfl
theorem tkq_v (env : En) (d : D) : tk env (.v d) = some (d, env) := rfl
theorem tkq_o (env : En) (d : D) : tk env (.o d) = some (d, env) := rfl
theorem tkq_s (env : En) (i : Nat) : tk env (.s i) = match env[i]? with
    | some (some (d, .ow)) => some (d, env.set i none)
    | _ => none := rfl
theorem tksq_nil (env : En) : tks env [] = some ([], env) := rfl
theorem tksq_cons (env : En) (r : R) (rs : List R) : tks env (r :: rs) = match tk env r with
    | some (d, e1) => (match tks e1 rs with
      | some (ds, e2) => some (d :: ds, e2)
      | none => none)
    | none => none := rfl
theorem itq_l (xs : List D) : itemsOf (.list xs) = some xs := rfl
theorem itq_t (xs : List D) : itemsOf (.tuple xs) = some xs := rfl
theorem setRq_v (i : Nat) (own : Bool) (d : D) (env : En) : setR i own (.v d) env = if i < env.length then some (env.set i (some (d, .fz))) else none := rfl
theorem setRq_o (i : Nat) (own : Bool) (d : D) (env : En) : setR i own (.o d) env = if i < env.length then some (env.set i (some (d, if own then .ow else .fz))) else none := rfl
theorem setRq_s (i : Nat) (own : Bool) (j : Nat) (env : En) : setR i own (.s j) env = if i < env.length then (match env[j]? with
      | some (some (d, .ow)) => some ((env.set j none).set i (some (d, if own then .ow else .fz)))
      | _ => none) else none := rfl
theorem retq_v (d : D) (env : En) : retO (.v d) env = .ok (.ret d false) env := rfl
theorem retq_o (d : D) (env : En) : retO (.o d) env = .ok (.ret d true) env := rfl
theorem retq_s (i : Nat) (env : En) : retO (.s i) env = match env[i]? with
    | some (some (d, .ow)) => .ok (.ret d true) (env.set i none)
    | _ => .bad := rfl
theorem boolq (b : Bool) (e : En) : boolR (.v (.bool b)) e = .ok b e := rfl
theorem zipq (a b : D) : zipO [a, b] = match itemsOf a, itemsOf b with
    | some xs, some ys => some (zipD xs ys)
    | _, _ => none := rfl
theorem arg1q_v (env : En) (m : Bool) (d : D) : arg1 env m (.v d) = some (d, false) := rfl
theorem arg1q_o (env : En) (m : Bool) (d : D) : arg1 env m (.o d) = some (d, false) := rfl
theorem arg1q_s (env : En) (m : Bool) (i : Nat) : arg1 env m (.s i) = match env[i]? with
    | some (some (d, k)) => if m then (if k = .ow ∨ k = .io then some (d, true) else none) else some (d, false)
    | _ => none := rfl
theorem callq {C : Den} (f : Nat) (r : R) (rs : List R) (env : En) : callO C f (r :: rs) env = match argD (C.mt f) env 0 (r :: rs) with
  | none => .bad
  | some args => if ioSlots (C.mt f) 0 (r :: rs) = [] ∨ (slotsR (r :: rs)).Nodup then (match C.run f args with
    | .ok d own outs => (match backIo (C.mt f) 0 (r :: rs) outs env with
      | some e2 => if borrows (C.mt f) 0 (r :: rs) = false ∨ (plainO own d = true ∧ outsPl args outs = true) then .ok (if own then .o d else .v d) e2 else .bad
      | none => .bad)
    | .ex c outs => (match backIo (C.mt f) 0 (r :: rs) outs env with
      | some e2 => if borrows (C.mt f) 0 (r :: rs) = false ∨ outsPl args outs = true then .ex c e2 else .bad
      | none => .bad)
    | .bad => .bad) else .bad := rfl
theorem parKq_v (d : D) (own : Bool) : parK (.v d) own = .fz := rfl
theorem parKq_o (d : D) (own : Bool) : parK (.o d) own = if own then .ow else .fz := rfl
theorem parKq_s (i : Nat) (own : Bool) : parK (.s i) own = .fz := rfl
theorem setRsq (is : List (Nat × Bool)) (r : R) (rs : List R) (env : En) : setRs is (r :: rs) env = if is.length = (r :: rs).length ∧ (is.all fun i => decide (i.1 < env.length)) then (match tks env (r :: rs) with
    | some (ds, e2) => some (setL (is.map (·.1)) (parL is (r :: rs) ds) e2)
    | none => none) else none := rfl
theorem isSq_v (d : D) (i : Nat) : isS (.v d) i = false := rfl
theorem isSq_o (d : D) (i : Nat) : isS (.o d) i = false := rfl
theorem isSq_s (j i : Nat) : isS (.s j) i = (j == i) := rfl
theorem mthq_append (i : Nat) (r : R) (env : En) : mthO .append i [r] env = (match tk env r with
    | some (d, e1) => (match e1[i]? with
      | some (some (.list xs, .ow)) => if xs.length < sizeLine then .ok (.v .none) (e1.set i (some (.list (xs ++ [d]), .ow))) else .bad
      | some (some (.list xs, .io)) => if xs.length < sizeLine then .ok (.v .none) (e1.set i (some (.list (xs ++ [d]), .io))) else .bad
      | _ => .bad)
    | none => .bad) := rfl
theorem mthq_extend (i : Nat) (r : R) (env : En) : mthO .extend i [r] env = (match rd env r, env[i]? with
    | some (.list ys), some (some (.list xs, k)) => if (k = .ow ∨ k = .io) ∧ xs.length + ys.length ≤ sizeLine ∧ isS r i = false then .ok (.v .none) (env.set i (some (.list (xs ++ ys), k))) else .bad
    | _, _ => .bad) := rfl
theorem mthq_pop (i : Nat) (env : En) : mthO .pop i [] env = (match env[i]? with
    | some (some (.list xs, k)) => if k = .ow ∨ k = .io then (match xs.getLast? with
      | some d => .ok (.v d) (env.set i (some (.list xs.dropLast, k)))
      | none => .bad) else .bad
    | _ => .bad) := rfl
theorem lsq (i : Nat) (s : Slot) (env : En) : lstSlot i (s :: env) = match (s :: env)[i]? with
  | some (some (.list _, k)) => decide (k ≠ .fz)
  | _ => false := rfl
theorem bindq_nm (i : Nat) (d : D) (env : En) : bindP (.nm i) d env = if i < env.length then some (env.set i (some (d, .fz))) else none := by simp only [bindP]
theorem bindq_t (ps : List Pt) (xs : List D) (env : En) : bindP (.tp ps) (.tuple xs) env = bindPs ps xs env := by simp only [bindP]
theorem bindq_l (ps : List Pt) (xs : List D) (env : En) : bindP (.tp ps) (.list xs) env = bindPs ps xs env := by simp only [bindP]
theorem bindsq_nil (env : En) : bindPs [] [] env = some env := by simp only [bindPs]
theorem bindsq_cons (p : Pt) (ps : List Pt) (d : D) (ds : List D) (env : En) : bindPs (p :: ps) (d :: ds) env = match bindP p d env with
    | some e1 => bindPs ps ds e1
    | none => none := by simp only [bindPs] <;> rfl

theorem andq (b c : Bool) (e : En) : (if b = true then (.ok (.v (.bool c)) e : O R) else .ok (.v (.bool false)) e) = .ok (.v (.bool (b && c))) e := by cases b <;> rfl
theorem orq (b c : Bool) (e : En) : (if b = true then (.ok (.v (.bool true)) e : O R) else .ok (.v (.bool c)) e) = .ok (.v (.bool (b || c))) e := by cases b <;> rfl
theorem negq (b : Bool) (e : En) : (if b = true then (.ok (.v (.bool false)) e : O R) else .ok (.v (.bool true)) e) = .ok (.v (.bool (!b))) e := by cases b <;> rfl

theorem tks_app (env : En) (a : List D) (rs : List R) : tks env (vLst a ++ rs) = (tks env rs).map fun x => (a ++ x.1, x.2) := by
  induction a with
  | nil =>
    show tks env rs = _
    cases tks env rs <;> rfl
  | cons d a ih =>
    show tks env (.v d :: (vLst a ++ rs)) = _
    rw [tksq_cons, tkq_v]
    simp only [ih]
    cases tks env rs <;> rfl
theorem tks_mid (env : En) (a b : List D) (d : D) : tks env (vLst a ++ .v d :: vLst b) = some (a ++ d :: b, env) := by
  have : tks env (vLst b) = some (b, env) := tks_v env b
  rw [tks_app, tksq_cons, tkq_v]
  simp [this]
theorem tks_two (env : En) (a b : List D) : tks env (vLst a ++ vLst b) = some (a ++ b, env) := by
  have : tks env (vLst b) = some (b, env) := tks_v env b
  rw [tks_app, this]
  rfl
theorem tks_pre (env : En) (a : List D) (d : D) : tks env (vLst a ++ [.v d]) = some (a ++ [d], env) := tks_mid env a [] d
theorem sz0 : 0 ≤ sizeLine := by unfold sizeLine; decide
theorem sz1 : 1 ≤ sizeLine := by unfold sizeLine; decide
theorem sz2 : 2 ≤ sizeLine := by unfold sizeLine; decide
theorem sz3 : 3 ≤ sizeLine := by unfold sizeLine; decide
theorem sz4 : 4 ≤ sizeLine := by unfold sizeLine; decide
theorem sz5 : 5 ≤ sizeLine := by unfold sizeLine; decide
theorem slt0 : 0 < sizeLine := by unfold sizeLine; decide
theorem evIt_rng1 {C : Den} {a : E} {env e1 : En} {r : R} {n : Nat} (h : ev C a env = .ok r e1) (hr : rd e1 r = some (.int n)) (hn : n < 2 ^ 62) : evIt C (.rng (.cons a .nil)) env = .ok ((List.range n).map (fun (i : Nat) => PyData.int i), []) e1 := by
  have hg := rngO_nat hn
  have hs : rds e1 [r] = some [.int n] := by rw [rdsq_cons, hr, rdsq_nil]
  generalize (List.range n).map (fun (i : Nat) => PyData.int i) = L at hg ⊢
  rw [evq_rng, evq_cons, h, O.bind_ok, evq_nil, O.bind_ok, O.bind_ok, hs, O.of_some, O.bind_ok, hg, O.of_some, O.bind_ok]
end Mi
/-! Boxes of whole numbers and how many cells they take. -/
namespace Bx
abbrev Box := List (Int × Int)
abbrev Cell := List Int
def inB : Cell → Box → Bool
  | [], [] => true
  | x :: xs, p :: b => decide (p.1 ≤ x ∧ x < p.2) && inB xs b
  | _, _ => false
def vol : Box → Int
  | [] => 1
  | p :: b => (p.2 - p.1) * vol b
def Proper (b : Box) : Prop := ∀ p ∈ b, p.1 < p.2
def rangeI (l h : Int) : List Int := (List.range (h - l).toNat).map fun (k : Nat) => l + k
def cells : Box → List Cell
  | [] => [[]]
  | p :: b => (rangeI p.1 p.2).flatMap fun x => (cells b).map (x :: ·)
def cnt (u : Box) (p : Cell → Bool) : Nat := (cells u).countP p
/-- b lies within u -/
def Sub : Box → Box → Prop
  | [], [] => True
  | p :: b, q :: u => q.1 ≤ p.1 ∧ p.2 ≤ q.2 ∧ Sub b u
  | _, _ => False
theorem Sub.len : ∀ {b u : Box}, Sub b u → b.length = u.length
  | [], [], _ => rfl
  | _ :: _, _ :: _, h => by simp [Sub.len h.2.2]
theorem inB_len : ∀ {c : Cell} {b : Box}, inB c b = true → c.length = b.length
  | [], [], _ => rfl
  | _ :: _, _ :: _, h => by simp only [inB, Bool.and_eq_true] at h; simp [inB_len h.2]
  | [], _ :: _, h => by simp [inB] at h
  | _ :: _, [], h => by simp [inB] at h
theorem Proper.tl {p : Int × Int} {b : Box} (h : Proper (p :: b)) : Proper b := fun q hq => h q (List.mem_cons_of_mem _ hq)
theorem Proper.hd {p : Int × Int} {b : Box} (h : Proper (p :: b)) : p.1 < p.2 := h p List.mem_cons_self
theorem Proper.cons {p : Int × Int} {b : Box} (h : p.1 < p.2) (h' : Proper b) : Proper (p :: b) := fun q hq => by
  rcases List.mem_cons.mp hq with rfl | hq
  · exact h
  · exact h' q hq
theorem vol_pos : ∀ {b : Box}, Proper b → 0 < vol b
  | [], _ => by simp [vol]
  | p :: b, h => Int.mul_pos (by have := h.hd; omega) (vol_pos h.tl)
theorem rangeI_split {l m h : Int} (h1 : l ≤ m) (h2 : m ≤ h) : rangeI l h = rangeI l m ++ rangeI m h := by
  unfold rangeI
  have e : (h - l).toNat = (m - l).toNat + (h - m).toNat := by omega
  rw [e, List.range_add, List.map_append, List.map_map]
  congr 1
  apply List.map_congr_left
  intro k _
  simp only [Function.comp]
  omega
theorem mem_rangeI {l h x : Int} : x ∈ rangeI l h ↔ l ≤ x ∧ x < h := by
  unfold rangeI
  simp only [List.mem_map, List.mem_range]
  constructor
  · rintro ⟨k, h1, rfl⟩; omega
  · intro h1; exact ⟨(x - l).toNat, by omega, by omega⟩
theorem len_rangeI {l h : Int} : (rangeI l h).length = (h - l).toNat := by simp [rangeI]
theorem rangeI_count {a l h b : Int} (h1 : a ≤ l) (h2 : l ≤ h) (h3 : h ≤ b) : (rangeI a b).countP (fun x => decide (l ≤ x ∧ x < h)) = (h - l).toNat := by
  rw [rangeI_split h1 (Int.le_trans h2 h3), rangeI_split h2 h3, List.countP_append, List.countP_append]
  have e1 : (rangeI a l).countP (fun x => decide (l ≤ x ∧ x < h)) = 0 := List.countP_eq_zero.mpr fun x hx => by have := mem_rangeI.mp hx; simp; omega
  have e2 : (rangeI h b).countP (fun x => decide (l ≤ x ∧ x < h)) = 0 := List.countP_eq_zero.mpr fun x hx => by have := mem_rangeI.mp hx; simp; omega
  have e3 : (rangeI l h).countP (fun x => decide (l ≤ x ∧ x < h)) = (rangeI l h).length := List.countP_eq_length.mpr fun x hx => by have := mem_rangeI.mp hx; simp; omega
  rw [e1, e2, e3, len_rangeI]
  omega
theorem cells_len : ∀ {u : Box} {c : Cell}, c ∈ cells u → c.length = u.length
  | [], c, h => by simp [cells] at h; simp [h]
  | p :: u, c, h => by
    simp only [cells, List.mem_flatMap, List.mem_map] at h
    obtain ⟨x, _, c', h', rfl⟩ := h
    simp [cells_len h']
theorem count_prod (q : Int → Bool) (r : Cell → Bool) (L : List Cell) (p : Cell → Bool) (hp : ∀ x c, p (x :: c) = (q x && r c)) : ∀ xs : List Int, (xs.flatMap fun x => L.map (x :: ·)).countP p = xs.countP q * L.countP r
  | [] => by simp
  | x :: xs => by
    rw [List.flatMap_cons, List.countP_append, count_prod q r L p hp xs, List.countP_cons, List.countP_map]
    cases e : q x with
    | true =>
      have : (p ∘ fun c => x :: c) = r := by funext c; simp [hp, e]
      rw [this]
      simp only [if_true]
      rw [Nat.add_mul, Nat.one_mul, Nat.add_comm]
    | false =>
      have : (p ∘ fun c => x :: c) = fun _ => false := by funext c; simp [hp, e]
      rw [this]
      simp
theorem cnt_box : ∀ {b u : Box}, Proper b → Sub b u → (cnt u (inB · b) : Int) = vol b
  | [], [], _, _ => by simp [cnt, cells, inB, vol]
  | p :: b, q :: u, hp, hs => by
    have ih := cnt_box hp.tl hs.2.2
    unfold cnt at ih ⊢
    rw [cells, count_prod (fun x => decide (p.1 ≤ x ∧ x < p.2)) (fun c => inB c b) (cells u) _ (fun x c => rfl), rangeI_count hs.1 (Int.le_of_lt hp.hd) hs.2.1]
    rw [vol, ← ih, Int.natCast_mul]
    have := hp.hd
    congr 1
    omega
theorem cnt_mono {u : Box} {p q : Cell → Bool} (h : ∀ c, p c = true → q c = true) : cnt u p ≤ cnt u q := List.countP_mono_left fun c _ => h c
theorem cnt_congr {u : Box} {p q : Cell → Bool} (h : ∀ c, p c = q c) : cnt u p = cnt u q := by rw [show p = q from funext h]
theorem cnt_add (u : Box) (p q : Cell → Bool) : cnt u (fun c => p c || q c) + cnt u (fun c => p c && q c) = cnt u p + cnt u q := by
  unfold cnt
  induction cells u with
  | nil => rfl
  | cons c cs ih =>
    simp only [List.countP_cons]
    cases p c <;> cases q c <;> simp <;> omega
theorem cnt_false (u : Box) : cnt u (fun _ => false) = 0 := by simp [cnt]
theorem cnt_le (u : Box) (p : Cell → Bool) : cnt u p ≤ (cells u).length := List.countP_le_length
/-- a cell of a box -/
theorem low_in : ∀ {b : Box}, Proper b → inB (b.map (·.1)) b = true
  | [], _ => rfl
  | p :: b, h => by
    have := h.hd
    simp [inB, low_in h.tl]
    omega

/-! ### how often a cell is taken -/
def mult (ps : List Box) (c : Cell) : Nat := ps.countP (inB c)
def un (ps : List Box) (c : Cell) : Bool := ps.any (inB c)
theorem mult_app (ps qs : List Box) (c : Cell) : mult (ps ++ qs) c = mult ps c + mult qs c := List.countP_append
theorem un_mult (ps : List Box) (c : Cell) : un ps c = decide (0 < mult ps c) := by
  rw [Bool.eq_iff_iff]
  simp [un, mult, List.any_eq_true, List.countP_pos_iff]
def sumV (ps : List Box) : Int := (ps.map vol).sum
theorem sumV_app (ps qs : List Box) : sumV (ps ++ qs) = sumV ps + sumV qs := by simp [sumV]
/-- the boxes take just p, each cell once -/
def Part (ps : List Box) (p : Cell → Bool) : Prop := ∀ c, mult ps c = (p c).toNat
theorem sumV_cells {u : Box} : ∀ {ps : List Box}, (∀ b ∈ ps, Proper b ∧ Sub b u) → sumV ps = (((cells u).map (mult ps)).sum : Nat)
  | [], _ => by
    have : mult [] = fun _ => 0 := by funext c; rfl
    simp only [sumV, this]
    induction cells u with
    | nil => rfl
    | cons a l ih => simpa using ih
  | b :: ps, h => by
    have ih := sumV_cells (u := u) (ps := ps) fun x hx => h x (List.mem_cons_of_mem _ hx)
    obtain ⟨h1, h2⟩ := h b List.mem_cons_self
    have e : sumV (b :: ps) = vol b + sumV ps := by simp [sumV]
    rw [e, ih, ← cnt_box h1 h2]
    unfold cnt
    have : ∀ L : List Cell, (L.map (mult (b :: ps))).sum = L.countP (inB · b) + (L.map (mult ps)).sum := by
      intro L
      induction L with
      | nil => rfl
      | cons c L ih =>
        simp only [List.map_cons, List.sum_cons, List.countP_cons, ih]
        have : mult (b :: ps) c = mult ps c + if inB c b = true then 1 else 0 := by simp [mult, List.countP_cons]
        rw [this]
        omega
    rw [this]
    omega
theorem Part.sum {u : Box} {ps : List Box} {p : Cell → Bool} (h : Part ps p) (hu : ∀ b ∈ ps, Proper b ∧ Sub b u) : sumV ps = (cnt u p : Nat) := by
  rw [sumV_cells hu]
  congr 1
  unfold cnt
  induction cells u with
  | nil => rfl
  | cons c L ih =>
    simp only [List.map_cons, List.sum_cons, List.countP_cons, ih, h c]
    cases p c <;> simp <;> omega
theorem len_sumV {ps : List Box} (h : ∀ b ∈ ps, Proper b) : (ps.length : Int) ≤ sumV ps := by
  induction ps with
  | nil => simp [sumV]
  | cons b ps ih =>
    have e : sumV (b :: ps) = vol b + sumV ps := by simp [sumV]
    have := vol_pos (h b List.mem_cons_self)
    have := ih fun x hx => h x (List.mem_cons_of_mem _ hx)
    simp only [List.length_cons]
    omega
theorem Part.len {u : Box} {ps : List Box} {p : Cell → Bool} (h : Part ps p) (hu : ∀ b ∈ ps, Proper b ∧ Sub b u) : ps.length ≤ (cells u).length := by
  have h1 := len_sumV fun b hb => (hu b hb).1
  rw [h.sum hu] at h1
  have := cnt_le u p
  omega

/-! ### shared, without -/
def clashB : Box → Box → Bool
  | p :: b, q :: o => decide (p.1 < q.2 ∧ q.1 < p.2) && clashB b o
  | _, _ => true
def meet : Box → Box → Box
  | p :: b, q :: o => (if q.1 > p.1 then q.1 else p.1, if q.2 < p.2 then q.2 else p.2) :: meet b o
  | _, _ => []
theorem meet_len : ∀ {b o : Box}, b.length = o.length → (meet b o).length = b.length
  | [], [], _ => rfl
  | p :: b, q :: o, h => by simp [meet, meet_len (Nat.succ.inj h)]
theorem inB_meet : ∀ {b o : Box} {c : Cell}, b.length = o.length → inB c (meet b o) = (inB c b && inB c o)
  | [], [], c, _ => by cases c <;> simp [meet, inB]
  | p :: b, q :: o, [], _ => by simp [meet, inB]
  | p :: b, q :: o, x :: c, h => by
    simp only [meet, inB, inB_meet (c := c) (Nat.succ.inj h)]
    have : decide ((if q.1 > p.1 then q.1 else p.1) ≤ x ∧ x < if q.2 < p.2 then q.2 else p.2) = (decide (p.1 ≤ x ∧ x < p.2) && decide (q.1 ≤ x ∧ x < q.2)) := by
      rw [← Bool.decide_and]
      congr 1
      apply propext
      split <;> split <;> omega
    rw [this]
    cases decide (p.1 ≤ x ∧ x < p.2) <;> cases decide (q.1 ≤ x ∧ x < q.2) <;> simp
theorem meet_proper : ∀ {b o : Box}, Proper b → Proper o → clashB b o = true → Proper (meet b o)
  | [], _, _, _, _ => by intro p hp; simp [meet] at hp
  | _ :: _, [], _, _, _ => by intro p hp; simp [meet] at hp
  | p :: b, q :: o, hb, ho, h => by
    simp only [clashB, Bool.and_eq_true, decide_eq_true_eq] at h
    have := hb.hd
    have := ho.hd
    refine Proper.cons ?_ (meet_proper hb.tl ho.tl h.2)
    show (if q.1 > p.1 then q.1 else p.1) < (if q.2 < p.2 then q.2 else p.2)
    split <;> split <;> omega
theorem clash_no : ∀ {b o : Box} {c : Cell}, b.length = o.length → clashB b o = false → (inB c b && inB c o) = false
  | [], [], c, _, h => by simp [clashB] at h
  | p :: b, q :: o, [], _, _ => by simp [inB]
  | p :: b, q :: o, x :: c, hl, h => by
    simp only [clashB, Bool.and_eq_false_iff, decide_eq_false_iff_not] at h
    simp only [inB]
    rcases h with h | h
    · have : (decide (p.1 ≤ x ∧ x < p.2) && decide (q.1 ≤ x ∧ x < q.2)) = false := by
        rw [← Bool.decide_and]; simp; omega
      cases h1 : decide (p.1 ≤ x ∧ x < p.2) <;> cases h2 : decide (q.1 ≤ x ∧ x < q.2) <;> simp_all
    · have := clash_no (c := c) (Nat.succ.inj hl) h
      cases h1 : inB c b <;> cases h2 : inB c o <;> simp_all
theorem meet_sub : ∀ {b o : Box}, b.length = o.length → Sub (meet b o) b
  | [], [], _ => trivial
  | p :: b, q :: o, h => by
    refine ⟨?_, ?_, meet_sub (Nat.succ.inj h)⟩
    · show p.1 ≤ if q.1 > p.1 then q.1 else p.1
      split <;> omega
    · show (if q.2 < p.2 then q.2 else p.2) ≤ p.2
      split <;> omega
theorem meet_comm : ∀ {b o : Box}, meet b o = meet o b
  | [], [] => rfl
  | [], _ :: _ => rfl
  | _ :: _, [] => rfl
  | p :: b, q :: o => by
    rw [meet, meet, meet_comm]
    have : (if q.1 > p.1 then q.1 else p.1) = if p.1 > q.1 then p.1 else q.1 := by split <;> split <;> omega
    have : (if q.2 < p.2 then q.2 else p.2) = if p.2 < q.2 then p.2 else q.2 := by split <;> split <;> omega
    simp [*]
theorem clash_comm : ∀ {b o : Box}, clashB b o = clashB o b
  | [], [] => rfl
  | [], _ :: _ => rfl
  | _ :: _, [] => rfl
  | p :: b, q :: o => by
    rw [clashB, clashB, clash_comm]
    congr 2
    exact propext ⟨fun h => ⟨h.2, h.1⟩, fun h => ⟨h.2, h.1⟩⟩
theorem Sub.trans : ∀ {a b c : Box}, Sub a b → Sub b c → Sub a c
  | [], [], [], _, _ => trivial
  | _ :: _, _ :: _, _ :: _, h, h' => ⟨Int.le_trans h'.1 h.1, Int.le_trans h.2.1 h'.2.1, h.2.2.trans h'.2.2⟩
theorem Sub.refl : ∀ b : Box, Sub b b
  | [] => trivial
  | _ :: b => ⟨Int.le_refl _, Int.le_refl _, Sub.refl b⟩
/-- what is left of b without the box m within it -/
def wo : Box → Box → List Box
  | p :: b, q :: m => (if p.1 < q.1 then [(p.1, q.1) :: b] else []) ++ (if q.2 < p.2 then [(q.2, p.2) :: b] else []) ++ (wo b m).map (q :: ·)
  | _, _ => []
theorem wo_ok : ∀ {b m u : Box}, Proper b → Proper m → Sub m b → Sub b u → ∀ x ∈ wo b m, Proper x ∧ Sub x u
  | [], [], _, _, _, _, _, x, hx => by simp [wo] at hx
  | p :: b, q :: m, r :: u, hb, hm, hs, hu, x, hx => by
    obtain ⟨s1, s2, s3⟩ := hs
    obtain ⟨u1, u2, u3⟩ := hu
    have := hm.hd
    simp only [wo, List.mem_append, List.mem_map] at hx
    rcases hx with (hx | hx) | ⟨y, hy, rfl⟩
    · split at hx
      · rename_i hh
        rw [List.mem_singleton.mp hx]
        exact ⟨Proper.cons hh hb.tl, u1, by show q.1 ≤ r.2; omega, u3⟩
      · simp at hx
    · split at hx
      · rename_i hh
        rw [List.mem_singleton.mp hx]
        exact ⟨Proper.cons hh hb.tl, by show r.1 ≤ q.2; omega, u2, u3⟩
      · simp at hx
    · obtain ⟨h1, h2⟩ := wo_ok hb.tl hm.tl s3 u3 y hy
      exact ⟨Proper.cons hm.hd h1, by show r.1 ≤ q.1; omega, by show q.2 ≤ r.2; omega, h2⟩
theorem wo_len : ∀ {b m : Box}, (wo b m).length ≤ 2 * b.length
  | [], _ => by simp [wo]
  | _ :: _, [] => by simp [wo]
  | p :: b, q :: m => by
    have := wo_len (b := b) (m := m)
    simp only [wo, List.length_append, List.length_map, List.length_cons]
    split <;> split <;> simp <;> omega
theorem mult_map_cons (q : Int × Int) (ps : List Box) (x : Int) (c : Cell) : mult (ps.map (q :: ·)) (x :: c) = if q.1 ≤ x ∧ x < q.2 then mult ps c else 0 := by
  unfold mult
  rw [List.countP_map]
  split
  · rename_i h
    congr 1
    funext b
    simp [inB, h]
  · rename_i h
    have : (inB (x :: c) ∘ fun b => q :: b) = fun _ => false := by funext b; simp [inB, h]
    rw [this]
    simp
theorem mult_one (b : Box) (c : Cell) : mult [b] c = (inB c b).toNat := by
  cases h : inB c b <;> simp [mult, h]
theorem mult_ite (P : Prop) [Decidable P] (b : Box) (c : Cell) : mult (if P then [b] else []) c = if P then (inB c b).toNat else 0 := by
  split
  · exact mult_one b c
  · rfl
theorem wo_part : ∀ {b m : Box}, Proper b → Proper m → Sub m b → Part (wo b m) (fun c => inB c b && !inB c m)
  | [], [], _, _, _, c => by cases c <;> simp [wo, mult, inB]
  | p :: b, q :: m, hb, hm, hs, [] => by
    have e : ∀ ps : List Box, mult (ps.map (q :: ·)) [] = 0 := by
      intro ps
      unfold mult
      rw [List.countP_map]
      have : (inB [] ∘ fun b => q :: b) = fun _ => false := by funext b; rfl
      rw [this]; simp
    rw [wo, mult_app, mult_app, mult_ite, mult_ite, e]
    simp [inB]
  | p :: b, q :: m, hb, hm, hs, x :: c => by
    obtain ⟨s1, s2, s3⟩ := hs
    have hq := hm.hd
    have ih := wo_part hb.tl hm.tl s3 c
    rw [wo, mult_app, mult_app, mult_map_cons, ih, mult_ite, mult_ite]
    simp only [inB]
    by_cases c1 : p.1 ≤ x ∧ x < q.1
    · rw [if_pos (by omega), if_neg (by omega : ¬ (q.1 ≤ x ∧ x < q.2))]
      rw [decide_eq_true (show p.1 ≤ x ∧ x < q.1 from c1), decide_eq_false (show ¬ (q.2 ≤ x ∧ x < p.2) by omega), decide_eq_true (show p.1 ≤ x ∧ x < p.2 by omega), decide_eq_false (show ¬ (q.1 ≤ x ∧ x < q.2) by omega)]
      cases inB c b <;> simp
    · rw [decide_eq_false (show ¬ (p.1 ≤ x ∧ x < q.1) from c1)]
      by_cases c2 : q.2 ≤ x ∧ x < p.2
      · rw [if_neg (by omega : ¬ (q.1 ≤ x ∧ x < q.2)), decide_eq_true c2, if_pos (by omega : q.2 < p.2), decide_eq_true (show p.1 ≤ x ∧ x < p.2 by omega), decide_eq_false (show ¬ (q.1 ≤ x ∧ x < q.2) by omega)]
        cases inB c b <;> simp
      · rw [decide_eq_false c2]
        by_cases c3 : q.1 ≤ x ∧ x < q.2
        · rw [if_pos c3, decide_eq_true c3, decide_eq_true (show p.1 ≤ x ∧ x < p.2 by omega)]
          cases inB c b <;> cases inB c m <;> simp
        · rw [if_neg c3, decide_eq_false (show ¬ (p.1 ≤ x ∧ x < p.2) by omega)]
          simp
def without (b o : Box) : List Box := if clashB b o = true then wo b (meet b o) else [b]
theorem without_ok {b o u : Box} (hb : Proper b) (ho : Proper o) (hl : b.length = o.length) (hu : Sub b u) : ∀ x ∈ without b o, Proper x ∧ Sub x u := by
  intro x hx
  unfold without at hx
  split at hx
  · rename_i h
    exact wo_ok hb (meet_proper hb ho h) (meet_sub hl) hu x hx
  · rw [List.mem_singleton.mp hx]
    exact ⟨hb, hu⟩
theorem without_part {b o : Box} (hb : Proper b) (ho : Proper o) (hl : b.length = o.length) : Part (without b o) (fun c => inB c b && !inB c o) := by
  intro c
  unfold without
  split
  · rename_i h
    rw [wo_part hb (meet_proper hb ho h) (meet_sub hl) c]
    show (inB c b && !inB c (meet b o)).toNat = (inB c b && !inB c o).toNat
    rw [inB_meet hl]
    cases inB c b <;> cases inB c o <;> rfl
  · rename_i h
    have := clash_no (c := c) hl (by simpa using h)
    rw [mult_one]
    show (inB c b).toNat = (inB c b && !inB c o).toNat
    cases h1 : inB c b <;> cases h2 : inB c o <;> simp_all
theorem without_len {b o : Box} : (without b o).length ≤ 2 * b.length + 1 := by
  unfold without
  have := wo_len (b := b) (m := meet b o)
  split <;> simp <;> omega
end Bx
namespace Bx
/-- proper boxes within u -/
def Ok (u : Box) (ps : List Box) : Prop := ∀ b ∈ ps, Proper b ∧ Sub b u
theorem Ok.len {u : Box} {ps : List Box} (h : Ok u ps) {b : Box} (hb : b ∈ ps) : b.length = u.length := (h b hb).2.len
theorem Ok.app {u : Box} {ps qs : List Box} (h : Ok u ps) (h' : Ok u qs) : Ok u (ps ++ qs) := fun b hb => (List.mem_append.mp hb).elim (h b) (h' b)
theorem Ok.cons {u : Box} {b : Box} {qs : List Box} (h1 : Proper b) (h2 : Sub b u) (h' : Ok u qs) : Ok u (b :: qs) := fun x hx => by
  rcases List.mem_cons.mp hx with rfl | hx
  · exact ⟨h1, h2⟩
  · exact h' x hx
theorem Ok.nil {u : Box} : Ok u [] := fun b hb => by simp at hb
theorem Ok.one {u b : Box} (h1 : Proper b) (h2 : Sub b u) : Ok u [b] := Ok.cons h1 h2 Ok.nil
theorem Ok.left {u : Box} {ps qs : List Box} (h : Ok u (ps ++ qs)) : Ok u ps := fun b hb => h b (List.mem_append_left _ hb)
theorem Ok.right {u : Box} {ps qs : List Box} (h : Ok u (ps ++ qs)) : Ok u qs := fun b hb => h b (List.mem_append_right _ hb)
theorem Ok.hd {u b : Box} {qs : List Box} (h : Ok u (b :: qs)) : Proper b ∧ Sub b u := h b List.mem_cons_self
theorem Ok.tl {u b : Box} {qs : List Box} (h : Ok u (b :: qs)) : Ok u qs := fun x hx => h x (List.mem_cons_of_mem _ hx)
theorem Ok.without {b o u : Box} (hb : Proper b) (hu : Sub b u) (ho : Proper o) (hl : o.length = u.length) : Ok u (without b o) := without_ok hb ho (by rw [hu.len, hl]) hu
theorem Part.un {ps : List Box} {p : Cell → Bool} (h : Part ps p) (c : Cell) : un ps c = p c := by
  rw [un_mult, h c]
  cases p c <;> rfl
theorem Part.congr {ps : List Box} {p q : Cell → Bool} (h : Part ps p) (e : ∀ c, p c = q c) : Part ps q := fun c => by rw [h c, e c]
def cutAll (ps : List Box) (o : Box) : List Box := ps.flatMap (without · o)
theorem cutAll_ok {u o : Box} {ps : List Box} (h : Ok u ps) (ho : Proper o) (hl : o.length = u.length) : Ok u (cutAll ps o) := fun x hx => by
  obtain ⟨b, hb, hx⟩ := List.mem_flatMap.mp hx
  exact Ok.without (h b hb).1 (h b hb).2 ho hl x hx
theorem mult_cutAll {u o : Box} (ho : Proper o) (hl : o.length = u.length) (c : Cell) : ∀ {ps : List Box}, Ok u ps → mult (cutAll ps o) c = if inB c o = true then 0 else mult ps c
  | [], _ => by simp [cutAll, mult]
  | b :: ps, h => by
    have ih := mult_cutAll ho hl c h.tl
    have e : cutAll (b :: ps) o = without b o ++ cutAll ps o := by simp [cutAll]
    have e2 : mult (b :: ps) c = (inB c b).toNat + mult ps c := by
      have := mult_app [b] ps c
      rw [mult_one] at this
      exact this
    rw [e, mult_app, ih, e2, without_part h.hd.1 ho (by rw [h.hd.2.len, hl]) c]
    show (inB c b && !inB c o).toNat + _ = _
    cases inB c o <;> cases inB c b <;> simp
theorem cutAll_part {u o : Box} {ps : List Box} {p : Cell → Bool} (hp : Part ps p) (h : Ok u ps) (ho : Proper o) (hl : o.length = u.length) : Part (cutAll ps o) (fun c => p c && !inB c o) := fun c => by
  rw [mult_cutAll ho hl c h, hp c]
  show _ = (p c && !inB c o).toNat
  cases inB c o <;> cases p c <;> simp
theorem cuts {u : Box} : ∀ {fs ps : List Box} {p : Cell → Bool}, Ok u fs → Ok u ps → Part ps p → Ok u (fs.foldl cutAll ps) ∧ Part (fs.foldl cutAll ps) (fun c => p c && !un fs c)
  | [], ps, p, _, h, hp => ⟨h, hp.congr fun c => by simp [un]⟩
  | f :: fs, ps, p, hf, h, hp => by
    obtain ⟨a, b⟩ := cuts hf.tl (cutAll_ok h hf.hd.1 hf.hd.2.len) (cutAll_part hp h hf.hd.1 hf.hd.2.len)
    refine ⟨a, b.congr fun c => ?_⟩
    simp only [un, List.any_cons]
    cases p c <;> cases inB c f <;> simp
def addB (fs : List Box) (b : Box) : List Box := fs ++ fs.foldl cutAll [b]
theorem addB_ok {u b : Box} {fs : List Box} {q : Cell → Bool} (hf : Ok u fs) (hq : Part fs q) (h1 : Proper b) (h2 : Sub b u) : Ok u (addB fs b) ∧ Part (addB fs b) (fun c => q c || inB c b) := by
  obtain ⟨a, p⟩ := cuts hf (Ok.one h1 h2) (p := fun c => inB c b) (fun c => mult_one b c)
  refine ⟨hf.app a, fun c => ?_⟩
  rw [addB, mult_app, hq c, p c]
  have := hq.un c
  simp only [this]
  cases q c <;> cases inB c b <;> rfl
theorem adds {u : Box} : ∀ {bs fs : List Box} {q : Cell → Bool}, Ok u bs → Ok u fs → Part fs q → Ok u (bs.foldl addB fs) ∧ Part (bs.foldl addB fs) (fun c => q c || un bs c)
  | [], fs, q, _, h, hq => ⟨h, hq.congr fun c => by simp [un]⟩
  | b :: bs, fs, q, hb, h, hq => by
    obtain ⟨a1, a2⟩ := addB_ok h hq hb.hd.1 hb.hd.2
    obtain ⟨a, p⟩ := adds hb.tl a1 a2
    refine ⟨a, p.congr fun c => ?_⟩
    simp only [un, List.any_cons]
    cases q c <;> cases inB c b <;> simp
def apart (bs : List Box) : List Box := bs.foldl addB []
def volume (bs : List Box) : Int := sumV (apart bs)
theorem apart_ok {u : Box} {bs : List Box} (h : Ok u bs) : Ok u (apart bs) ∧ Part (apart bs) (un bs) := by
  obtain ⟨a, b⟩ := adds h Ok.nil (q := fun _ => false) (fun c => rfl)
  exact ⟨a, b.congr fun c => by simp⟩
theorem volume_eq {u : Box} {bs : List Box} (h : Ok u bs) : volume bs = (cnt u (un bs) : Nat) := by
  obtain ⟨a, b⟩ := apart_ok h
  exact b.sum a
theorem volume_congr {u : Box} {bs cs : List Box} (h : Ok u bs) (h' : Ok u cs) (e : ∀ c, un bs c = un cs c) : volume bs = volume cs := by
  rw [volume_eq h, volume_eq h', cnt_congr e]
theorem volume_mono {u : Box} {bs cs : List Box} (h : Ok u bs) (h' : Ok u cs) (e : ∀ c, un bs c = true → un cs c = true) : volume bs ≤ volume cs := by
  rw [volume_eq h, volume_eq h']
  exact Int.ofNat_le.mpr (cnt_mono e)
theorem vol_cnt {u b : Box} (h1 : Proper b) (h2 : Sub b u) : vol b = (cnt u (fun c => inB c b) : Nat) := (cnt_box h1 h2).symm
theorem volume_one {u b : Box} (h1 : Proper b) (h2 : Sub b u) {bs : List Box} (h : Ok u bs) (e : ∀ c, un bs c = inB c b) : volume bs = vol b := by
  rw [volume_eq h, vol_cnt h1 h2, cnt_congr e]
def sameRoom (a b : List Box) : Bool := decide (volume a = volume (a ++ b)) && decide (volume b = volume (a ++ b))
theorem un_app (a b : List Box) (c : Cell) : un (a ++ b) c = (un a c || un b c) := by simp [un]
theorem un_one (b : Box) (c : Cell) : un [b] c = inB c b := by simp [un]
theorem un_two (a b : Box) (c : Cell) : un [a, b] c = (inB c a || inB c b) := by simp [un]
theorem sameRoom_true {u : Box} {a b : List Box} (ha : Ok u a) (hb : Ok u b) (e : ∀ c, un a c = un b c) : sameRoom a b = true := by
  unfold sameRoom
  rw [volume_congr ha (ha.app hb) fun c => by rw [un_app, e c]; simp, volume_congr hb (ha.app hb) fun c => by rw [un_app, e c]; simp]
  simp
/-- room of what two share, 0 without -/
def common (b o : Box) : Int := if clashB b o = true then vol (meet b o) else 0
theorem common_eq {u b o : Box} (hb : Proper b) (ho : Proper o) (sb : Sub b u) (so : Sub o u) : common b o = (cnt u (fun c => inB c b && inB c o) : Nat) := by
  have hl : b.length = o.length := by rw [sb.len, so.len]
  unfold common
  split
  · rename_i h
    rw [vol_cnt (meet_proper hb ho h) ((meet_sub hl).trans sb), cnt_congr fun c => inB_meet hl]
  · rename_i h
    rw [cnt_congr (q := fun _ => false) fun c => clash_no hl (by simpa using h), cnt_false]
    rfl
theorem two {u b o : Box} (hb : Proper b) (ho : Proper o) (sb : Sub b u) (so : Sub o u) : volume [b, o] = vol b + vol o - common b o := by
  rw [volume_eq (u := u) (Ok.cons hb sb (Ok.one ho so)), common_eq hb ho sb so, vol_cnt hb sb, vol_cnt ho so, cnt_congr (un_two b o)]
  have := cnt_add u (fun c => inB c b) (fun c => inB c o)
  omega
theorem left_sum {u b o : Box} (hb : Proper b) (ho : Proper o) (sb : Sub b u) (so : Sub o u) : sumV (without b o) = vol b - common b o := by
  have hl : b.length = o.length := by rw [sb.len, so.len]
  rw [(without_part hb ho hl).sum (Ok.without hb sb ho so.len), common_eq hb ho sb so, vol_cnt hb sb]
  have := cnt_add u (fun c => inB c b && inB c o) (fun c => inB c b && !inB c o)
  have e1 : cnt u (fun c => (inB c b && inB c o) || (inB c b && !inB c o)) = cnt u (fun c => inB c b) := cnt_congr fun c => by cases inB c b <;> cases inB c o <;> rfl
  have e2 : cnt u (fun c => (inB c b && inB c o) && (inB c b && !inB c o)) = 0 := by
    rw [← cnt_false u]
    exact cnt_congr fun c => by cases inB c b <;> cases inB c o <;> rfl
  rw [e1, e2] at this
  omega
def parts (b o : Box) : List Box := without b o ++ if clashB b o = true then [meet b o] else []
theorem parts_ok {u b o : Box} (hb : Proper b) (ho : Proper o) (sb : Sub b u) (so : Sub o u) : Ok u (parts b o) ∧ ∀ c, un (parts b o) c = inB c b := by
  have hl : b.length = o.length := by rw [sb.len, so.len]
  refine ⟨(Ok.without hb sb ho so.len).app ?_, fun c => ?_⟩
  · split
    · rename_i h
      exact Ok.one (meet_proper hb ho h) ((meet_sub hl).trans sb)
    · exact Ok.nil
  · rw [parts, un_app, (without_part hb ho hl).un c]
    show ((inB c b && !inB c o) || _) = inB c b
    split
    · rw [un_one, inB_meet hl]
      cases inB c b <;> cases inB c o <;> rfl
    · rename_i h
      have := clash_no (c := c) hl (by simpa using h)
      cases h1 : inB c b <;> cases h2 : inB c o <;> simp_all [un]
def common3 (a b c : Box) : Int := if clashB a b = true then common (meet a b) c else 0
theorem three {u a b c : Box} (ha : Proper a) (hb : Proper b) (hc : Proper c) (sa : Sub a u) (sb : Sub b u) (sc : Sub c u) : volume [a, b, c] = vol a + vol b + vol c - (common a b + common a c + common b c) + common3 a b c := by
  have hl : a.length = b.length := by rw [sa.len, sb.len]
  have e3 : common3 a b c = (cnt u (fun x => (inB x a && inB x b) && inB x c) : Nat) := by
    unfold common3
    split
    · rename_i h
      rw [common_eq (meet_proper ha hb h) hc ((meet_sub hl).trans sa) sc, cnt_congr fun x => by rw [inB_meet hl]]
    · rename_i h
      rw [cnt_congr (q := fun _ => false) fun x => by rw [clash_no hl (by simpa using h)]; rfl, cnt_false]
      rfl
  rw [volume_eq (u := u) (Ok.cons ha sa (Ok.cons hb sb (Ok.one hc sc))), e3, common_eq ha hb sa sb, common_eq ha hc sa sc, common_eq hb hc sb sc, vol_cnt ha sa, vol_cnt hb sb, vol_cnt hc sc]
  have e : cnt u (un [a, b, c]) = cnt u (fun x => (inB x a || inB x b) || inB x c) := cnt_congr fun x => by simp [un, Bool.or_assoc]
  rw [e]
  have h1 := cnt_add u (fun x => inB x a || inB x b) (fun x => inB x c)
  have h2 := cnt_add u (fun x => inB x a) (fun x => inB x b)
  have h3 := cnt_add u (fun x => inB x a && inB x c) (fun x => inB x b && inB x c)
  have e4 : cnt u (fun x => (inB x a || inB x b) && inB x c) = cnt u (fun x => (inB x a && inB x c) || (inB x b && inB x c)) := cnt_congr fun x => by cases inB x a <;> cases inB x b <;> cases inB x c <;> rfl
  have e5 : cnt u (fun x => (inB x a && inB x c) && (inB x b && inB x c)) = cnt u (fun x => (inB x a && inB x b) && inB x c) := cnt_congr fun x => by cases inB x a <;> cases inB x b <;> cases inB x c <;> rfl
  rw [e5] at h3
  omega
/-! ### cut in two -/
def cutAt (b : Box) (i : Nat) (p : Int × Int) : Box := b.take i ++ p :: b.drop (i + 1)
theorem inB_app : ∀ {a : Box} {b : Box} {c : Cell}, inB c (a ++ b) = (inB (c.take a.length) a && inB (c.drop a.length) b)
  | [], b, c => by simp [inB]
  | p :: a, b, [] => by simp [inB]
  | p :: a, b, x :: c => by simp [inB, inB_app (a := a), Bool.and_assoc]
theorem cut_in {b : Box} {i : Nat} (h : i < b.length) (p : Int × Int) (c : Cell) : inB c (cutAt b i p) = (inB (c.take i) (b.take i) && inB (c.drop i) (p :: b.drop (i + 1))) := by
  unfold cutAt
  rw [inB_app, List.length_take, Nat.min_eq_left (Nat.le_of_lt h)]
theorem self_in {b : Box} {i : Nat} (h : i < b.length) (c : Cell) : inB c b = (inB (c.take i) (b.take i) && inB (c.drop i) (b[i] :: b.drop (i + 1))) := by
  conv => lhs; rw [← List.take_append_drop i b]
  rw [inB_app, List.length_take, Nat.min_eq_left (Nat.le_of_lt h), List.drop_eq_getElem_cons h]
theorem inB_hd {p : Int × Int} {b : Box} {c : Cell} {m : Int} (h1 : p.1 ≤ m) (h2 : m ≤ p.2) : inB c (p :: b) = (inB c ((p.1, m) :: b) || inB c ((m, p.2) :: b)) := by
  cases c with
  | nil => rfl
  | cons x c =>
    simp only [inB]
    rw [← Bool.and_or_distrib_right, ← Bool.decide_or]
    congr 1
    congr 1
    apply propext
    omega
theorem inB_hd2 {p : Int × Int} {b : Box} {c : Cell} {m : Int} : (inB c ((p.1, m) :: b) && inB c ((m, p.2) :: b)) = false := by
  cases c with
  | nil => rfl
  | cons x c =>
    simp only [inB]
    cases inB c b
    · simp
    · simp
      omega
theorem cut_or {b : Box} {i : Nat} (h : i < b.length) {m : Int} (h1 : b[i].1 ≤ m) (h2 : m ≤ b[i].2) (c : Cell) : inB c b = (inB c (cutAt b i (b[i].1, m)) || inB c (cutAt b i (m, b[i].2))) := by
  rw [cut_in h, cut_in h, self_in h, inB_hd h1 h2]
  cases inB (c.take i) (b.take i) <;> simp
theorem cut_and {b : Box} {i : Nat} (h : i < b.length) {m : Int} (c : Cell) : (inB c (cutAt b i (b[i].1, m)) && inB c (cutAt b i (m, b[i].2))) = false := by
  rw [cut_in h, cut_in h]
  have := inB_hd2 (p := b[i]) (b := b.drop (i + 1)) (c := c.drop i) (m := m)
  cases e1 : inB (c.take i) (b.take i) <;> cases e2 : inB (c.drop i) ((b[i].1, m) :: b.drop (i + 1)) <;> simp_all
theorem cut_proper {b : Box} (hb : Proper b) {i : Nat} {p : Int × Int} (h : p.1 < p.2) : Proper (cutAt b i p) := fun q hq => by
  simp only [cutAt, List.mem_append, List.mem_cons] at hq
  rcases hq with hq | rfl | hq
  · exact hb q (List.mem_of_mem_take hq)
  · exact h
  · exact hb q (List.mem_of_mem_drop hq)
theorem cut_sub : ∀ {b u : Box} {i : Nat} {p : Int × Int} (h : i < b.length), Sub b u → b[i].1 ≤ p.1 → p.2 ≤ b[i].2 → Sub (cutAt b i p) u
  | q :: b, r :: u, 0, p, h, hs, h1, h2 => by
    have h1 : q.1 ≤ p.1 := h1
    have h2 : p.2 ≤ q.2 := h2
    exact ⟨Int.le_trans hs.1 h1, Int.le_trans h2 hs.2.1, by simpa [cutAt] using hs.2.2⟩
  | q :: b, r :: u, i + 1, p, h, hs, h1, h2 => ⟨hs.1, hs.2.1, by
    have := cut_sub (i := i) (p := p) (Nat.lt_of_succ_lt_succ h) hs.2.2 (by simpa using h1) (by simpa using h2)
    simpa [cutAt] using this⟩
theorem halves {b u : Box} (hb : Proper b) (sb : Sub b u) {i : Nat} (h : i < b.length) {m : Int} (h1 : b[i].1 < m) (h2 : m < b[i].2) : vol (cutAt b i (b[i].1, m)) + vol (cutAt b i (m, b[i].2)) = vol b := by
  have p1 : Proper (cutAt b i (b[i].1, m)) := cut_proper hb h1
  have p2 : Proper (cutAt b i (m, b[i].2)) := cut_proper hb h2
  have s1 : Sub (cutAt b i (b[i].1, m)) u := cut_sub h sb (Int.le_refl _) (Int.le_of_lt h2)
  have s2 : Sub (cutAt b i (m, b[i].2)) u := cut_sub h sb (Int.le_of_lt h1) (Int.le_refl _)
  rw [vol_cnt p1 s1, vol_cnt p2 s2, vol_cnt hb sb, cnt_congr (cut_or h (Int.le_of_lt h1) (Int.le_of_lt h2))]
  have := cnt_add u (fun c => inB c (cutAt b i (b[i].1, m))) (fun c => inB c (cutAt b i (m, b[i].2)))
  rw [cnt_congr (q := fun _ => false) (cut_and h), cnt_false] at this
  omega
theorem sub_in : ∀ {b u : Box} {c : Cell}, Sub b u → inB c b = true → inB c u = true
  | [], [], _, _, h => h
  | p :: b, q :: u, [], _, h => by simp [inB] at h
  | p :: b, q :: u, x :: c, hs, h => by
    simp only [inB, Bool.and_eq_true, decide_eq_true_eq] at h ⊢
    obtain ⟨a1, a2, a3⟩ := hs
    exact ⟨⟨by omega, by omega⟩, sub_in a3 h.2⟩
theorem without_sub {b o : Box} (hb : Proper b) (ho : Proper o) (hs : Sub b o) : without b o = [] := by
  have p := without_part hb ho hs.len
  cases e : without b o with
  | nil => rfl
  | cons x r =>
    have hx := without_ok hb ho hs.len (Sub.refl b) x (by rw [e]; exact List.mem_cons_self)
    have h1 := low_in hx.1
    have h2 := p.un (x.map (·.1))
    rw [e] at h2
    simp only [un, List.any_cons, h1, Bool.true_or] at h2
    have h3 := sub_in hs (sub_in hx.2 h1)
    rw [h3] at h2
    simp at h2
end Bx
namespace Bx
/-! ### shifts -/
def shiftB (b : Box) (s : List Int) : Box := List.zipWith (fun p k => (p.1 + k, p.2 + k)) b s
def shiftC (c : Cell) (s : List Int) : Cell := List.zipWith (· + ·) c s
theorem shift_len {b : Box} {s : List Int} (h : b.length = s.length) : (shiftB b s).length = b.length := by simp [shiftB, h]
theorem shift_in : ∀ {b : Box} {c : Cell} {s : List Int}, b.length = s.length → inB (shiftC c s) (shiftB b s) = (inB (c.take s.length) b)
  | [], [], [], _ => rfl
  | [], x :: c, [], _ => by simp [shiftC, shiftB, inB]
  | p :: b, [], k :: s, _ => by simp [shiftC, shiftB, inB]
  | p :: b, x :: c, k :: s, h => by
    have ih := shift_in (b := b) (c := c) (s := s) (Nat.succ.inj h)
    simp only [shiftC, shiftB, List.zipWith_cons_cons, inB, List.length_cons, List.take_succ_cons] at ih ⊢
    rw [ih]
    congr 1
    congr 1
    apply propext
    omega
theorem shift_proper : ∀ {b : Box} {s : List Int}, Proper b → Proper (shiftB b s)
  | [], _, _ => by intro p hp; simp [shiftB] at hp
  | _ :: _, [], _ => by intro p hp; simp [shiftB] at hp
  | p :: b, k :: s, h => by
    have := h.hd
    exact Proper.cons (by show p.1 + k < p.2 + k; omega) (shift_proper h.tl)
theorem shift_sub : ∀ {b u : Box} {s : List Int}, Sub b u → Sub (shiftB b s) (shiftB u s)
  | [], [], _, _ => trivial
  | _ :: _, _ :: _, [], _ => trivial
  | p :: b, q :: u, k :: s, h => ⟨by show q.1 + k ≤ p.1 + k; have := h.1; omega, by show p.2 + k ≤ q.2 + k; have := h.2.1; omega, shift_sub h.2.2⟩
theorem rangeI_shift (l h k : Int) : rangeI (l + k) (h + k) = (rangeI l h).map (· + k) := by
  unfold rangeI
  rw [List.map_map, show (h + k - (l + k)) = h - l by omega]
  apply List.map_congr_left
  intro x _
  simp only [Function.comp]
  omega
theorem cells_shift : ∀ {u : Box} {s : List Int}, u.length = s.length → cells (shiftB u s) = (cells u).map (shiftC · s)
  | [], [], _ => rfl
  | p :: u, k :: s, h => by
    have ih := cells_shift (u := u) (s := s) (Nat.succ.inj h)
    show cells ((p.1 + k, p.2 + k) :: shiftB u s) = _
    simp only [cells, rangeI_shift, ih, List.flatMap_map, List.map_flatMap, List.map_map]
    congr 1
theorem cnt_shift {u : Box} {s : List Int} (h : u.length = s.length) {bs : List Box} (hb : Ok u bs) : cnt (shiftB u s) (un (bs.map (shiftB · s))) = cnt u (un bs) := by
  unfold cnt
  rw [cells_shift h, List.countP_map]
  apply List.countP_congr
  intro c hc
  have hl := cells_len hc
  have : un (bs.map (shiftB · s)) (shiftC c s) = un bs c := by
    unfold un
    rw [List.any_map, Bool.eq_iff_iff]
    simp only [List.any_eq_true, Function.comp]
    constructor
    · rintro ⟨b, hb', h'⟩
      rw [shift_in (by rw [hb.len hb', h])] at h'
      rw [List.take_of_length_le (by omega)] at h'
      exact ⟨b, hb', h'⟩
    · rintro ⟨b, hb', h'⟩
      refine ⟨b, hb', ?_⟩
      rw [shift_in (by rw [hb.len hb', h])]
      rw [List.take_of_length_le (by omega)]
      exact h'
  simp [Function.comp, this]
theorem shift_ok {u : Box} {s : List Int} {bs : List Box} (hb : Ok u bs) : Ok (shiftB u s) (bs.map (shiftB · s)) := fun x hx => by
  obtain ⟨b, hb', rfl⟩ := List.mem_map.mp hx
  exact ⟨shift_proper (hb b hb').1, shift_sub (hb b hb').2⟩
theorem volume_shift {u : Box} {s : List Int} (h : u.length = s.length) {bs : List Box} (hb : Ok u bs) : volume (bs.map (shiftB · s)) = volume bs := by
  rw [volume_eq (shift_ok hb), volume_eq hb, cnt_shift h hb]
/-! ### hulls -/
def loA (a : Nat) (bs : List Box) : List Int := bs.map fun b => (b.getD a (0, 0)).1
def hiA (a : Nat) (bs : List Box) : List Int := bs.map fun b => (b.getD a (0, 0)).2
def hullB (n : Nat) (bs : List Box) : Box := (List.range n).map fun a => ((loA a bs).min?.getD 0, (hiA a bs).max?.getD 0)
theorem min_of {xs : List Int} (h : xs ≠ []) : (xs.min?.getD 0) ∈ xs ∧ ∀ x ∈ xs, xs.min?.getD 0 ≤ x := by
  cases e : xs.min? with
  | none => exact absurd (List.min?_eq_none_iff.mp e) h
  | some m => exact List.min?_eq_some_iff.mp e
theorem max_of {xs : List Int} (h : xs ≠ []) : (xs.max?.getD 0) ∈ xs ∧ ∀ x ∈ xs, x ≤ xs.max?.getD 0 := by
  cases e : xs.max? with
  | none => exact absurd (List.max?_eq_none_iff.mp e) h
  | some m => exact List.max?_eq_some_iff.mp e
theorem min_eq {xs ys : List Int} (h : xs ≠ []) (h' : ys ≠ []) (a : ∀ x ∈ xs, ∃ y ∈ ys, y ≤ x) (b : ∀ y ∈ ys, ∃ x ∈ xs, x ≤ y) : xs.min?.getD 0 = ys.min?.getD 0 := by
  obtain ⟨a1, a2⟩ := min_of h
  obtain ⟨b1, b2⟩ := min_of h'
  obtain ⟨y, hy, h1⟩ := a _ a1
  obtain ⟨x, hx, h2⟩ := b _ b1
  have := a2 x hx
  have := b2 y hy
  omega
theorem max_eq {xs ys : List Int} (h : xs ≠ []) (h' : ys ≠ []) (a : ∀ x ∈ xs, ∃ y ∈ ys, x ≤ y) (b : ∀ y ∈ ys, ∃ x ∈ xs, y ≤ x) : xs.max?.getD 0 = ys.max?.getD 0 := by
  obtain ⟨a1, a2⟩ := max_of h
  obtain ⟨b1, b2⟩ := max_of h'
  obtain ⟨y, hy, h1⟩ := a _ a1
  obtain ⟨x, hx, h2⟩ := b _ b1
  have := a2 x hx
  have := b2 y hy
  omega
theorem hull_len (n : Nat) (bs : List Box) : (hullB n bs).length = n := by simp [hullB]
theorem hull_get {n a : Nat} (bs : List Box) (h : a < n) : (hullB n bs).getD a (0, 0) = ((loA a bs).min?.getD 0, (hiA a bs).max?.getD 0) := by
  simp [hullB, h]
theorem lo_ne {a : Nat} {bs : List Box} (h : bs ≠ []) : loA a bs ≠ [] := by simpa [loA] using h
theorem hi_ne {a : Nat} {bs : List Box} (h : bs ≠ []) : hiA a bs ≠ [] := by simpa [hiA] using h
theorem lo_app (a : Nat) (bs cs : List Box) : loA a (bs ++ cs) = loA a bs ++ loA a cs := by simp [loA]
theorem hi_app (a : Nat) (bs cs : List Box) : hiA a (bs ++ cs) = hiA a bs ++ hiA a cs := by simp [hiA]
theorem hull_hull {n : Nat} {bs : List Box} (h : bs ≠ []) (cs : List Box) : hullB n (cs ++ [hullB n bs]) = hullB n (cs ++ bs) := by
  apply List.map_congr_left
  intro a ha
  have ha := List.mem_range.mp ha
  have e1 : loA a [hullB n bs] = [(loA a bs).min?.getD 0] := by simp only [loA, List.map_cons, List.map_nil, hull_get bs ha]
  have e2 : hiA a [hullB n bs] = [(hiA a bs).max?.getD 0] := by simp only [hiA, List.map_cons, List.map_nil, hull_get bs ha]
  obtain ⟨m1, m2⟩ := min_of (lo_ne (a := a) h)
  obtain ⟨k1, k2⟩ := max_of (hi_ne (a := a) h)
  rw [lo_app, hi_app, lo_app, hi_app, e1, e2]
  refine Prod.ext ?_ ?_
  · refine min_eq (by simp) (by have := lo_ne (a := a) h; simp [this]) ?_ ?_
    · intro x hx
      rcases List.mem_append.mp hx with hx | hx
      · exact ⟨x, List.mem_append_left _ hx, Int.le_refl _⟩
      · rw [List.mem_singleton.mp hx]
        exact ⟨_, List.mem_append_right _ m1, Int.le_refl _⟩
    · intro x hx
      rcases List.mem_append.mp hx with hx | hx
      · exact ⟨x, List.mem_append_left _ hx, Int.le_refl _⟩
      · exact ⟨_, List.mem_append_right _ List.mem_cons_self, m2 x hx⟩
  · refine max_eq (by simp) (by have := hi_ne (a := a) h; simp [this]) ?_ ?_
    · intro x hx
      rcases List.mem_append.mp hx with hx | hx
      · exact ⟨x, List.mem_append_left _ hx, Int.le_refl _⟩
      · rw [List.mem_singleton.mp hx]
        exact ⟨_, List.mem_append_right _ k1, Int.le_refl _⟩
    · intro x hx
      rcases List.mem_append.mp hx with hx | hx
      · exact ⟨x, List.mem_append_left _ hx, Int.le_refl _⟩
      · exact ⟨_, List.mem_append_right _ List.mem_cons_self, k2 x hx⟩
theorem hull_same {n : Nat} {bs cs : List Box} (h : bs ≠ []) (e : ∀ b, b ∈ bs ↔ b ∈ cs) : hullB n bs = hullB n cs := by
  have h' : cs ≠ [] := by
    cases bs with
    | nil => exact absurd rfl h
    | cons b bs => exact List.ne_nil_of_mem ((e b).mp List.mem_cons_self)
  apply List.map_congr_left
  intro a ha
  refine Prod.ext (min_eq (lo_ne h) (lo_ne h') ?_ ?_) (max_eq (hi_ne h) (hi_ne h') ?_ ?_)
  all_goals
    intro x hx
    simp only [loA, hiA, List.mem_map] at hx
    obtain ⟨b, hb, rfl⟩ := hx
    refine ⟨_, List.mem_map.mpr ⟨b, ?_, rfl⟩, Int.le_refl _⟩
    first | exact (e b).mp hb | exact (e b).mpr hb
theorem hull_self {n : Nat} {bs : List Box} (h : bs ≠ []) : hullB n (bs ++ [hullB n bs]) = hullB n bs := by
  rw [hull_hull h]
  exact (hull_same h fun b => by simp).symm
theorem hull_two {n : Nat} {bs cs : List Box} (h : bs ≠ []) (h' : cs ≠ []) : hullB n [hullB n bs, hullB n cs] = hullB n (bs ++ cs) := by
  rw [show [hullB n bs, hullB n cs] = [hullB n bs] ++ [hullB n cs] from rfl, hull_hull h']
  rw [hull_same (bs := [hullB n bs] ++ cs) (cs := cs ++ [hullB n bs]) (by simp) (fun b => by simp [or_comm]), hull_hull h]
  exact hull_same (by simp [h']) fun b => by simp [or_comm]
theorem sub_of : ∀ {b u : Box}, b.length = u.length → (∀ a, a < b.length → (u.getD a (0, 0)).1 ≤ (b.getD a (0, 0)).1 ∧ (b.getD a (0, 0)).2 ≤ (u.getD a (0, 0)).2) → Sub b u
  | [], [], _, _ => trivial
  | p :: b, q :: u, hl, h => by
    refine ⟨?_, ?_, sub_of (Nat.succ.inj hl) fun a ha => ?_⟩
    · simpa using (h 0 (by simp)).1
    · simpa using (h 0 (by simp)).2
    · simpa using h (a + 1) (by simpa using ha)
theorem of_sub : ∀ {b u : Box}, Sub b u → ∀ a, a < b.length → (u.getD a (0, 0)).1 ≤ (b.getD a (0, 0)).1 ∧ (b.getD a (0, 0)).2 ≤ (u.getD a (0, 0)).2
  | [], [], _, a, h => by simp at h
  | p :: b, q :: u, hs, 0, _ => by simpa using ⟨hs.1, hs.2.1⟩
  | p :: b, q :: u, hs, a + 1, h => by simpa using of_sub hs.2.2 a (by simpa using h)
theorem hull_holds {n : Nat} {bs : List Box} {b : Box} (hb : b ∈ bs) (hl : b.length = n) : Sub b (hullB n bs) := by
  refine sub_of (by rw [hl, hull_len]) fun a ha => ?_
  rw [hull_get bs (by omega)]
  have hne : bs ≠ [] := List.ne_nil_of_mem hb
  exact ⟨(min_of (lo_ne (a := a) hne)).2 _ (List.mem_map.mpr ⟨b, hb, rfl⟩), (max_of (hi_ne (a := a) hne)).2 _ (List.mem_map.mpr ⟨b, hb, rfl⟩)⟩
theorem hull_in {n : Nat} {bs : List Box} {u : Box} (hu : Ok u bs) (hn : u.length = n) (h : bs ≠ []) : Sub (hullB n bs) u := by
  refine sub_of (by rw [hull_len, hn]) fun a ha => ?_
  rw [hull_len] at ha
  rw [hull_get bs ha]
  constructor
  · obtain ⟨b, hb, e⟩ := List.mem_map.mp (min_of (lo_ne (a := a) h)).1
    rw [← e]
    exact (of_sub (hu b hb).2 a (by rw [hu.len hb]; omega)).1
  · obtain ⟨b, hb, e⟩ := List.mem_map.mp (max_of (hi_ne (a := a) h)).1
    rw [← e]
    exact (of_sub (hu b hb).2 a (by rw [hu.len hb]; omega)).2
theorem sub_proper : ∀ {b u : Box}, Proper b → Sub b u → Proper u
  | [], [], _, _ => by intro p hp; simp at hp
  | p :: b, q :: u, hb, hs => by
    have := hb.hd
    obtain ⟨h1, h2, h3⟩ := hs
    exact Proper.cons (by omega) (sub_proper hb.tl h3)
theorem hull_proper {n : Nat} {bs : List Box} {u : Box} (hu : Ok u bs) (hn : u.length = n) (h : bs ≠ []) : Proper (hullB n bs) := by
  cases bs with
  | nil => exact absurd rfl h
  | cons b bs => exact sub_proper hu.hd.1 (hull_holds List.mem_cons_self (by rw [hu.hd.2.len, hn]))
theorem un_hull {n : Nat} {bs : List Box} {u : Box} (hu : Ok u bs) (hn : u.length = n) (c : Cell) (h : un bs c = true) : inB c (hullB n bs) = true := by
  obtain ⟨b, hb, h'⟩ := List.any_eq_true.mp h
  exact sub_in (hull_holds hb (by rw [hu.len hb, hn])) h'
theorem cells_length : ∀ (u : Box), (cells u).length = (u.map fun p => (p.2 - p.1).toNat).prod
  | [] => rfl
  | p :: u => by
    rw [cells, List.length_flatMap]
    simp only [List.length_map, cells_length u, List.map_cons, List.prod_cons]
    have : ∀ (xs : List Int) (k : Nat), (xs.map fun _ => k).sum = xs.length * k := by
      intro xs k
      induction xs with
      | nil => simp
      | cons x xs ih => simp [ih, Nat.add_mul, Nat.add_comm]
    rw [this, len_rangeI]
end Bx
set_option maxRecDepth 100000
namespace K8
open Mi
/-! The bodies of the defs, in the core language. -/
def x_clash_0 : E := (.gen false [2, 3] (.tp [(.nm 2), (.nm 3)]) (.zip (.cons (.var 0) (.cons (.var 1) .nil))) (.con (.bool true)) (.and (.op (.cmp .lt) (.cons (.op .idx (.cons (.var 2) (.cons (.con (.int 0)) .nil))) (.cons (.op .idx (.cons (.var 3) (.cons (.con (.int 1)) .nil))) .nil))) (.op (.cmp .lt) (.cons (.op .idx (.cons (.var 3) (.cons (.con (.int 0)) .nil))) (.cons (.op .idx (.cons (.var 2) (.cons (.con (.int 1)) .nil))) .nil)))))
def b_clash : Ss := (.cons (.ret x_clash_0) .nil)
def x_shared_0 : E := (.lc [2, 3] (.tp [(.nm 2), (.nm 3)]) (.zip (.cons (.var 0) (.cons (.var 1) .nil))) (.con (.bool true)) (.tup (.cons (.op (.bi .max2) (.cons (.op .idx (.cons (.var 2) (.cons (.con (.int 0)) .nil))) (.cons (.op .idx (.cons (.var 3) (.cons (.con (.int 0)) .nil))) .nil))) (.cons (.op (.bi .min2) (.cons (.op .idx (.cons (.var 2) (.cons (.con (.int 1)) .nil))) (.cons (.op .idx (.cons (.var 3) (.cons (.con (.int 1)) .nil))) .nil))) .nil))))
def b_shared : Ss := (.cons (.iff (.ite (.op .tru (.cons (.call 0 (.cons (.var 0) (.cons (.var 1) .nil))) .nil)) (.con (.bool false)) (.con (.bool true))) (.cons (.ret (.con .none)) .nil) .nil) (.cons (.ret (.op (.bi .tuple) (.cons x_shared_0 .nil))) .nil))
def x_shifted_0 : E := (.lc [2, 3, 4] (.tp [(.tp [(.nm 2), (.nm 3)]), (.nm 4)]) (.zip (.cons (.var 0) (.cons (.var 1) .nil))) (.con (.bool true)) (.tup (.cons (.op (.bin .add) (.cons (.var 2) (.cons (.var 4) .nil))) (.cons (.op (.bin .add) (.cons (.var 3) (.cons (.var 4) .nil))) .nil))))
def b_shifted : Ss := (.cons (.ret (.op (.bi .tuple) (.cons x_shifted_0 .nil))) .nil)
def fb_room_of_0 : Ss := (.cons (.set 1 false (.op (.bin .mul) (.cons (.var 1) (.cons (.op (.bin .sub) (.cons (.var 3) (.cons (.var 2) .nil))) .nil)))) .nil)
def f_room_of_0 : S := (.for (.tp [(.nm 2), (.nm 3)]) (.val (.var 0)) fb_room_of_0)
def b_room_of : Ss := (.cons (.set 1 false (.con (.int 1))) (.cons f_room_of_0 (.cons (.ret (.var 1)) .nil)))
def x_apart_0 : E := (.lc2 [5, 6] (.nm 5) (.val (.var 3)) (.con (.bool true)) (.nm 6) (.val (.call 5 (.cons (.var 5) (.cons (.var 4) .nil)))) (.con (.bool true)) (.var 6))
def fb_apart_0 : Ss := (.cons (.set 3 true x_apart_0) .nil)
def f_apart_0 : S := (.for (.nm 4) (.val (.var 1)) fb_apart_0)
def fb_apart_1 : Ss := (.cons (.set 3 true (.lst (.cons (.var 2) .nil))) (.cons f_apart_0 (.cons (.expr (.mth .extend 1 (.cons (.var 3) .nil))) .nil)))
def f_apart_1 : S := (.for (.nm 2) (.val (.var 0)) fb_apart_1)
def b_apart : Ss := (.cons (.set 1 true (.lst .nil)) (.cons f_apart_1 (.cons (.ret (.var 1)) .nil)))
def fb_without_0 : Ss := (.cons (.iff (.op (.cmp .lt) (.cons (.var 6) (.cons (.var 7) .nil))) (.cons (.expr (.mth .append 3 (.cons (.tup (.star (.op .sl (.cons (.var 4) (.cons (.con .none) (.cons (.op .asInt (.cons (.var 5) .nil)) .nil)))) (.cons (.tup (.cons (.var 6) (.cons (.var 7) .nil))) (.star (.op .sl (.cons (.var 4) (.cons (.op .asInt (.cons (.op (.bin .add) (.cons (.var 5) (.cons (.con (.int 1)) .nil))) .nil)) (.cons (.con .none) .nil)))) .nil)))) .nil))) .nil) .nil) .nil)
def f_without_0 : S := (.for (.tp [(.nm 6), (.nm 7)]) (.val (.tup (.cons (.tup (.cons (.op .idx (.cons (.op .idx (.cons (.var 4) (.cons (.var 5) .nil))) (.cons (.con (.int 0)) .nil))) (.cons (.op .idx (.cons (.op .idx (.cons (.var 2) (.cons (.var 5) .nil))) (.cons (.con (.int 0)) .nil))) .nil))) (.cons (.tup (.cons (.op .idx (.cons (.op .idx (.cons (.var 2) (.cons (.var 5) .nil))) (.cons (.con (.int 1)) .nil))) (.cons (.op .idx (.cons (.op .idx (.cons (.var 4) (.cons (.var 5) .nil))) (.cons (.con (.int 1)) .nil))) .nil))) .nil)))) fb_without_0)
def fb_without_1 : Ss := (.cons f_without_0 (.cons (.set 4 false (.tup (.star (.op .sl (.cons (.var 4) (.cons (.con .none) (.cons (.op .asInt (.cons (.var 5) .nil)) .nil)))) (.cons (.op .idx (.cons (.var 2) (.cons (.var 5) .nil))) (.star (.op .sl (.cons (.var 4) (.cons (.op .asInt (.cons (.op (.bin .add) (.cons (.var 5) (.cons (.con (.int 1)) .nil))) .nil)) (.cons (.con .none) .nil)))) .nil))))) .nil))
def f_without_1 : S := (.for (.nm 5) (.rng (.cons (.op (.bi .len) (.cons (.var 0) .nil)) .nil)) fb_without_1)
def b_without : Ss := (.cons (.set 2 false (.call 1 (.cons (.var 0) (.cons (.var 1) .nil)))) (.cons (.iff (.op (.cmp .is_) (.cons (.var 2) (.cons (.con .none) .nil))) (.cons (.ret (.lst (.cons (.var 0) .nil))) .nil) .nil) (.cons (.par [(3, true), (4, false)] (.cons (.lst .nil) (.cons (.var 0) .nil))) (.cons f_without_1 (.cons (.ret (.var 3)) .nil)))))
def x_volume_0 : E := (.lc [1] (.nm 1) (.val (.call 4 (.cons (.var 0) .nil))) (.con (.bool true)) (.call 3 (.cons (.var 1) .nil)))
def b_volume : Ss := (.cons (.ret (.op (.bi .sum) (.cons x_volume_0 .nil))) .nil)
def b_same_room : Ss := (.cons (.set 2 false (.call 6 (.cons (.lst (.star (.var 0) (.star (.var 1) .nil))) .nil))) (.cons (.ret (.and (.op (.cmp .eq) (.cons (.call 6 (.cons (.var 0) .nil)) (.cons (.var 2) .nil))) (.op (.cmp .eq) (.cons (.call 6 (.cons (.var 1) .nil)) (.cons (.var 2) .nil))))) .nil))
def x_hull_0 : E := (.lc [3] (.nm 3) (.val (.var 0)) (.con (.bool true)) (.op .idx (.cons (.op .idx (.cons (.var 3) (.cons (.var 2) .nil))) (.cons (.con (.int 0)) .nil))))
def x_hull_1 : E := (.lc [3] (.nm 3) (.val (.var 0)) (.con (.bool true)) (.op .idx (.cons (.op .idx (.cons (.var 3) (.cons (.var 2) .nil))) (.cons (.con (.int 1)) .nil))))
def fb_hull_0 : Ss := (.cons (.expr (.mth .append 1 (.cons (.tup (.cons (.op (.bi .min1) (.cons x_hull_0 .nil)) (.cons (.op (.bi .max1) (.cons x_hull_1 .nil)) .nil))) .nil))) .nil)
def f_hull_0 : S := (.for (.nm 2) (.rng (.cons (.op (.bi .len) (.cons (.op .idx (.cons (.var 0) (.cons (.con (.int 0)) .nil))) .nil)) .nil)) fb_hull_0)
def b_hull : Ss := (.cons (.set 1 true (.lst .nil)) (.cons f_hull_0 (.cons (.ret (.op (.bi .tuple) (.cons (.var 1) .nil))) .nil)))
def fb_law_draws_0 : Ss := (.cons (.iff (.op (.cmp .gt) (.cons (.var 3) (.cons (.con (.int 0)) .nil))) (.cons (.expr (.mth .append 1 (.cons (.op (.bin .mod) (.cons (.op (.bi .int) (.cons (.var 3) .nil)) (.cons (.con (.int 997)) .nil))) .nil))) (.cons (.set 3 false (.op (.bin .fdiv) (.cons (.var 3) (.cons (.con (.int 997)) .nil)))) .nil)) .nil) .nil)
def f_law_draws_0 : S := (.for (.nm 5) (.rng (.cons (.con (.int 60)) .nil)) fb_law_draws_0)
def fb_law_draws_1 : Ss := (.cons (.set 3 false (.op (.bi .abs) (.cons (.var 2) .nil))) (.cons (.iff (.op (.cmp .lt) (.cons (.var 3) (.cons (.op (.bin .pow) (.cons (.con (.int 10)) (.cons (.con (.int 18)) .nil))) .nil))) (.cons (.set 4 false (.op (.bin .mod) (.cons (.op (.bi .int) (.cons (.op (.bin .add) (.cons (.op (.bin .mul) (.cons (.var 3) (.cons (.con (.int 48271)) .nil))) (.cons (.con (.int 11)) .nil))) .nil)) (.cons (.con (.int 2147483647)) .nil)))) (.cons (.expr (.mth .append 1 (.cons (.op (.bin .mod) (.cons (.op (.bi .int) (.cons (.op (.bin .add) (.cons (.op (.bin .mul) (.cons (.var 4) (.cons (.con (.int 69621)) .nil))) (.cons (.var 3) .nil))) .nil)) (.cons (.con (.int 2147483629)) .nil))) .nil))) (.cons (.expr (.mth .append 1 (.cons (.op (.bin .mod) (.cons (.op (.bi .int) (.cons (.op (.bin .add) (.cons (.var 4) (.cons (.op (.bin .fdiv) (.cons (.var 3) (.cons (.con (.int 7)) .nil))) .nil))) .nil)) (.cons (.con (.int 1000003)) .nil))) .nil))) (.cons (.set 3 false (.con (.int 0))) .nil)))) .nil) (.cons f_law_draws_0 .nil)))
def f_law_draws_1 : S := (.for (.nm 2) (.val (.var 0)) fb_law_draws_1)
def fb_law_draws_2 : Ss := (.cons (.set 6 false (.op (.bin .mod) (.cons (.op (.bi .int) (.cons (.op (.bin .add) (.cons (.op (.bin .mul) (.cons (.var 6) (.cons (.con (.int 48271)) .nil))) (.cons (.con (.int 69621)) .nil))) .nil)) (.cons (.con (.int 2147483647)) .nil)))) (.cons (.expr (.mth .append 1 (.cons (.op (.bin .fdiv) (.cons (.var 6) (.cons (.con (.int 5)) .nil))) .nil))) .nil))
def f_law_draws_2 : S := (.for (.nm 5) (.rng (.cons (.con (.int 900)) .nil)) fb_law_draws_2)
def b_law_draws : Ss := (.cons (.set 1 true (.lst .nil)) (.cons f_law_draws_1 (.cons (.set 6 false (.con (.int 1))) (.cons (.iff (.op (.cmp .gt) (.cons (.op (.bi .len) (.cons (.var 0) .nil)) (.cons (.con (.int 0)) .nil))) (.cons (.set 6 false (.op (.bin .add) (.cons (.con (.int 1)) (.cons (.op (.bi .abs) (.cons (.op .idx (.cons (.var 0) (.cons (.con (.int 0)) .nil))) .nil)) .nil)))) .nil) .nil) (.cons f_law_draws_2 (.cons (.ret (.op (.bi .listRev) (.cons (.var 1) .nil))) .nil))))))
def b_law_take : Ss := (.cons (.iff (.op (.cmp .eq) (.cons (.op (.bi .len) (.cons (.var 0) .nil)) (.cons (.con (.int 0)) .nil))) (.cons (.ret (.con (.int 0))) .nil) .nil) (.cons (.ret (.op (.bin .mod) (.cons (.op (.bi .int) (.cons (.mth .pop 0 .nil) .nil)) (.cons (.var 1) .nil)))) .nil))
def fb_law_box_0 : Ss := (.cons (.set 6 false (.op (.bin .sub) (.cons (.call 10 (.cons (.var 0) (.cons (.op (.bin .add) (.cons (.op (.bin .mul) (.cons (.con (.int 2)) (.cons (.var 2) .nil))) (.cons (.con (.int 1)) .nil))) .nil))) (.cons (.var 2) .nil)))) (.cons (.expr (.mth .append 4 (.cons (.tup (.cons (.var 6) (.cons (.op (.bin .add) (.cons (.op (.bin .add) (.cons (.var 6) (.cons (.con (.int 1)) .nil))) (.cons (.call 10 (.cons (.var 0) (.cons (.var 3) .nil))) .nil))) .nil))) .nil))) .nil))
def f_law_box_0 : S := (.for (.nm 5) (.rng (.cons (.var 1) .nil)) fb_law_box_0)
def b_law_box : Ss := (.cons (.set 4 true (.lst .nil)) (.cons f_law_box_0 (.cons (.ret (.op (.bi .tuple) (.cons (.var 4) .nil))) .nil)))
def x_law_thing_0 : E := (.lc [6] (.nm 6) (.rng (.cons (.op (.bin .add) (.cons (.con (.int 1)) (.cons (.call 10 (.cons (.var 0) (.cons (.var 2) .nil))) .nil))) .nil)) (.con (.bool true)) (.call 11 (.cons (.var 0) (.cons (.var 1) (.cons (.var 3) (.cons (.var 4) .nil))))))
def x_law_thing_1 : E := (.lc [7] (.nm 7) (.val (.var 5)) (.con (.bool true)) (.tup (.cons (.var 7) (.cons (.con (.int 1)) .nil))))
def b_law_thing : Ss := (.cons (.set 5 false x_law_thing_0) (.cons (.ret (.op (.bi .tuple) (.cons (.op (.bi .sorted) (.cons (.op (.bi .dictKeys) (.cons x_law_thing_1 .nil)) .nil)) .nil))) .nil))
def x_law_0 : E := (.lc [25] (.nm 25) (.rng (.cons (.con (.int 3)) .nil)) (.con (.bool true)) (.call 11 (.cons (.var 1) (.cons (.var 3) (.cons (.con (.int 4)) (.cons (.con (.int 4)) .nil))))))
def x_law_1 : E := (.lc [26] (.nm 26) (.val (.var 8)) (.con (.bool true)) (.call 3 (.cons (.var 26) .nil)))
def s_law_0_0 : S := (.set 15 false (.call 1 (.cons (.var 13) (.cons (.var 14) .nil))))
def s_law_0_1 : S := (.set 11 false (.op (.bin .add) (.cons (.var 11) (.cons (.ite (.op (.cmp .isn) (.cons (.var 15) (.cons (.con .none) .nil))) (.call 3 (.cons (.var 15) .nil)) (.con (.int 0))) .nil))))
def fb_law_0 : Ss := (.cons s_law_0_0 (.cons s_law_0_1 .nil))
def f_law_0 : S := (.for (.tp [(.nm 13), (.nm 14)]) (.val (.lst (.cons (.tup (.cons (.var 4) (.cons (.var 5) .nil))) (.cons (.tup (.cons (.var 4) (.cons (.var 6) .nil))) (.cons (.tup (.cons (.var 5) (.cons (.var 6) .nil))) .nil))))) fb_law_0)
def x_law_2 : E := (.lc [16] (.nm 16) (.rng (.cons (.var 3) .nil)) (.con (.bool true)) (.op (.bin .sub) (.cons (.call 10 (.cons (.var 1) (.cons (.con (.int 31)) .nil))) (.cons (.con (.int 15)) .nil))))
def x_law_3 : E := (.lc [26] (.nm 26) (.val (.var 21)) (.con (.bool true)) (.call 2 (.cons (.var 26) (.cons (.var 23) .nil))))
def s_law_1_0 : S := (.set 3 false (.op (.bin .add) (.cons (.con (.int 2)) (.cons (.call 10 (.cons (.var 1) (.cons (.con (.int 2)) .nil))) .nil))))
def s_law_1_1 : S := (.unp (.tp [(.nm 4), (.nm 5), (.nm 6)]) x_law_0)
def s_law_1_2 : S := (.par [(7, false), (8, false)] (.cons (.call 1 (.cons (.var 4) (.cons (.var 5) .nil))) (.cons (.call 5 (.cons (.var 4) (.cons (.var 5) .nil))) .nil)))
def s_law_1_3 : S := (.set 9 false (.ite (.op (.cmp .isn) (.cons (.var 7) (.cons (.con .none) .nil))) (.call 3 (.cons (.var 7) .nil)) (.con (.int 0))))
def s_law_1_4 : S := (.iff (.or (.op (.cmp .ne) (.cons (.call 6 (.cons (.tup (.cons (.var 4) (.cons (.var 5) .nil))) .nil)) (.cons (.op (.bin .sub) (.cons (.op (.bin .add) (.cons (.call 3 (.cons (.var 4) .nil)) (.cons (.call 3 (.cons (.var 5) .nil)) .nil))) (.cons (.var 9) .nil))) .nil))) (.op (.cmp .ne) (.cons (.op (.bi .sum) (.cons x_law_1 .nil)) (.cons (.op (.bin .sub) (.cons (.call 3 (.cons (.var 4) .nil)) (.cons (.var 9) .nil))) .nil)))) (.cons (.ret (.con (.bool false))) .nil) .nil)
def s_law_1_5 : S := (.set 10 false (.op (.bin .add) (.cons (.op (.bi .list) (.cons (.var 8) .nil)) (.cons (.ite (.op (.cmp .isn) (.cons (.var 7) (.cons (.con .none) .nil))) (.lst (.cons (.var 7) .nil)) (.lst .nil)) .nil))))
def s_law_1_6 : S := (.iff (.or (.op (.cmp .ne) (.cons (.call 6 (.cons (.var 10) .nil)) (.cons (.call 3 (.cons (.var 4) .nil)) .nil))) (.or (.op (.cmp .isn) (.cons (.call 7 (.cons (.var 10) (.cons (.tup (.cons (.var 4) .nil)) .nil))) (.cons (.con (.bool true)) .nil))) (.and (.op (.cmp .isn) (.cons (.var 7) (.cons (.con .none) .nil))) (.op (.cmp .ne) (.cons (.call 1 (.cons (.var 5) (.cons (.var 4) .nil))) (.cons (.var 7) .nil)))))) (.cons (.ret (.con (.bool false))) .nil) .nil)
def s_law_1_7 : S := (.unp (.tp [(.nm 11), (.nm 12)]) (.tup (.cons (.con (.int 0)) (.cons (.con (.int 0)) .nil))))
def s_law_1_8 : S := f_law_0
def s_law_1_9 : S := (.iff (.op (.cmp .isn) (.cons (.var 7) (.cons (.con .none) .nil))) (.cons (.set 15 false (.call 1 (.cons (.var 7) (.cons (.var 6) .nil)))) (.cons (.set 12 false (.ite (.op (.cmp .isn) (.cons (.var 15) (.cons (.con .none) .nil))) (.call 3 (.cons (.var 15) .nil)) (.con (.int 0)))) .nil)) .nil)
def s_law_1_10 : S := (.iff (.op (.cmp .ne) (.cons (.call 6 (.cons (.tup (.cons (.var 4) (.cons (.var 5) (.cons (.var 6) .nil)))) .nil)) (.cons (.op (.bin .add) (.cons (.op (.bin .sub) (.cons (.op (.bin .add) (.cons (.op (.bin .add) (.cons (.call 3 (.cons (.var 4) .nil)) (.cons (.call 3 (.cons (.var 5) .nil)) .nil))) (.cons (.call 3 (.cons (.var 6) .nil)) .nil))) (.cons (.var 11) .nil))) (.cons (.var 12) .nil))) .nil))) (.cons (.ret (.con (.bool false))) .nil) .nil)
def s_law_1_11 : S := (.set 16 false (.call 10 (.cons (.var 1) (.cons (.var 3) .nil))))
def s_law_1_12 : S := (.unp (.tp [(.nm 17), (.nm 18)]) (.op .idx (.cons (.var 4) (.cons (.var 16) .nil))))
def s_law_1_13 : S := (.iff (.op (.cmp .gt) (.cons (.op (.bin .sub) (.cons (.var 18) (.cons (.var 17) .nil))) (.cons (.con (.int 1)) .nil))) (.cons (.set 19 false (.op (.bin .add) (.cons (.op (.bin .add) (.cons (.var 17) (.cons (.con (.int 1)) .nil))) (.cons (.call 10 (.cons (.var 1) (.cons (.op (.bin .sub) (.cons (.op (.bin .sub) (.cons (.var 18) (.cons (.var 17) .nil))) (.cons (.con (.int 1)) .nil))) .nil))) .nil)))) (.cons (.set 20 false (.lst (.cons (.op (.bin .add) (.cons (.op (.bin .add) (.cons (.op .sl (.cons (.var 4) (.cons (.con .none) (.cons (.op .asInt (.cons (.var 16) .nil)) .nil)))) (.cons (.tup (.cons (.tup (.cons (.var 17) (.cons (.var 19) .nil))) .nil)) .nil))) (.cons (.op .sl (.cons (.var 4) (.cons (.op .asInt (.cons (.op (.bin .add) (.cons (.var 16) (.cons (.con (.int 1)) .nil))) .nil)) (.cons (.con .none) .nil)))) .nil))) (.cons (.op (.bin .add) (.cons (.op (.bin .add) (.cons (.op .sl (.cons (.var 4) (.cons (.con .none) (.cons (.op .asInt (.cons (.var 16) .nil)) .nil)))) (.cons (.tup (.cons (.tup (.cons (.var 19) (.cons (.var 18) .nil))) .nil)) .nil))) (.cons (.op .sl (.cons (.var 4) (.cons (.op .asInt (.cons (.op (.bin .add) (.cons (.var 16) (.cons (.con (.int 1)) .nil))) .nil)) (.cons (.con .none) .nil)))) .nil))) .nil)))) (.cons (.iff (.or (.op (.cmp .ne) (.cons (.op (.bin .add) (.cons (.call 3 (.cons (.op .idx (.cons (.var 20) (.cons (.con (.int 0)) .nil))) .nil)) (.cons (.call 3 (.cons (.op .idx (.cons (.var 20) (.cons (.con (.int 1)) .nil))) .nil)) .nil))) (.cons (.call 3 (.cons (.var 4) .nil)) .nil))) (.or (.op (.cmp .isn) (.cons (.call 7 (.cons (.var 20) (.cons (.tup (.cons (.var 4) .nil)) .nil))) (.cons (.con (.bool true)) .nil))) (.op (.cmp .isn) (.cons (.call 7 (.cons (.op (.bin .add) (.cons (.var 20) (.cons (.lst (.cons (.var 5) .nil)) .nil))) (.cons (.tup (.cons (.var 4) (.cons (.var 5) .nil))) .nil))) (.cons (.con (.bool true)) .nil))))) (.cons (.ret (.con (.bool false))) .nil) .nil) (.cons (.iff (.or (.op (.cmp .isn) (.cons (.call 7 (.cons (.op .sl (.cons (.var 20) (.cons (.con .none) (.cons (.op .asInt (.cons (.con (.int 1)) .nil)) .nil)))) (.cons (.tup (.cons (.var 4) .nil)) .nil))) (.cons (.con (.bool false)) .nil))) (.or (.op (.cmp .ne) (.cons (.call 6 (.cons (.op (.bin .add) (.cons (.var 20) (.cons (.lst (.cons (.var 4) .nil)) .nil))) .nil)) (.cons (.call 3 (.cons (.var 4) .nil)) .nil))) (.op (.cmp .ne) (.cons (.call 5 (.cons (.op .idx (.cons (.var 20) (.cons (.con (.int 0)) .nil))) (.cons (.var 4) .nil))) (.cons (.lst .nil) .nil))))) (.cons (.ret (.con (.bool false))) .nil) .nil) .nil)))) .nil)
def s_law_1_14 : S := (.par [(21, false), (22, false)] (.cons (.call 12 (.cons (.var 1) (.cons (.var 3) (.cons (.con (.int 4)) (.cons (.con (.int 3)) (.cons (.con (.int 3)) .nil)))))) (.cons (.call 12 (.cons (.var 1) (.cons (.var 3) (.cons (.con (.int 3)) (.cons (.con (.int 3)) (.cons (.con (.int 3)) .nil)))))) .nil)))
def s_law_1_15 : S := (.set 23 false (.op (.bi .tuple) (.cons x_law_2 .nil)))
def s_law_1_16 : S := (.iff (.or (.op (.cmp .ne) (.cons (.call 6 (.cons x_law_3 .nil)) (.cons (.call 6 (.cons (.var 21) .nil)) .nil))) (.ite (.chain .le .le (.op (.bi .max2) (.cons (.call 6 (.cons (.var 21) .nil)) (.cons (.call 6 (.cons (.var 22) .nil)) .nil))) (.call 6 (.cons (.op (.bin .add) (.cons (.var 21) (.cons (.var 22) .nil))) .nil)) (.op (.bin .add) (.cons (.call 6 (.cons (.var 21) .nil)) (.cons (.call 6 (.cons (.var 22) .nil)) .nil)))) (.con (.bool false)) (.con (.bool true)))) (.cons (.ret (.con (.bool false))) .nil) .nil)
def s_law_1_17 : S := (.set 24 false (.call 8 (.cons (.op (.bin .add) (.cons (.var 21) (.cons (.var 22) .nil))) .nil)))
def s_law_1_18 : S := (.iff (.or (.op (.cmp .gt) (.cons (.call 6 (.cons (.op (.bin .add) (.cons (.var 21) (.cons (.var 22) .nil))) .nil)) (.cons (.call 3 (.cons (.var 24) .nil)) .nil))) (.or (.op (.cmp .ne) (.cons (.call 8 (.cons (.op (.bin .add) (.cons (.var 21) (.cons (.tup (.cons (.var 24) .nil)) .nil))) .nil)) (.cons (.var 24) .nil))) (.or (.op (.cmp .ne) (.cons (.call 8 (.cons (.tup (.cons (.call 8 (.cons (.var 21) .nil)) (.cons (.call 8 (.cons (.var 22) .nil)) .nil))) .nil)) (.cons (.var 24) .nil))) (.op (.cmp .ne) (.cons (.call 6 (.cons (.op (.bin .add) (.cons (.var 21) (.cons (.tup (.cons (.var 24) .nil)) .nil))) .nil)) (.cons (.call 3 (.cons (.var 24) .nil)) .nil)))))) (.cons (.ret (.con (.bool false))) .nil) .nil)
def s_law_1_19 : S := (.iff (.or (.op (.cmp .ne) (.cons (.call 7 (.cons (.var 21) (.cons (.var 22) .nil))) (.cons (.chain .eq .eq (.call 6 (.cons (.var 21) .nil)) (.call 6 (.cons (.op (.bin .add) (.cons (.var 21) (.cons (.var 22) .nil))) .nil)) (.call 6 (.cons (.var 22) .nil))) .nil))) (.op (.cmp .isn) (.cons (.call 7 (.cons (.op (.bin .add) (.cons (.var 21) (.cons (.var 22) .nil))) (.cons (.op (.bin .add) (.cons (.var 22) (.cons (.var 21) .nil))) .nil))) (.cons (.con (.bool true)) .nil)))) (.cons (.ret (.con (.bool false))) .nil) .nil)
def fb_law_1 : Ss := (.cons s_law_1_0 (.cons s_law_1_1 (.cons s_law_1_2 (.cons s_law_1_3 (.cons s_law_1_4 (.cons s_law_1_5 (.cons s_law_1_6 (.cons s_law_1_7 (.cons s_law_1_8 (.cons s_law_1_9 (.cons s_law_1_10 (.cons s_law_1_11 (.cons s_law_1_12 (.cons s_law_1_13 (.cons s_law_1_14 (.cons s_law_1_15 (.cons s_law_1_16 (.cons s_law_1_17 (.cons s_law_1_18 (.cons s_law_1_19 .nil))))))))))))))))))))
def f_law_1 : S := (.for (.nm 2) (.rng (.cons (.con (.int 6)) .nil)) fb_law_1)
def s_law_0 : S := (.set 1 true (.call 9 (.cons (.var 0) .nil)))
def s_law_2 : S := (.ret (.con (.bool true)))
def b_law : Ss := (.cons s_law_0 (.cons f_law_1 (.cons s_law_2 .nil)))
end K8
set_option maxRecDepth 100000
-- ex: itB, itT, itL, i0, i1
namespace K8
open Mi Bx PySem
def encI (p : Int × Int) : D := .tuple [.int p.1, .int p.2]
def encB (b : Box) : D := .tuple (b.map encI)
def encT (bs : List Box) : D := .tuple (bs.map encB)
def encL (bs : List Box) : D := .list (bs.map encB)
theorem itB (b : Box) : itemsOf (encB b) = some (b.map encI) := rfl
theorem itT (b : List Box) : itemsOf (encT b) = some (b.map encB) := rfl
theorem itL (b : List Box) : itemsOf (encL b) = some (b.map encB) := rfl
theorem i0 (p : Int × Int) : opO .idx [encI p, .int 0] = some (.v (.int p.1)) := opq_i0 _ _
theorem i1 (p : Int × Int) : opO .idx [encI p, .int 1] = some (.v (.int p.2)) := opq_i1 _ _ _
theorem clash_zip : ∀ a b : Box, clashB a b = (a.zip b).all fun z => decide (z.1.1 < z.2.2) && decide (z.2.1 < z.1.2)
  | [], b => by cases b <;> rfl
  | _ :: _, [] => rfl
  | p :: a, q :: b => by simp [clashB, clash_zip a b]
theorem meet_zip : ∀ a b : Box, meet a b = (a.zip b).map fun z => (if z.2.1 > z.1.1 then z.2.1 else z.1.1, if z.2.2 < z.1.2 then z.2.2 else z.1.2)
  | [], b => by cases b <;> rfl
  | _ :: _, [] => rfl
  | p :: a, q :: b => by simp [meet, meet_zip a b]
theorem all_any {α : Type} (xs : List α) (p : α → Bool) : (xs.any (fun z => p z == false) == false) = xs.all p := by
  induction xs with
  | nil => rfl
  | cons x xs ih =>
    rw [List.any_cons, List.all_cons, ← ih]
    cases p x <;> simp
section
variable {C : Den}
theorem x_clash (a b : Box) : ev C x_clash_0 [some (encB a, .fz), some (encB b, .fz), none, none] = .ok (.v (.bool (clashB a b))) [some (encB a, .fz), some (encB b, .fz), none, none] := by
  rw [clash_zip, ← all_any]
  refine (ev_gen (e2 := [some (encB a, .fz), some (encB b, .fz), none, none]) (ws := [.v (encB a), .v (encB b)]) rfl (by simp only [andq, orq, negq, lockE_v, lockE_o, lockE_nil, wipeE_cons, wipeE_nil, backE_cons, backE_nil, unlockE_nil, evq_var, evq_con, evq_tup, evq_lst, evq_op, evq_chain, evq_and, evq_or, evq_ite, evq_call, evq_mth, evq_nil, evq_cons, evq_star, evq_val, evq_rng, evq_zip, exq_set, exq_unp, exq_par, exq_expr, exq_ret, exq_iff, exq_nil, exq_cons, opq_add, opq_sub, opq_mul, opq_mod, opq_fdiv, opq_neg, opq_lt, opq_le, opq_gt, opq_ge, opq_eqI, opq_neI, opq_eqB, opq_neB, opq_isN, opq_isnN, opq_isT, opq_isnT, opq_isB, opq_isnB, opq_truB, opq_not, opq_asI, opq_i0, opq_i1, opq_l0, opq_l1, opq_max2, opq_min2, opq_lenL, opq_lenT, opq_tupL, opq_tupT, opq_lstL, opq_lstT, opq_revL, opq_abs, opq_int, opq_addT, opq_addL, opq_sum, opq_min1, opq_max1, opq_slT, opq_slD, opq_slTL, rdq_v, rdq_o, rdq_s, rdsq_nil, rdsq_cons, tkq_v, tkq_o, tkq_s, tksq_nil, tksq_cons, itq_l, itq_t, setRq_v, setRq_o, setRq_s, retq_v, retq_o, retq_s, boolq, zipq, arg1q_v, arg1q_o, arg1q_s, callq, parKq_v, parKq_o, parKq_s, setRsq, isSq_v, isSq_o, isSq_s, mthq_append, mthq_extend, mthq_pop, lsq, bindq_nm, bindq_t, bindq_l, bindsq_nil, bindsq_cons, O.bind_ok, O.of_some, argD, ioSlots, backIo, slotsR, borrows, parL, setL, List.getElem?_cons_succ, List.getElem?_cons_zero, List.set_cons_succ, List.set_cons_zero, reduceIte, if_true, if_false, Bool.false_eq_true, Bool.not_true, Bool.not_false, true_and, and_true, true_or, or_true, decide_true, decide_false, ne_eq, not_false_eq_true, not_true_eq_false, Int.reduceAdd, Int.reduceSub, Int.reduceMul, List.append_nil, List.nil_append, List.cons_append, reduceCtorEq, List.length_cons, List.length_nil, Nat.reduceAdd, Nat.reduceLT, Nat.reduceLeDiff, sz0, sz1, sz2, sz3, sz4, sz5, slt0, Bool.and_true, Bool.true_and, Nat.reduceBEq, List.nodup_cons, List.not_mem_nil, List.nodup_nil, false_or, Bool.or_false, Bool.false_or, and_self, Int.reduceEq, Int.reduceNe, itB, itT, itL, i0, i1]; rfl) ?_).trans rfl
  rw [zipD_map]
  refine turnsB_at _ _ rfl fun z hz => ⟨_, body_gen rfl (?_ : _ = O.ok _ [some (encB a, .fz), some (encB b, .fz), some (encI z.1, .fz), some (encI z.2, .fz)]), rfl⟩
  simp only [andq, orq, negq, lockE_v, lockE_o, lockE_nil, wipeE_cons, wipeE_nil, backE_cons, backE_nil, unlockE_nil, evq_var, evq_con, evq_tup, evq_lst, evq_op, evq_chain, evq_and, evq_or, evq_ite, evq_call, evq_mth, evq_nil, evq_cons, evq_star, evq_val, evq_rng, evq_zip, exq_set, exq_unp, exq_par, exq_expr, exq_ret, exq_iff, exq_nil, exq_cons, opq_add, opq_sub, opq_mul, opq_mod, opq_fdiv, opq_neg, opq_lt, opq_le, opq_gt, opq_ge, opq_eqI, opq_neI, opq_eqB, opq_neB, opq_isN, opq_isnN, opq_isT, opq_isnT, opq_isB, opq_isnB, opq_truB, opq_not, opq_asI, opq_i0, opq_i1, opq_l0, opq_l1, opq_max2, opq_min2, opq_lenL, opq_lenT, opq_tupL, opq_tupT, opq_lstL, opq_lstT, opq_revL, opq_abs, opq_int, opq_addT, opq_addL, opq_sum, opq_min1, opq_max1, opq_slT, opq_slD, opq_slTL, rdq_v, rdq_o, rdq_s, rdsq_nil, rdsq_cons, tkq_v, tkq_o, tkq_s, tksq_nil, tksq_cons, itq_l, itq_t, setRq_v, setRq_o, setRq_s, retq_v, retq_o, retq_s, boolq, zipq, arg1q_v, arg1q_o, arg1q_s, callq, parKq_v, parKq_o, parKq_s, setRsq, isSq_v, isSq_o, isSq_s, mthq_append, mthq_extend, mthq_pop, lsq, bindq_nm, bindq_t, bindq_l, bindsq_nil, bindsq_cons, O.bind_ok, O.of_some, argD, ioSlots, backIo, slotsR, borrows, parL, setL, List.getElem?_cons_succ, List.getElem?_cons_zero, List.set_cons_succ, List.set_cons_zero, reduceIte, if_true, if_false, Bool.false_eq_true, Bool.not_true, Bool.not_false, true_and, and_true, true_or, or_true, decide_true, decide_false, ne_eq, not_false_eq_true, not_true_eq_false, Int.reduceAdd, Int.reduceSub, Int.reduceMul, List.append_nil, List.nil_append, List.cons_append, reduceCtorEq, List.length_cons, List.length_nil, Nat.reduceAdd, Nat.reduceLT, Nat.reduceLeDiff, sz0, sz1, sz2, sz3, sz4, sz5, slt0, Bool.and_true, Bool.true_and, Nat.reduceBEq, List.nodup_cons, List.not_mem_nil, List.nodup_nil, false_or, Bool.or_false, Bool.false_or, and_self, Int.reduceEq, Int.reduceNe, itB, itT, itL, i0, i1]
theorem run_clash (a b : Box) : runFn C ⟨2, 4, b_clash⟩ [(encB a, false), (encB b, false)] = .ok (.bool (clashB a b)) false [.none, .none] := by
  refine runFn_ret [some (encB a, .fz), some (encB b, .fz), none, none] (env := [some (encB a, .fz), some (encB b, .fz), none, none]) rfl (by decide) rfl ?_ rfl
  simp only [b_clash, x_clash, andq, orq, negq, lockE_v, lockE_o, lockE_nil, wipeE_cons, wipeE_nil, backE_cons, backE_nil, unlockE_nil, evq_var, evq_con, evq_tup, evq_lst, evq_op, evq_chain, evq_and, evq_or, evq_ite, evq_call, evq_mth, evq_nil, evq_cons, evq_star, evq_val, evq_rng, evq_zip, exq_set, exq_unp, exq_par, exq_expr, exq_ret, exq_iff, exq_nil, exq_cons, opq_add, opq_sub, opq_mul, opq_mod, opq_fdiv, opq_neg, opq_lt, opq_le, opq_gt, opq_ge, opq_eqI, opq_neI, opq_eqB, opq_neB, opq_isN, opq_isnN, opq_isT, opq_isnT, opq_isB, opq_isnB, opq_truB, opq_not, opq_asI, opq_i0, opq_i1, opq_l0, opq_l1, opq_max2, opq_min2, opq_lenL, opq_lenT, opq_tupL, opq_tupT, opq_lstL, opq_lstT, opq_revL, opq_abs, opq_int, opq_addT, opq_addL, opq_sum, opq_min1, opq_max1, opq_slT, opq_slD, opq_slTL, rdq_v, rdq_o, rdq_s, rdsq_nil, rdsq_cons, tkq_v, tkq_o, tkq_s, tksq_nil, tksq_cons, itq_l, itq_t, setRq_v, setRq_o, setRq_s, retq_v, retq_o, retq_s, boolq, zipq, arg1q_v, arg1q_o, arg1q_s, callq, parKq_v, parKq_o, parKq_s, setRsq, isSq_v, isSq_o, isSq_s, mthq_append, mthq_extend, mthq_pop, lsq, bindq_nm, bindq_t, bindq_l, bindsq_nil, bindsq_cons, O.bind_ok, O.of_some, argD, ioSlots, backIo, slotsR, borrows, parL, setL, List.getElem?_cons_succ, List.getElem?_cons_zero, List.set_cons_succ, List.set_cons_zero, reduceIte, if_true, if_false, Bool.false_eq_true, Bool.not_true, Bool.not_false, true_and, and_true, true_or, or_true, decide_true, decide_false, ne_eq, not_false_eq_true, not_true_eq_false, Int.reduceAdd, Int.reduceSub, Int.reduceMul, List.append_nil, List.nil_append, List.cons_append, reduceCtorEq, List.length_cons, List.length_nil, Nat.reduceAdd, Nat.reduceLT, Nat.reduceLeDiff, sz0, sz1, sz2, sz3, sz4, sz5, slt0, Bool.and_true, Bool.true_and, Nat.reduceBEq, List.nodup_cons, List.not_mem_nil, List.nodup_nil, false_or, Bool.or_false, Bool.false_or, and_self, Int.reduceEq, Int.reduceNe, itB, itT, itL, i0, i1]
def meetI (z : (Int × Int) × (Int × Int)) : Int × Int := (if z.2.1 > z.1.1 then z.2.1 else z.1.1, if z.2.2 < z.1.2 then z.2.2 else z.1.2)
def sharedD (a b : Box) : D := if clashB a b = true then encB (meet a b) else .none
theorem x_shared (a b : Box) (hl : a.length ≤ sizeLine) : ev C x_shared_0 [some (encB a, .fz), some (encB b, .fz), none, none] = .ok (.o (.list ((meet a b).map encI))) [some (encB a, .fz), some (encB b, .fz), none, none] := by
  rw [meet_zip, List.map_map]
  refine (ev_lc (e2 := [some (encB a, .fz), some (encB b, .fz), none, none]) (ws := [.v (encB a), .v (encB b)]) rfl (by simp only [andq, orq, negq, lockE_v, lockE_o, lockE_nil, wipeE_cons, wipeE_nil, backE_cons, backE_nil, unlockE_nil, evq_var, evq_con, evq_tup, evq_lst, evq_op, evq_chain, evq_and, evq_or, evq_ite, evq_call, evq_mth, evq_nil, evq_cons, evq_star, evq_val, evq_rng, evq_zip, exq_set, exq_unp, exq_par, exq_expr, exq_ret, exq_iff, exq_nil, exq_cons, opq_add, opq_sub, opq_mul, opq_mod, opq_fdiv, opq_neg, opq_lt, opq_le, opq_gt, opq_ge, opq_eqI, opq_neI, opq_eqB, opq_neB, opq_isN, opq_isnN, opq_isT, opq_isnT, opq_isB, opq_isnB, opq_truB, opq_not, opq_asI, opq_i0, opq_i1, opq_l0, opq_l1, opq_max2, opq_min2, opq_lenL, opq_lenT, opq_tupL, opq_tupT, opq_lstL, opq_lstT, opq_revL, opq_abs, opq_int, opq_addT, opq_addL, opq_sum, opq_min1, opq_max1, opq_slT, opq_slD, opq_slTL, rdq_v, rdq_o, rdq_s, rdsq_nil, rdsq_cons, tkq_v, tkq_o, tkq_s, tksq_nil, tksq_cons, itq_l, itq_t, setRq_v, setRq_o, setRq_s, retq_v, retq_o, retq_s, boolq, zipq, arg1q_v, arg1q_o, arg1q_s, callq, parKq_v, parKq_o, parKq_s, setRsq, isSq_v, isSq_o, isSq_s, mthq_append, mthq_extend, mthq_pop, lsq, bindq_nm, bindq_t, bindq_l, bindsq_nil, bindsq_cons, O.bind_ok, O.of_some, argD, ioSlots, backIo, slotsR, borrows, parL, setL, List.getElem?_cons_succ, List.getElem?_cons_zero, List.set_cons_succ, List.set_cons_zero, reduceIte, if_true, if_false, Bool.false_eq_true, Bool.not_true, Bool.not_false, true_and, and_true, true_or, or_true, decide_true, decide_false, ne_eq, not_false_eq_true, not_true_eq_false, Int.reduceAdd, Int.reduceSub, Int.reduceMul, List.append_nil, List.nil_append, List.cons_append, reduceCtorEq, List.length_cons, List.length_nil, Nat.reduceAdd, Nat.reduceLT, Nat.reduceLeDiff, sz0, sz1, sz2, sz3, sz4, sz5, slt0, Bool.and_true, Bool.true_and, Nat.reduceBEq, List.nodup_cons, List.not_mem_nil, List.nodup_nil, false_or, Bool.or_false, Bool.false_or, and_self, Int.reduceEq, Int.reduceNe, itB, itT, itL, i0, i1]; rfl) ?_ ?_).trans rfl
  · rw [zipD_map]
    refine turnsG_map _ (fun z => encI (meetI z)) rfl fun z hz => ⟨_, body_lcv rfl (?_ : _ = O.ok _ [some (encB a, .fz), some (encB b, .fz), some (encI z.1, .fz), some (encI z.2, .fz)]), rfl⟩
    simp only [andq, orq, negq, lockE_v, lockE_o, lockE_nil, wipeE_cons, wipeE_nil, backE_cons, backE_nil, unlockE_nil, evq_var, evq_con, evq_tup, evq_lst, evq_op, evq_chain, evq_and, evq_or, evq_ite, evq_call, evq_mth, evq_nil, evq_cons, evq_star, evq_val, evq_rng, evq_zip, exq_set, exq_unp, exq_par, exq_expr, exq_ret, exq_iff, exq_nil, exq_cons, opq_add, opq_sub, opq_mul, opq_mod, opq_fdiv, opq_neg, opq_lt, opq_le, opq_gt, opq_ge, opq_eqI, opq_neI, opq_eqB, opq_neB, opq_isN, opq_isnN, opq_isT, opq_isnT, opq_isB, opq_isnB, opq_truB, opq_not, opq_asI, opq_i0, opq_i1, opq_l0, opq_l1, opq_max2, opq_min2, opq_lenL, opq_lenT, opq_tupL, opq_tupT, opq_lstL, opq_lstT, opq_revL, opq_abs, opq_int, opq_addT, opq_addL, opq_sum, opq_min1, opq_max1, opq_slT, opq_slD, opq_slTL, rdq_v, rdq_o, rdq_s, rdsq_nil, rdsq_cons, tkq_v, tkq_o, tkq_s, tksq_nil, tksq_cons, itq_l, itq_t, setRq_v, setRq_o, setRq_s, retq_v, retq_o, retq_s, boolq, zipq, arg1q_v, arg1q_o, arg1q_s, callq, parKq_v, parKq_o, parKq_s, setRsq, isSq_v, isSq_o, isSq_s, mthq_append, mthq_extend, mthq_pop, lsq, bindq_nm, bindq_t, bindq_l, bindsq_nil, bindsq_cons, O.bind_ok, O.of_some, argD, ioSlots, backIo, slotsR, borrows, parL, setL, List.getElem?_cons_succ, List.getElem?_cons_zero, List.set_cons_succ, List.set_cons_zero, reduceIte, if_true, if_false, Bool.false_eq_true, Bool.not_true, Bool.not_false, true_and, and_true, true_or, or_true, decide_true, decide_false, ne_eq, not_false_eq_true, not_true_eq_false, Int.reduceAdd, Int.reduceSub, Int.reduceMul, List.append_nil, List.nil_append, List.cons_append, reduceCtorEq, List.length_cons, List.length_nil, Nat.reduceAdd, Nat.reduceLT, Nat.reduceLeDiff, sz0, sz1, sz2, sz3, sz4, sz5, slt0, Bool.and_true, Bool.true_and, Nat.reduceBEq, List.nodup_cons, List.not_mem_nil, List.nodup_nil, false_or, Bool.or_false, Bool.false_or, and_self, Int.reduceEq, Int.reduceNe, itB, itT, itL, i0, i1]
    rfl
  · simp
    omega
theorem run_shared (h0 : ∀ a b : Box, C.run 0 [(encB a, false), (encB b, false)] = .ok (.bool (clashB a b)) false [.none, .none]) (a b : Box) (hl : a.length ≤ sizeLine) : runFn C ⟨2, 4, b_shared⟩ [(encB a, false), (encB b, false)] = .ok (sharedD a b) false [.none, .none] := by
  refine runFn_ret [some (encB a, .fz), some (encB b, .fz), none, none] (env := [some (encB a, .fz), some (encB b, .fz), none, none]) rfl (by decide) rfl ?_ rfl
  unfold sharedD
  cases hc : clashB a b with
  | false => simp only [b_shared, h0, hc, andq, orq, negq, lockE_v, lockE_o, lockE_nil, wipeE_cons, wipeE_nil, backE_cons, backE_nil, unlockE_nil, evq_var, evq_con, evq_tup, evq_lst, evq_op, evq_chain, evq_and, evq_or, evq_ite, evq_call, evq_mth, evq_nil, evq_cons, evq_star, evq_val, evq_rng, evq_zip, exq_set, exq_unp, exq_par, exq_expr, exq_ret, exq_iff, exq_nil, exq_cons, opq_add, opq_sub, opq_mul, opq_mod, opq_fdiv, opq_neg, opq_lt, opq_le, opq_gt, opq_ge, opq_eqI, opq_neI, opq_eqB, opq_neB, opq_isN, opq_isnN, opq_isT, opq_isnT, opq_isB, opq_isnB, opq_truB, opq_not, opq_asI, opq_i0, opq_i1, opq_l0, opq_l1, opq_max2, opq_min2, opq_lenL, opq_lenT, opq_tupL, opq_tupT, opq_lstL, opq_lstT, opq_revL, opq_abs, opq_int, opq_addT, opq_addL, opq_sum, opq_min1, opq_max1, opq_slT, opq_slD, opq_slTL, rdq_v, rdq_o, rdq_s, rdsq_nil, rdsq_cons, tkq_v, tkq_o, tkq_s, tksq_nil, tksq_cons, itq_l, itq_t, setRq_v, setRq_o, setRq_s, retq_v, retq_o, retq_s, boolq, zipq, arg1q_v, arg1q_o, arg1q_s, callq, parKq_v, parKq_o, parKq_s, setRsq, isSq_v, isSq_o, isSq_s, mthq_append, mthq_extend, mthq_pop, lsq, bindq_nm, bindq_t, bindq_l, bindsq_nil, bindsq_cons, O.bind_ok, O.of_some, argD, ioSlots, backIo, slotsR, borrows, parL, setL, List.getElem?_cons_succ, List.getElem?_cons_zero, List.set_cons_succ, List.set_cons_zero, reduceIte, if_true, if_false, Bool.false_eq_true, Bool.not_true, Bool.not_false, true_and, and_true, true_or, or_true, decide_true, decide_false, ne_eq, not_false_eq_true, not_true_eq_false, Int.reduceAdd, Int.reduceSub, Int.reduceMul, List.append_nil, List.nil_append, List.cons_append, reduceCtorEq, List.length_cons, List.length_nil, Nat.reduceAdd, Nat.reduceLT, Nat.reduceLeDiff, sz0, sz1, sz2, sz3, sz4, sz5, slt0, Bool.and_true, Bool.true_and, Nat.reduceBEq, List.nodup_cons, List.not_mem_nil, List.nodup_nil, false_or, Bool.or_false, Bool.false_or, and_self, Int.reduceEq, Int.reduceNe, itB, itT, itL, i0, i1]
  | true =>
    simp only [b_shared, h0, hc, x_shared a b hl, andq, orq, negq, lockE_v, lockE_o, lockE_nil, wipeE_cons, wipeE_nil, backE_cons, backE_nil, unlockE_nil, evq_var, evq_con, evq_tup, evq_lst, evq_op, evq_chain, evq_and, evq_or, evq_ite, evq_call, evq_mth, evq_nil, evq_cons, evq_star, evq_val, evq_rng, evq_zip, exq_set, exq_unp, exq_par, exq_expr, exq_ret, exq_iff, exq_nil, exq_cons, opq_add, opq_sub, opq_mul, opq_mod, opq_fdiv, opq_neg, opq_lt, opq_le, opq_gt, opq_ge, opq_eqI, opq_neI, opq_eqB, opq_neB, opq_isN, opq_isnN, opq_isT, opq_isnT, opq_isB, opq_isnB, opq_truB, opq_not, opq_asI, opq_i0, opq_i1, opq_l0, opq_l1, opq_max2, opq_min2, opq_lenL, opq_lenT, opq_tupL, opq_tupT, opq_lstL, opq_lstT, opq_revL, opq_abs, opq_int, opq_addT, opq_addL, opq_sum, opq_min1, opq_max1, opq_slT, opq_slD, opq_slTL, rdq_v, rdq_o, rdq_s, rdsq_nil, rdsq_cons, tkq_v, tkq_o, tkq_s, tksq_nil, tksq_cons, itq_l, itq_t, setRq_v, setRq_o, setRq_s, retq_v, retq_o, retq_s, boolq, zipq, arg1q_v, arg1q_o, arg1q_s, callq, parKq_v, parKq_o, parKq_s, setRsq, isSq_v, isSq_o, isSq_s, mthq_append, mthq_extend, mthq_pop, lsq, bindq_nm, bindq_t, bindq_l, bindsq_nil, bindsq_cons, O.bind_ok, O.of_some, argD, ioSlots, backIo, slotsR, borrows, parL, setL, List.getElem?_cons_succ, List.getElem?_cons_zero, List.set_cons_succ, List.set_cons_zero, reduceIte, if_true, if_false, Bool.false_eq_true, Bool.not_true, Bool.not_false, true_and, and_true, true_or, or_true, decide_true, decide_false, ne_eq, not_false_eq_true, not_true_eq_false, Int.reduceAdd, Int.reduceSub, Int.reduceMul, List.append_nil, List.nil_append, List.cons_append, reduceCtorEq, List.length_cons, List.length_nil, Nat.reduceAdd, Nat.reduceLT, Nat.reduceLeDiff, sz0, sz1, sz2, sz3, sz4, sz5, slt0, Bool.and_true, Bool.true_and, Nat.reduceBEq, List.nodup_cons, List.not_mem_nil, List.nodup_nil, false_or, Bool.or_false, Bool.false_or, and_self, Int.reduceEq, Int.reduceNe, itB, itT, itL, i0, i1]
    rfl
def addI (z : (Int × Int) × Int) : Int × Int := (z.1.1 + z.2, z.1.2 + z.2)
theorem shift_zip : ∀ (b : Box) (s : List Int), shiftB b s = (b.zip s).map addI
  | [], s => by cases s <;> rfl
  | _ :: _, [] => rfl
  | p :: b, k :: s => by
    have := shift_zip b s
    unfold shiftB at this ⊢
    simp [this, addI]
def encP (s : List Int) : D := .tuple (s.map .int)
theorem itP (s : List Int) : itemsOf (encP s) = some (s.map .int) := rfl
theorem x_shifted (b : Box) (s : List Int) (hl : b.length ≤ sizeLine) : ev C x_shifted_0 [some (encB b, .fz), some (encP s, .fz), none, none, none] = .ok (.o (.list ((shiftB b s).map encI))) [some (encB b, .fz), some (encP s, .fz), none, none, none] := by
  rw [shift_zip, List.map_map]
  refine (ev_lc (e2 := [some (encB b, .fz), some (encP s, .fz), none, none, none]) (ws := [.v (encB b), .v (encP s)]) rfl (by simp only [itP, andq, orq, negq, lockE_v, lockE_o, lockE_nil, wipeE_cons, wipeE_nil, backE_cons, backE_nil, unlockE_nil, evq_var, evq_con, evq_tup, evq_lst, evq_op, evq_chain, evq_and, evq_or, evq_ite, evq_call, evq_mth, evq_nil, evq_cons, evq_star, evq_val, evq_rng, evq_zip, exq_set, exq_unp, exq_par, exq_expr, exq_ret, exq_iff, exq_nil, exq_cons, opq_add, opq_sub, opq_mul, opq_mod, opq_fdiv, opq_neg, opq_lt, opq_le, opq_gt, opq_ge, opq_eqI, opq_neI, opq_eqB, opq_neB, opq_isN, opq_isnN, opq_isT, opq_isnT, opq_isB, opq_isnB, opq_truB, opq_not, opq_asI, opq_i0, opq_i1, opq_l0, opq_l1, opq_max2, opq_min2, opq_lenL, opq_lenT, opq_tupL, opq_tupT, opq_lstL, opq_lstT, opq_revL, opq_abs, opq_int, opq_addT, opq_addL, opq_sum, opq_min1, opq_max1, opq_slT, opq_slD, opq_slTL, rdq_v, rdq_o, rdq_s, rdsq_nil, rdsq_cons, tkq_v, tkq_o, tkq_s, tksq_nil, tksq_cons, itq_l, itq_t, setRq_v, setRq_o, setRq_s, retq_v, retq_o, retq_s, boolq, zipq, arg1q_v, arg1q_o, arg1q_s, callq, parKq_v, parKq_o, parKq_s, setRsq, isSq_v, isSq_o, isSq_s, mthq_append, mthq_extend, mthq_pop, lsq, bindq_nm, bindq_t, bindq_l, bindsq_nil, bindsq_cons, O.bind_ok, O.of_some, argD, ioSlots, backIo, slotsR, borrows, parL, setL, List.getElem?_cons_succ, List.getElem?_cons_zero, List.set_cons_succ, List.set_cons_zero, reduceIte, if_true, if_false, Bool.false_eq_true, Bool.not_true, Bool.not_false, true_and, and_true, true_or, or_true, decide_true, decide_false, ne_eq, not_false_eq_true, not_true_eq_false, Int.reduceAdd, Int.reduceSub, Int.reduceMul, List.append_nil, List.nil_append, List.cons_append, reduceCtorEq, List.length_cons, List.length_nil, Nat.reduceAdd, Nat.reduceLT, Nat.reduceLeDiff, sz0, sz1, sz2, sz3, sz4, sz5, slt0, Bool.and_true, Bool.true_and, Nat.reduceBEq, List.nodup_cons, List.not_mem_nil, List.nodup_nil, false_or, Bool.or_false, Bool.false_or, and_self, Int.reduceEq, Int.reduceNe, itB, itT, itL, i0, i1]; rfl) ?_ ?_).trans rfl
  · rw [zipD_map]
    refine turnsG_map _ (fun z => encI (addI z)) rfl fun z hz => ⟨_, body_lcv (e3 := [some (encB b, .fz), some (encP s, .fz), some (.int z.1.1, .fz), some (.int z.1.2, .fz), some (.int z.2, .fz)]) rfl (?_ : _ = O.ok _ [some (encB b, .fz), some (encP s, .fz), some (.int z.1.1, .fz), some (.int z.1.2, .fz), some (.int z.2, .fz)]), rfl⟩
    simp only [andq, orq, negq, lockE_v, lockE_o, lockE_nil, wipeE_cons, wipeE_nil, backE_cons, backE_nil, unlockE_nil, evq_var, evq_con, evq_tup, evq_lst, evq_op, evq_chain, evq_and, evq_or, evq_ite, evq_call, evq_mth, evq_nil, evq_cons, evq_star, evq_val, evq_rng, evq_zip, exq_set, exq_unp, exq_par, exq_expr, exq_ret, exq_iff, exq_nil, exq_cons, opq_add, opq_sub, opq_mul, opq_mod, opq_fdiv, opq_neg, opq_lt, opq_le, opq_gt, opq_ge, opq_eqI, opq_neI, opq_eqB, opq_neB, opq_isN, opq_isnN, opq_isT, opq_isnT, opq_isB, opq_isnB, opq_truB, opq_not, opq_asI, opq_i0, opq_i1, opq_l0, opq_l1, opq_max2, opq_min2, opq_lenL, opq_lenT, opq_tupL, opq_tupT, opq_lstL, opq_lstT, opq_revL, opq_abs, opq_int, opq_addT, opq_addL, opq_sum, opq_min1, opq_max1, opq_slT, opq_slD, opq_slTL, rdq_v, rdq_o, rdq_s, rdsq_nil, rdsq_cons, tkq_v, tkq_o, tkq_s, tksq_nil, tksq_cons, itq_l, itq_t, setRq_v, setRq_o, setRq_s, retq_v, retq_o, retq_s, boolq, zipq, arg1q_v, arg1q_o, arg1q_s, callq, parKq_v, parKq_o, parKq_s, setRsq, isSq_v, isSq_o, isSq_s, mthq_append, mthq_extend, mthq_pop, lsq, bindq_nm, bindq_t, bindq_l, bindsq_nil, bindsq_cons, O.bind_ok, O.of_some, argD, ioSlots, backIo, slotsR, borrows, parL, setL, List.getElem?_cons_succ, List.getElem?_cons_zero, List.set_cons_succ, List.set_cons_zero, reduceIte, if_true, if_false, Bool.false_eq_true, Bool.not_true, Bool.not_false, true_and, and_true, true_or, or_true, decide_true, decide_false, ne_eq, not_false_eq_true, not_true_eq_false, Int.reduceAdd, Int.reduceSub, Int.reduceMul, List.append_nil, List.nil_append, List.cons_append, reduceCtorEq, List.length_cons, List.length_nil, Nat.reduceAdd, Nat.reduceLT, Nat.reduceLeDiff, sz0, sz1, sz2, sz3, sz4, sz5, slt0, Bool.and_true, Bool.true_and, Nat.reduceBEq, List.nodup_cons, List.not_mem_nil, List.nodup_nil, false_or, Bool.or_false, Bool.false_or, and_self, Int.reduceEq, Int.reduceNe, itB, itT, itL, i0, i1]
    rfl
  · simp
    omega
theorem run_shifted (b : Box) (s : List Int) (hl : b.length ≤ sizeLine) : runFn C ⟨2, 5, b_shifted⟩ [(encB b, false), (encP s, false)] = .ok (encB (shiftB b s)) false [.none, .none] := by
  refine runFn_ret [some (encB b, .fz), some (encP s, .fz), none, none, none] (env := [some (encB b, .fz), some (encP s, .fz), none, none, none]) rfl (by decide) rfl ?_ rfl
  simp only [b_shifted, x_shifted b s hl, andq, orq, negq, lockE_v, lockE_o, lockE_nil, wipeE_cons, wipeE_nil, backE_cons, backE_nil, unlockE_nil, evq_var, evq_con, evq_tup, evq_lst, evq_op, evq_chain, evq_and, evq_or, evq_ite, evq_call, evq_mth, evq_nil, evq_cons, evq_star, evq_val, evq_rng, evq_zip, exq_set, exq_unp, exq_par, exq_expr, exq_ret, exq_iff, exq_nil, exq_cons, opq_add, opq_sub, opq_mul, opq_mod, opq_fdiv, opq_neg, opq_lt, opq_le, opq_gt, opq_ge, opq_eqI, opq_neI, opq_eqB, opq_neB, opq_isN, opq_isnN, opq_isT, opq_isnT, opq_isB, opq_isnB, opq_truB, opq_not, opq_asI, opq_i0, opq_i1, opq_l0, opq_l1, opq_max2, opq_min2, opq_lenL, opq_lenT, opq_tupL, opq_tupT, opq_lstL, opq_lstT, opq_revL, opq_abs, opq_int, opq_addT, opq_addL, opq_sum, opq_min1, opq_max1, opq_slT, opq_slD, opq_slTL, rdq_v, rdq_o, rdq_s, rdsq_nil, rdsq_cons, tkq_v, tkq_o, tkq_s, tksq_nil, tksq_cons, itq_l, itq_t, setRq_v, setRq_o, setRq_s, retq_v, retq_o, retq_s, boolq, zipq, arg1q_v, arg1q_o, arg1q_s, callq, parKq_v, parKq_o, parKq_s, setRsq, isSq_v, isSq_o, isSq_s, mthq_append, mthq_extend, mthq_pop, lsq, bindq_nm, bindq_t, bindq_l, bindsq_nil, bindsq_cons, O.bind_ok, O.of_some, argD, ioSlots, backIo, slotsR, borrows, parL, setL, List.getElem?_cons_succ, List.getElem?_cons_zero, List.set_cons_succ, List.set_cons_zero, reduceIte, if_true, if_false, Bool.false_eq_true, Bool.not_true, Bool.not_false, true_and, and_true, true_or, or_true, decide_true, decide_false, ne_eq, not_false_eq_true, not_true_eq_false, Int.reduceAdd, Int.reduceSub, Int.reduceMul, List.append_nil, List.nil_append, List.cons_append, reduceCtorEq, List.length_cons, List.length_nil, Nat.reduceAdd, Nat.reduceLT, Nat.reduceLeDiff, sz0, sz1, sz2, sz3, sz4, sz5, slt0, Bool.and_true, Bool.true_and, Nat.reduceBEq, List.nodup_cons, List.not_mem_nil, List.nodup_nil, false_or, Bool.or_false, Bool.false_or, and_self, Int.reduceEq, Int.reduceNe, itB, itT, itL, i0, i1]
  rfl
theorem f_room (b : Box) (hl : ∀ p ∈ b, -(2 ^ 64) < p.2 - p.1 ∧ p.2 - p.1 < 2 ^ 64) : ∃ u v, exS C f_room_of_0 [some (encB b, .fz), some (.int 1, .fz), none, none] = .ok .nx [some (encB b, .fz), some (.int (vol b), .fz), u, v] := by
  obtain ⟨e2, h1, b', x, u, v, h2, h3, h4, rfl⟩ := for_inv (C := C) (p := .tp [(.nm 2), (.nm 3)]) (it := .val (.var 0)) (b := fb_room_of_0) (env := [some (encB b, .fz), some (.int 1, .fz), none, none]) (ws := [.v (encB b)]) (by simp only [andq, orq, negq, lockE_v, lockE_o, lockE_nil, wipeE_cons, wipeE_nil, backE_cons, backE_nil, unlockE_nil, evq_var, evq_con, evq_tup, evq_lst, evq_op, evq_chain, evq_and, evq_or, evq_ite, evq_call, evq_mth, evq_nil, evq_cons, evq_star, evq_val, evq_rng, evq_zip, exq_set, exq_unp, exq_par, exq_expr, exq_ret, exq_iff, exq_nil, exq_cons, opq_add, opq_sub, opq_mul, opq_mod, opq_fdiv, opq_neg, opq_lt, opq_le, opq_gt, opq_ge, opq_eqI, opq_neI, opq_eqB, opq_neB, opq_isN, opq_isnN, opq_isT, opq_isnT, opq_isB, opq_isnB, opq_truB, opq_not, opq_asI, opq_i0, opq_i1, opq_l0, opq_l1, opq_max2, opq_min2, opq_lenL, opq_lenT, opq_tupL, opq_tupT, opq_lstL, opq_lstT, opq_revL, opq_abs, opq_int, opq_addT, opq_addL, opq_sum, opq_min1, opq_max1, opq_slT, opq_slD, opq_slTL, rdq_v, rdq_o, rdq_s, rdsq_nil, rdsq_cons, tkq_v, tkq_o, tkq_s, tksq_nil, tksq_cons, itq_l, itq_t, setRq_v, setRq_o, setRq_s, retq_v, retq_o, retq_s, boolq, zipq, arg1q_v, arg1q_o, arg1q_s, callq, parKq_v, parKq_o, parKq_s, setRsq, isSq_v, isSq_o, isSq_s, mthq_append, mthq_extend, mthq_pop, lsq, bindq_nm, bindq_t, bindq_l, bindsq_nil, bindsq_cons, O.bind_ok, O.of_some, argD, ioSlots, backIo, slotsR, borrows, parL, setL, List.getElem?_cons_succ, List.getElem?_cons_zero, List.set_cons_succ, List.set_cons_zero, reduceIte, if_true, if_false, Bool.false_eq_true, Bool.not_true, Bool.not_false, true_and, and_true, true_or, or_true, decide_true, decide_false, ne_eq, not_false_eq_true, not_true_eq_false, Int.reduceAdd, Int.reduceSub, Int.reduceMul, List.append_nil, List.nil_append, List.cons_append, reduceCtorEq, List.length_cons, List.length_nil, Nat.reduceAdd, Nat.reduceLT, Nat.reduceLeDiff, sz0, sz1, sz2, sz3, sz4, sz5, slt0, Bool.and_true, Bool.true_and, Nat.reduceBEq, List.nodup_cons, List.not_mem_nil, List.nodup_nil, false_or, Bool.or_false, Bool.false_or, and_self, Int.reduceEq, Int.reduceNe, itB, itT, itL, i0, i1]) (fun ds e => ∃ (b' : Box) (x : Int) (u v : Slot), ds = b'.map encI ∧ (∀ p ∈ b', p ∈ b) ∧ x * vol b' = vol b ∧ e = [some (encB b, .fz), some (.int x, .fz), u, v]) ⟨b, 1, none, none, rfl, fun _ h => h, by omega, rfl⟩ (fun ds e h => rfl) (fun d ds e h => by
    obtain ⟨b', x, u, v, h1, h2, h3, rfl⟩ := h
    cases b' with
    | nil => cases h1
    | cons p b' =>
      cases h1
      have hp := hl p (h2 p List.mem_cons_self)
      have : mulOk x (p.2 - p.1) = true := by simp [mulOk]; omega
      refine ⟨[some (encB b, .fz), some (.int x, .fz), some (.int p.1, .fz), some (.int p.2, .fz)], [some (encB b, .fz), some (.int (x * (p.2 - p.1)), .fz), some (.int p.1, .fz), some (.int p.2, .fz)], rfl, ?_, b', x * (p.2 - p.1), _, _, rfl, fun q hq => h2 q (List.mem_cons_of_mem _ hq), by rw [Int.mul_assoc]; exact h3, rfl⟩
      simp only [fb_room_of_0, this, andq, orq, negq, lockE_v, lockE_o, lockE_nil, wipeE_cons, wipeE_nil, backE_cons, backE_nil, unlockE_nil, evq_var, evq_con, evq_tup, evq_lst, evq_op, evq_chain, evq_and, evq_or, evq_ite, evq_call, evq_mth, evq_nil, evq_cons, evq_star, evq_val, evq_rng, evq_zip, exq_set, exq_unp, exq_par, exq_expr, exq_ret, exq_iff, exq_nil, exq_cons, opq_add, opq_sub, opq_mul, opq_mod, opq_fdiv, opq_neg, opq_lt, opq_le, opq_gt, opq_ge, opq_eqI, opq_neI, opq_eqB, opq_neB, opq_isN, opq_isnN, opq_isT, opq_isnT, opq_isB, opq_isnB, opq_truB, opq_not, opq_asI, opq_i0, opq_i1, opq_l0, opq_l1, opq_max2, opq_min2, opq_lenL, opq_lenT, opq_tupL, opq_tupT, opq_lstL, opq_lstT, opq_revL, opq_abs, opq_int, opq_addT, opq_addL, opq_sum, opq_min1, opq_max1, opq_slT, opq_slD, opq_slTL, rdq_v, rdq_o, rdq_s, rdsq_nil, rdsq_cons, tkq_v, tkq_o, tkq_s, tksq_nil, tksq_cons, itq_l, itq_t, setRq_v, setRq_o, setRq_s, retq_v, retq_o, retq_s, boolq, zipq, arg1q_v, arg1q_o, arg1q_s, callq, parKq_v, parKq_o, parKq_s, setRsq, isSq_v, isSq_o, isSq_s, mthq_append, mthq_extend, mthq_pop, lsq, bindq_nm, bindq_t, bindq_l, bindsq_nil, bindsq_cons, O.bind_ok, O.of_some, argD, ioSlots, backIo, slotsR, borrows, parL, setL, List.getElem?_cons_succ, List.getElem?_cons_zero, List.set_cons_succ, List.set_cons_zero, reduceIte, if_true, if_false, Bool.false_eq_true, Bool.not_true, Bool.not_false, true_and, and_true, true_or, or_true, decide_true, decide_false, ne_eq, not_false_eq_true, not_true_eq_false, Int.reduceAdd, Int.reduceSub, Int.reduceMul, List.append_nil, List.nil_append, List.cons_append, reduceCtorEq, List.length_cons, List.length_nil, Nat.reduceAdd, Nat.reduceLT, Nat.reduceLeDiff, sz0, sz1, sz2, sz3, sz4, sz5, slt0, Bool.and_true, Bool.true_and, Nat.reduceBEq, List.nodup_cons, List.not_mem_nil, List.nodup_nil, false_or, Bool.or_false, Bool.false_or, and_self, Int.reduceEq, Int.reduceNe, itB, itT, itL, i0, i1])
  have : b' = [] := by simpa using h2.symm
  subst this
  have : x = vol b := by rw [← h4, vol, Int.mul_one]
  subst this
  exact ⟨u, v, h1⟩
theorem run_room (b : Box) (hl : ∀ p ∈ b, -(2 ^ 64) < p.2 - p.1 ∧ p.2 - p.1 < 2 ^ 64) : runFn C ⟨1, 4, b_room_of⟩ [(encB b, false)] = .ok (.int (vol b)) false [.none] := by
  obtain ⟨u, v, hf⟩ := f_room (C := C) b hl
  refine runFn_ret [some (encB b, .fz), none, none, none] (env := [some (encB b, .fz), some (.int (vol b), .fz), u, v]) rfl (by decide) rfl ?_ rfl
  simp only [b_room_of, hf, andq, orq, negq, lockE_v, lockE_o, lockE_nil, wipeE_cons, wipeE_nil, backE_cons, backE_nil, unlockE_nil, evq_var, evq_con, evq_tup, evq_lst, evq_op, evq_chain, evq_and, evq_or, evq_ite, evq_call, evq_mth, evq_nil, evq_cons, evq_star, evq_val, evq_rng, evq_zip, exq_set, exq_unp, exq_par, exq_expr, exq_ret, exq_iff, exq_nil, exq_cons, opq_add, opq_sub, opq_mul, opq_mod, opq_fdiv, opq_neg, opq_lt, opq_le, opq_gt, opq_ge, opq_eqI, opq_neI, opq_eqB, opq_neB, opq_isN, opq_isnN, opq_isT, opq_isnT, opq_isB, opq_isnB, opq_truB, opq_not, opq_asI, opq_i0, opq_i1, opq_l0, opq_l1, opq_max2, opq_min2, opq_lenL, opq_lenT, opq_tupL, opq_tupT, opq_lstL, opq_lstT, opq_revL, opq_abs, opq_int, opq_addT, opq_addL, opq_sum, opq_min1, opq_max1, opq_slT, opq_slD, opq_slTL, rdq_v, rdq_o, rdq_s, rdsq_nil, rdsq_cons, tkq_v, tkq_o, tkq_s, tksq_nil, tksq_cons, itq_l, itq_t, setRq_v, setRq_o, setRq_s, retq_v, retq_o, retq_s, boolq, zipq, arg1q_v, arg1q_o, arg1q_s, callq, parKq_v, parKq_o, parKq_s, setRsq, isSq_v, isSq_o, isSq_s, mthq_append, mthq_extend, mthq_pop, lsq, bindq_nm, bindq_t, bindq_l, bindsq_nil, bindsq_cons, O.bind_ok, O.of_some, argD, ioSlots, backIo, slotsR, borrows, parL, setL, List.getElem?_cons_succ, List.getElem?_cons_zero, List.set_cons_succ, List.set_cons_zero, reduceIte, if_true, if_false, Bool.false_eq_true, Bool.not_true, Bool.not_false, true_and, and_true, true_or, or_true, decide_true, decide_false, ne_eq, not_false_eq_true, not_true_eq_false, Int.reduceAdd, Int.reduceSub, Int.reduceMul, List.append_nil, List.nil_append, List.cons_append, reduceCtorEq, List.length_cons, List.length_nil, Nat.reduceAdd, Nat.reduceLT, Nat.reduceLeDiff, sz0, sz1, sz2, sz3, sz4, sz5, slt0, Bool.and_true, Bool.true_and, Nat.reduceBEq, List.nodup_cons, List.not_mem_nil, List.nodup_nil, false_or, Bool.or_false, Bool.false_or, and_self, Int.reduceEq, Int.reduceNe, itB, itT, itL, i0, i1]
end
end K8
set_option maxRecDepth 100000
-- ex: itB, itT, itL, i0, i1
namespace K8
open Mi Bx PySem
theorem ixB {b : Box} {i : Nat} (h : i < b.length) : opO .idx [encB b, .int i] = some (.v (encI b[i])) := by
  refine opq_ix ?_
  simp [h]
theorem lenB (b : Box) : opO (.bi .len) [encB b] = some (.v (.int b.length)) := by
  rw [encB, opq_lenT, List.length_map]
theorem slT (b : Box) (i : Nat) : opO .sl [encB b, .none, .int i] = some (.v (encB (b.take i))) := by
  rw [encB, opq_slT, encB, List.map_take]
theorem slD (b : Box) (i : Nat) : opO .sl [encB b, .int ((i : Int) + 1), .none] = some (.v (encB (b.drop (i + 1)))) := by
  rw [show ((i : Int) + 1) = ((i + 1 : Nat) : Int) by omega, encB, opq_slD, encB, List.map_drop]
theorem encB_cut (b : Box) (i : Nat) (p : Int × Int) : PyData.tuple ((b.take i).map encI ++ encI p :: (b.drop (i + 1)).map encI) = encB (cutAt b i p) := by
  simp [encB, cutAt]
theorem cut_len {b : Box} {i : Nat} (h : i < b.length) (p : Int × Int) : (cutAt b i p).length = b.length := by
  simp [cutAt]; omega
theorem len_mid {b : Box} {i : Nat} (h : i < b.length) (p : Int × Int) : ((b.take i).map encI ++ encI p :: (b.drop (i + 1)).map encI).length = b.length := by
  simp; omega
theorem encI_eq (x y : Int) : PyData.tuple [.int x, .int y] = encI (x, y) := rfl
section
variable {C : Den}
/-- one cut, if there is room -/
def cutIf (b : Box) (i : Nat) (p : Int × Int) : List Box := if p.1 < p.2 then [cutAt b i p] else []
theorem fb_without_at (e0 e1 e2 : Slot) (F : List Box) (l : Box) (i : Nat) (p : Int × Int) (hi : i < l.length) (hl : l.length ≤ 1000) (hF : F.length ≤ 10000) :
    exSs C fb_without_0 [e0, e1, e2, some (encL F, .ow), some (encB l, .fz), some (.int i, .fz), some (.int p.1, .fz), some (.int p.2, .fz)] = .ok .nx [e0, e1, e2, some (encL (F ++ cutIf l i p), .ow), some (encB l, .fz), some (.int i, .fz), some (.int p.1, .fz), some (.int p.2, .fz)] := by
  unfold cutIf
  have h1 : (List.map encB F).length < sizeLine := by rw [List.length_map]; unfold sizeLine; omega
  have h2 : ((l.take i).map encI ++ encI p :: (l.drop (i + 1)).map encI).length ≤ sizeLine := by rw [len_mid hi]; unfold sizeLine; omega
  by_cases h : p.1 < p.2
  · simp only [fb_without_0, h, slT, slD, tks_mid, encI_eq, h2, encL, h1, andq, orq, negq, lockE_v, lockE_o, lockE_nil, wipeE_cons, wipeE_nil, backE_cons, backE_nil, unlockE_nil, evq_var, evq_con, evq_tup, evq_lst, evq_op, evq_chain, evq_and, evq_or, evq_ite, evq_call, evq_mth, evq_nil, evq_cons, evq_star, evq_val, evq_rng, evq_zip, exq_set, exq_unp, exq_par, exq_expr, exq_ret, exq_iff, exq_nil, exq_cons, opq_add, opq_sub, opq_mul, opq_mod, opq_fdiv, opq_neg, opq_lt, opq_le, opq_gt, opq_ge, opq_eqI, opq_neI, opq_eqB, opq_neB, opq_isN, opq_isnN, opq_isT, opq_isnT, opq_isB, opq_isnB, opq_truB, opq_not, opq_asI, opq_i0, opq_i1, opq_l0, opq_l1, opq_max2, opq_min2, opq_lenL, opq_lenT, opq_tupL, opq_tupT, opq_lstL, opq_lstT, opq_revL, opq_abs, opq_int, opq_addT, opq_addL, opq_sum, opq_min1, opq_max1, opq_slT, opq_slD, opq_slTL, rdq_v, rdq_o, rdq_s, rdsq_nil, rdsq_cons, tkq_v, tkq_o, tkq_s, tksq_nil, tksq_cons, itq_l, itq_t, setRq_v, setRq_o, setRq_s, retq_v, retq_o, retq_s, boolq, zipq, arg1q_v, arg1q_o, arg1q_s, callq, parKq_v, parKq_o, parKq_s, setRsq, isSq_v, isSq_o, isSq_s, mthq_append, mthq_extend, mthq_pop, lsq, bindq_nm, bindq_t, bindq_l, bindsq_nil, bindsq_cons, O.bind_ok, O.of_some, argD, ioSlots, backIo, slotsR, borrows, parL, setL, List.getElem?_cons_succ, List.getElem?_cons_zero, List.set_cons_succ, List.set_cons_zero, reduceIte, if_true, if_false, Bool.false_eq_true, Bool.not_true, Bool.not_false, true_and, and_true, true_or, or_true, decide_true, decide_false, ne_eq, not_false_eq_true, not_true_eq_false, Int.reduceAdd, Int.reduceSub, Int.reduceMul, List.append_nil, List.nil_append, List.cons_append, reduceCtorEq, List.length_cons, List.length_nil, Nat.reduceAdd, Nat.reduceLT, Nat.reduceLeDiff, sz0, sz1, sz2, sz3, sz4, sz5, slt0, Bool.and_true, Bool.true_and, Nat.reduceBEq, List.nodup_cons, List.not_mem_nil, List.nodup_nil, false_or, Bool.or_false, Bool.false_or, and_self, Int.reduceEq, Int.reduceNe, itB, itT, itL, i0, i1]
    rw [encB_cut, List.map_append]
    rfl
  · simp only [fb_without_0, h, andq, orq, negq, lockE_v, lockE_o, lockE_nil, wipeE_cons, wipeE_nil, backE_cons, backE_nil, unlockE_nil, evq_var, evq_con, evq_tup, evq_lst, evq_op, evq_chain, evq_and, evq_or, evq_ite, evq_call, evq_mth, evq_nil, evq_cons, evq_star, evq_val, evq_rng, evq_zip, exq_set, exq_unp, exq_par, exq_expr, exq_ret, exq_iff, exq_nil, exq_cons, opq_add, opq_sub, opq_mul, opq_mod, opq_fdiv, opq_neg, opq_lt, opq_le, opq_gt, opq_ge, opq_eqI, opq_neI, opq_eqB, opq_neB, opq_isN, opq_isnN, opq_isT, opq_isnT, opq_isB, opq_isnB, opq_truB, opq_not, opq_asI, opq_i0, opq_i1, opq_l0, opq_l1, opq_max2, opq_min2, opq_lenL, opq_lenT, opq_tupL, opq_tupT, opq_lstL, opq_lstT, opq_revL, opq_abs, opq_int, opq_addT, opq_addL, opq_sum, opq_min1, opq_max1, opq_slT, opq_slD, opq_slTL, rdq_v, rdq_o, rdq_s, rdsq_nil, rdsq_cons, tkq_v, tkq_o, tkq_s, tksq_nil, tksq_cons, itq_l, itq_t, setRq_v, setRq_o, setRq_s, retq_v, retq_o, retq_s, boolq, zipq, arg1q_v, arg1q_o, arg1q_s, callq, parKq_v, parKq_o, parKq_s, setRsq, isSq_v, isSq_o, isSq_s, mthq_append, mthq_extend, mthq_pop, lsq, bindq_nm, bindq_t, bindq_l, bindsq_nil, bindsq_cons, O.bind_ok, O.of_some, argD, ioSlots, backIo, slotsR, borrows, parL, setL, List.getElem?_cons_succ, List.getElem?_cons_zero, List.set_cons_succ, List.set_cons_zero, reduceIte, if_true, if_false, Bool.false_eq_true, Bool.not_true, Bool.not_false, true_and, and_true, true_or, or_true, decide_true, decide_false, ne_eq, not_false_eq_true, not_true_eq_false, Int.reduceAdd, Int.reduceSub, Int.reduceMul, List.append_nil, List.nil_append, List.cons_append, reduceCtorEq, List.length_cons, List.length_nil, Nat.reduceAdd, Nat.reduceLT, Nat.reduceLeDiff, sz0, sz1, sz2, sz3, sz4, sz5, slt0, Bool.and_true, Bool.true_and, Nat.reduceBEq, List.nodup_cons, List.not_mem_nil, List.nodup_nil, false_or, Bool.or_false, Bool.false_or, and_self, Int.reduceEq, Int.reduceNe, itB, itT, itL, i0, i1]
theorem f_without_at (e0 e1 u v : Slot) (F : List Box) (l m : Box) (i : Nat) (hi : i < l.length) (hm : i < m.length) (hl : l.length ≤ 1000) (hF : F.length ≤ 9000) :
    exS C f_without_0 [e0, e1, some (encB m, .fz), some (encL F, .ow), some (encB l, .fz), some (.int i, .fz), u, v] = .ok .nx [e0, e1, some (encB m, .fz), some (encL (F ++ cutIf l i (l[i].1, m[i].1) ++ cutIf l i (m[i].2, l[i].2)), .ow), some (encB l, .fz), some (.int i, .fz), some (.int m[i].2, .fz), some (.int l[i].2, .fz)] := by
  have hF' : (F ++ cutIf l i (l[i].1, m[i].1)).length ≤ 10000 := by
    rw [List.length_append]
    unfold cutIf
    split <;> simp <;> omega
  refine (exS_for (ds := [encI (l[i].1, m[i].1), encI (m[i].2, l[i].2)]) (ws := [.v (.tuple [encI (l[i].1, m[i].1), encI (m[i].2, l[i].2)])]) (e1 := [e0, e1, some (encB m, .fz), some (encL F, .ow), some (encB l, .fz), some (.int i, .fz), u, v]) ?_ ((loop_cons rfl rfl (fb_without_at _ _ _ F l i (l[i].1, m[i].1) hi hl (by omega))).trans ((loop_cons rfl rfl (fb_without_at _ _ _ _ l i (m[i].2, l[i].2) hi hl hF')).trans (loop_nil rfl)))).trans rfl
  simp only [ixB hi, ixB hm, encI_eq, andq, orq, negq, lockE_v, lockE_o, lockE_nil, wipeE_cons, wipeE_nil, backE_cons, backE_nil, unlockE_nil, evq_var, evq_con, evq_tup, evq_lst, evq_op, evq_chain, evq_and, evq_or, evq_ite, evq_call, evq_mth, evq_nil, evq_cons, evq_star, evq_val, evq_rng, evq_zip, exq_set, exq_unp, exq_par, exq_expr, exq_ret, exq_iff, exq_nil, exq_cons, opq_add, opq_sub, opq_mul, opq_mod, opq_fdiv, opq_neg, opq_lt, opq_le, opq_gt, opq_ge, opq_eqI, opq_neI, opq_eqB, opq_neB, opq_isN, opq_isnN, opq_isT, opq_isnT, opq_isB, opq_isnB, opq_truB, opq_not, opq_asI, opq_i0, opq_i1, opq_l0, opq_l1, opq_max2, opq_min2, opq_lenL, opq_lenT, opq_tupL, opq_tupT, opq_lstL, opq_lstT, opq_revL, opq_abs, opq_int, opq_addT, opq_addL, opq_sum, opq_min1, opq_max1, opq_slT, opq_slD, opq_slTL, rdq_v, rdq_o, rdq_s, rdsq_nil, rdsq_cons, tkq_v, tkq_o, tkq_s, tksq_nil, tksq_cons, itq_l, itq_t, setRq_v, setRq_o, setRq_s, retq_v, retq_o, retq_s, boolq, zipq, arg1q_v, arg1q_o, arg1q_s, callq, parKq_v, parKq_o, parKq_s, setRsq, isSq_v, isSq_o, isSq_s, mthq_append, mthq_extend, mthq_pop, lsq, bindq_nm, bindq_t, bindq_l, bindsq_nil, bindsq_cons, O.bind_ok, O.of_some, argD, ioSlots, backIo, slotsR, borrows, parL, setL, List.getElem?_cons_succ, List.getElem?_cons_zero, List.set_cons_succ, List.set_cons_zero, reduceIte, if_true, if_false, Bool.false_eq_true, Bool.not_true, Bool.not_false, true_and, and_true, true_or, or_true, decide_true, decide_false, ne_eq, not_false_eq_true, not_true_eq_false, Int.reduceAdd, Int.reduceSub, Int.reduceMul, List.append_nil, List.nil_append, List.cons_append, reduceCtorEq, List.length_cons, List.length_nil, Nat.reduceAdd, Nat.reduceLT, Nat.reduceLeDiff, sz0, sz1, sz2, sz3, sz4, sz5, slt0, Bool.and_true, Bool.true_and, Nat.reduceBEq, List.nodup_cons, List.not_mem_nil, List.nodup_nil, false_or, Bool.or_false, Bool.false_or, and_self, Int.reduceEq, Int.reduceNe, itB, itT, itL, i0, i1]
theorem fb_without1 (e0 e1 u v w : Slot) (F : List Box) (l m : Box) (i : Nat) (hi : i < l.length) (hm : i < m.length) (hl : l.length ≤ 1000) (hF : F.length ≤ 9000) :
    exSs C fb_without_1 [e0, e1, some (encB m, .fz), some (encL F, .ow), some (encB l, .fz), some (.int i, .fz), u, v] = .ok .nx [e0, e1, some (encB m, .fz), some (encL (F ++ cutIf l i (l[i].1, m[i].1) ++ cutIf l i (m[i].2, l[i].2)), .ow), some (encB (cutAt l i m[i]), .fz), some (.int i, .fz), some (.int m[i].2, .fz), some (.int l[i].2, .fz)] := by
  have h2 : ((l.take i).map encI ++ encI m[i] :: (l.drop (i + 1)).map encI).length ≤ sizeLine := by rw [len_mid hi]; unfold sizeLine; omega
  simp only [fb_without_1, f_without_at e0 e1 u v F l m i hi hm hl hF, slT, slD, tks_mid, ixB hm, h2, encB_cut, andq, orq, negq, lockE_v, lockE_o, lockE_nil, wipeE_cons, wipeE_nil, backE_cons, backE_nil, unlockE_nil, evq_var, evq_con, evq_tup, evq_lst, evq_op, evq_chain, evq_and, evq_or, evq_ite, evq_call, evq_mth, evq_nil, evq_cons, evq_star, evq_val, evq_rng, evq_zip, exq_set, exq_unp, exq_par, exq_expr, exq_ret, exq_iff, exq_nil, exq_cons, opq_add, opq_sub, opq_mul, opq_mod, opq_fdiv, opq_neg, opq_lt, opq_le, opq_gt, opq_ge, opq_eqI, opq_neI, opq_eqB, opq_neB, opq_isN, opq_isnN, opq_isT, opq_isnT, opq_isB, opq_isnB, opq_truB, opq_not, opq_asI, opq_i0, opq_i1, opq_l0, opq_l1, opq_max2, opq_min2, opq_lenL, opq_lenT, opq_tupL, opq_tupT, opq_lstL, opq_lstT, opq_revL, opq_abs, opq_int, opq_addT, opq_addL, opq_sum, opq_min1, opq_max1, opq_slT, opq_slD, opq_slTL, rdq_v, rdq_o, rdq_s, rdsq_nil, rdsq_cons, tkq_v, tkq_o, tkq_s, tksq_nil, tksq_cons, itq_l, itq_t, setRq_v, setRq_o, setRq_s, retq_v, retq_o, retq_s, boolq, zipq, arg1q_v, arg1q_o, arg1q_s, callq, parKq_v, parKq_o, parKq_s, setRsq, isSq_v, isSq_o, isSq_s, mthq_append, mthq_extend, mthq_pop, lsq, bindq_nm, bindq_t, bindq_l, bindsq_nil, bindsq_cons, O.bind_ok, O.of_some, argD, ioSlots, backIo, slotsR, borrows, parL, setL, List.getElem?_cons_succ, List.getElem?_cons_zero, List.set_cons_succ, List.set_cons_zero, reduceIte, if_true, if_false, Bool.false_eq_true, Bool.not_true, Bool.not_false, true_and, and_true, true_or, or_true, decide_true, decide_false, ne_eq, not_false_eq_true, not_true_eq_false, Int.reduceAdd, Int.reduceSub, Int.reduceMul, List.append_nil, List.nil_append, List.cons_append, reduceCtorEq, List.length_cons, List.length_nil, Nat.reduceAdd, Nat.reduceLT, Nat.reduceLeDiff, sz0, sz1, sz2, sz3, sz4, sz5, slt0, Bool.and_true, Bool.true_and, Nat.reduceBEq, List.nodup_cons, List.not_mem_nil, List.nodup_nil, false_or, Bool.or_false, Bool.false_or, and_self, Int.reduceEq, Int.reduceNe, itB, itT, itL, i0, i1]
theorem f_without1 (a b : Box) (hl : a.length = b.length) (hn : a.length ≤ 1000) (hc : clashB a b = true) : ∃ u v w, exS C f_without_1 [some (encB a, .fz), some (encB b, .fz), some (encB (meet a b), .fz), some (encL [], .ow), some (encB a, .fz), none, none, none] = .ok .nx [some (encB a, .fz), some (encB b, .fz), some (encB (meet a b), .fz), some (encL (wo a (meet a b)), .ow), some (encB (meet a b), .fz), u, v, w] := by
  have hm := meet_len hl
  obtain ⟨e2, h2, F, u, v, w, h3, h4, rfl⟩ := for_rng (C := C) (p := .nm 5) (it := .rng (.cons (.op (.bi .len) (.cons (.var 0) .nil)) .nil)) (b := fb_without_1) (n := a.length) (ws := []) (env := [some (encB a, .fz), some (encB b, .fz), some (encB (meet a b), .fz), some (encL [], .ow), some (encB a, .fz), none, none, none]) (e1 := [some (encB a, .fz), some (encB b, .fz), some (encB (meet a b), .fz), some (encL [], .ow), some (encB a, .fz), none, none, none]) (evIt_rng1 (n := a.length) (r := .v (.int a.length)) (by simp only [lenB, andq, orq, negq, lockE_v, lockE_o, lockE_nil, wipeE_cons, wipeE_nil, backE_cons, backE_nil, unlockE_nil, evq_var, evq_con, evq_tup, evq_lst, evq_op, evq_chain, evq_and, evq_or, evq_ite, evq_call, evq_mth, evq_nil, evq_cons, evq_star, evq_val, evq_rng, evq_zip, exq_set, exq_unp, exq_par, exq_expr, exq_ret, exq_iff, exq_nil, exq_cons, opq_add, opq_sub, opq_mul, opq_mod, opq_fdiv, opq_neg, opq_lt, opq_le, opq_gt, opq_ge, opq_eqI, opq_neI, opq_eqB, opq_neB, opq_isN, opq_isnN, opq_isT, opq_isnT, opq_isB, opq_isnB, opq_truB, opq_not, opq_asI, opq_i0, opq_i1, opq_l0, opq_l1, opq_max2, opq_min2, opq_lenL, opq_lenT, opq_tupL, opq_tupT, opq_lstL, opq_lstT, opq_revL, opq_abs, opq_int, opq_addT, opq_addL, opq_sum, opq_min1, opq_max1, opq_slT, opq_slD, opq_slTL, rdq_v, rdq_o, rdq_s, rdsq_nil, rdsq_cons, tkq_v, tkq_o, tkq_s, tksq_nil, tksq_cons, itq_l, itq_t, setRq_v, setRq_o, setRq_s, retq_v, retq_o, retq_s, boolq, zipq, arg1q_v, arg1q_o, arg1q_s, callq, parKq_v, parKq_o, parKq_s, setRsq, isSq_v, isSq_o, isSq_s, mthq_append, mthq_extend, mthq_pop, lsq, bindq_nm, bindq_t, bindq_l, bindsq_nil, bindsq_cons, O.bind_ok, O.of_some, argD, ioSlots, backIo, slotsR, borrows, parL, setL, List.getElem?_cons_succ, List.getElem?_cons_zero, List.set_cons_succ, List.set_cons_zero, reduceIte, if_true, if_false, Bool.false_eq_true, Bool.not_true, Bool.not_false, true_and, and_true, true_or, or_true, decide_true, decide_false, ne_eq, not_false_eq_true, not_true_eq_false, Int.reduceAdd, Int.reduceSub, Int.reduceMul, List.append_nil, List.nil_append, List.cons_append, reduceCtorEq, List.length_cons, List.length_nil, Nat.reduceAdd, Nat.reduceLT, Nat.reduceLeDiff, sz0, sz1, sz2, sz3, sz4, sz5, slt0, Bool.and_true, Bool.true_and, Nat.reduceBEq, List.nodup_cons, List.not_mem_nil, List.nodup_nil, false_or, Bool.or_false, Bool.false_or, and_self, Int.reduceEq, Int.reduceNe, itB, itT, itL, i0, i1]) rfl (by omega)) (fun i e => ∃ (F : List Box) (u v w : Slot), F ++ (wo (a.drop i) ((meet a b).drop i)).map ((meet a b).take i ++ ·) = wo a (meet a b) ∧ F.length ≤ 2 * i ∧ e = [some (encB a, .fz), some (encB b, .fz), some (encB (meet a b), .fz), some (encL F, .ow), some (encB ((meet a b).take i ++ a.drop i), .fz), u, v, w])
    ⟨[], none, none, none, by rw [List.nil_append, List.drop_zero, List.drop_zero]; simp only [List.take_zero, List.nil_append]; exact List.map_id _, Nat.zero_le _, rfl⟩ (fun _ _ _ => rfl) (fun i e hi h => by
      obtain ⟨F, u, v, w, h3, h4, rfl⟩ := h
      have hm' : i < (meet a b).length := by omega
      have ht : ((meet a b).take i).length = i := by rw [List.length_take]; omega
      have hL : ((meet a b).take i ++ a.drop i).length = a.length := by rw [List.length_append, ht, List.length_drop]; omega
      have hg : ((meet a b).take i ++ a.drop i)[i]'(by omega) = a[i] := by
        rw [List.getElem_append_right (by omega)]
        simp [ht]
      have hcut : ∀ p, cutAt ((meet a b).take i ++ a.drop i) i p = (meet a b).take i ++ p :: a.drop (i + 1) := fun p => by
        unfold cutAt
        rw [List.take_append_of_le_length (by omega), List.take_of_length_le (by omega), List.drop_append, ht, List.drop_eq_nil_of_le (by omega), List.nil_append, List.drop_drop, show i + (i + 1 - i) = i + 1 by omega]
      refine ⟨_, _, rfl, fb_without1 _ _ v w w F _ (meet a b) i (by omega) hm' (by omega) (by omega), F ++ cutIf ((meet a b).take i ++ a.drop i) i (a[i].1, (meet a b)[i].1) ++ cutIf ((meet a b).take i ++ a.drop i) i ((meet a b)[i].2, a[i].2), some (.int i, .fz), some (.int (meet a b)[i].2, .fz), some (.int a[i].2, .fz), ?_, ?_, ?_⟩
      · have hc1 : ∀ x y : Int, cutIf ((meet a b).take i ++ a.drop i) i (x, y) = (if x < y then [(x, y) :: a.drop (i + 1)] else []).map ((meet a b).take i ++ ·) := fun x y => by
          unfold cutIf
          rw [hcut]
          split <;> rfl
        rw [← h3, hc1, hc1, List.drop_eq_getElem_cons hi, List.drop_eq_getElem_cons hm', wo]
        simp only [List.map_append, List.append_assoc, List.map_map]
        congr 3
        apply List.map_congr_left
        intro z _
        simp only [Function.comp]
        rw [← List.take_append_getElem hm', List.append_assoc]
        rfl
      · simp only [List.length_append, cutIf]
        split <;> split <;> simp <;> omega
      · have hcc : cutAt ((meet a b).take i ++ a.drop i) i (meet a b)[i] = (meet a b).take (i + 1) ++ a.drop (i + 1) := by
          rw [hcut, ← List.take_append_getElem hm', List.append_assoc]
          rfl
        simp only [hg, hcc])
  refine ⟨u, v, w, ?_⟩
  have e1 : F = wo a (meet a b) := by
    rw [← h3, List.drop_eq_nil_of_le (by omega)]
    simp [wo]
  have e2 : (meet a b).take a.length ++ a.drop a.length = meet a b := by
    rw [List.drop_eq_nil_of_le (by omega), List.take_of_length_le (by omega), List.append_nil]
  rw [e2, e1] at h2
  exact h2
theorem run_without (h1 : ∀ a b : Box, a.length ≤ sizeLine → C.run 1 [(encB a, false), (encB b, false)] = .ok (sharedD a b) false [.none, .none]) (a b : Box) (hl : a.length = b.length) (hn : a.length ≤ 1000) : runFn C ⟨2, 8, b_without⟩ [(encB a, false), (encB b, false)] = .ok (encL (Bx.without a b)) true [.none, .none] := by
  have hs := h1 a b (by unfold sizeLine; omega)
  unfold sharedD at hs
  unfold Bx.without
  cases hc : clashB a b with
  | false =>
    refine runFn_ret [some (encB a, .fz), some (encB b, .fz), none, none, none, none, none, none] (env := [some (encB a, .fz), some (encB b, .fz), some (.none, .fz), none, none, none, none, none]) rfl (by decide) rfl ?_ rfl
    rw [hc] at hs
    simp only [b_without, hs, andq, orq, negq, lockE_v, lockE_o, lockE_nil, wipeE_cons, wipeE_nil, backE_cons, backE_nil, unlockE_nil, evq_var, evq_con, evq_tup, evq_lst, evq_op, evq_chain, evq_and, evq_or, evq_ite, evq_call, evq_mth, evq_nil, evq_cons, evq_star, evq_val, evq_rng, evq_zip, exq_set, exq_unp, exq_par, exq_expr, exq_ret, exq_iff, exq_nil, exq_cons, opq_add, opq_sub, opq_mul, opq_mod, opq_fdiv, opq_neg, opq_lt, opq_le, opq_gt, opq_ge, opq_eqI, opq_neI, opq_eqB, opq_neB, opq_isN, opq_isnN, opq_isT, opq_isnT, opq_isB, opq_isnB, opq_truB, opq_not, opq_asI, opq_i0, opq_i1, opq_l0, opq_l1, opq_max2, opq_min2, opq_lenL, opq_lenT, opq_tupL, opq_tupT, opq_lstL, opq_lstT, opq_revL, opq_abs, opq_int, opq_addT, opq_addL, opq_sum, opq_min1, opq_max1, opq_slT, opq_slD, opq_slTL, rdq_v, rdq_o, rdq_s, rdsq_nil, rdsq_cons, tkq_v, tkq_o, tkq_s, tksq_nil, tksq_cons, itq_l, itq_t, setRq_v, setRq_o, setRq_s, retq_v, retq_o, retq_s, boolq, zipq, arg1q_v, arg1q_o, arg1q_s, callq, parKq_v, parKq_o, parKq_s, setRsq, isSq_v, isSq_o, isSq_s, mthq_append, mthq_extend, mthq_pop, lsq, bindq_nm, bindq_t, bindq_l, bindsq_nil, bindsq_cons, O.bind_ok, O.of_some, argD, ioSlots, backIo, slotsR, borrows, parL, setL, List.getElem?_cons_succ, List.getElem?_cons_zero, List.set_cons_succ, List.set_cons_zero, reduceIte, if_true, if_false, Bool.false_eq_true, Bool.not_true, Bool.not_false, true_and, and_true, true_or, or_true, decide_true, decide_false, ne_eq, not_false_eq_true, not_true_eq_false, Int.reduceAdd, Int.reduceSub, Int.reduceMul, List.append_nil, List.nil_append, List.cons_append, reduceCtorEq, List.length_cons, List.length_nil, Nat.reduceAdd, Nat.reduceLT, Nat.reduceLeDiff, sz0, sz1, sz2, sz3, sz4, sz5, slt0, Bool.and_true, Bool.true_and, Nat.reduceBEq, List.nodup_cons, List.not_mem_nil, List.nodup_nil, false_or, Bool.or_false, Bool.false_or, and_self, Int.reduceEq, Int.reduceNe, itB, itT, itL, i0, i1]
    rfl
  | true =>
    rw [hc] at hs
    have hm := meet_len hl
    obtain ⟨u, v, w, key⟩ := f_without1 (C := C) a b hl hn hc
    refine runFn_ret [some (encB a, .fz), some (encB b, .fz), none, none, none, none, none, none] (env := [some (encB a, .fz), some (encB b, .fz), some (encB (meet a b), .fz), none, some (encB (meet a b), .fz), u, v, w]) rfl (by decide) rfl ?_ rfl
    have hn : opO (.cmp .is_) [encB (meet a b), .none] = some (.v (.bool false)) := rfl
    have s1 : exS C (.set 2 false (.call 1 (.cons (.var 0) (.cons (.var 1) .nil)))) [some (encB a, .fz), some (encB b, .fz), none, none, none, none, none, none] = .ok .nx [some (encB a, .fz), some (encB b, .fz), some (encB (meet a b), .fz), none, none, none, none, none] := by
      simp only [hs, andq, orq, negq, lockE_v, lockE_o, lockE_nil, wipeE_cons, wipeE_nil, backE_cons, backE_nil, unlockE_nil, evq_var, evq_con, evq_tup, evq_lst, evq_op, evq_chain, evq_and, evq_or, evq_ite, evq_call, evq_mth, evq_nil, evq_cons, evq_star, evq_val, evq_rng, evq_zip, exq_set, exq_unp, exq_par, exq_expr, exq_ret, exq_iff, exq_nil, exq_cons, opq_add, opq_sub, opq_mul, opq_mod, opq_fdiv, opq_neg, opq_lt, opq_le, opq_gt, opq_ge, opq_eqI, opq_neI, opq_eqB, opq_neB, opq_isN, opq_isnN, opq_isT, opq_isnT, opq_isB, opq_isnB, opq_truB, opq_not, opq_asI, opq_i0, opq_i1, opq_l0, opq_l1, opq_max2, opq_min2, opq_lenL, opq_lenT, opq_tupL, opq_tupT, opq_lstL, opq_lstT, opq_revL, opq_abs, opq_int, opq_addT, opq_addL, opq_sum, opq_min1, opq_max1, opq_slT, opq_slD, opq_slTL, rdq_v, rdq_o, rdq_s, rdsq_nil, rdsq_cons, tkq_v, tkq_o, tkq_s, tksq_nil, tksq_cons, itq_l, itq_t, setRq_v, setRq_o, setRq_s, retq_v, retq_o, retq_s, boolq, zipq, arg1q_v, arg1q_o, arg1q_s, callq, parKq_v, parKq_o, parKq_s, setRsq, isSq_v, isSq_o, isSq_s, mthq_append, mthq_extend, mthq_pop, lsq, bindq_nm, bindq_t, bindq_l, bindsq_nil, bindsq_cons, O.bind_ok, O.of_some, argD, ioSlots, backIo, slotsR, borrows, parL, setL, List.getElem?_cons_succ, List.getElem?_cons_zero, List.set_cons_succ, List.set_cons_zero, reduceIte, if_true, if_false, Bool.false_eq_true, Bool.not_true, Bool.not_false, true_and, and_true, true_or, or_true, decide_true, decide_false, ne_eq, not_false_eq_true, not_true_eq_false, Int.reduceAdd, Int.reduceSub, Int.reduceMul, List.append_nil, List.nil_append, List.cons_append, reduceCtorEq, List.length_cons, List.length_nil, Nat.reduceAdd, Nat.reduceLT, Nat.reduceLeDiff, sz0, sz1, sz2, sz3, sz4, sz5, slt0, Bool.and_true, Bool.true_and, Nat.reduceBEq, List.nodup_cons, List.not_mem_nil, List.nodup_nil, false_or, Bool.or_false, Bool.false_or, and_self, Int.reduceEq, Int.reduceNe, itB, itT, itL, i0, i1]
    have s2 : exS C (.iff (.op (.cmp .is_) (.cons (.var 2) (.cons (.con .none) .nil))) (.cons (.ret (.lst (.cons (.var 0) .nil))) .nil) .nil) [some (encB a, .fz), some (encB b, .fz), some (encB (meet a b), .fz), none, none, none, none, none] = .ok .nx [some (encB a, .fz), some (encB b, .fz), some (encB (meet a b), .fz), none, none, none, none, none] := by
      simp only [hn, andq, orq, negq, lockE_v, lockE_o, lockE_nil, wipeE_cons, wipeE_nil, backE_cons, backE_nil, unlockE_nil, evq_var, evq_con, evq_tup, evq_lst, evq_op, evq_chain, evq_and, evq_or, evq_ite, evq_call, evq_mth, evq_nil, evq_cons, evq_star, evq_val, evq_rng, evq_zip, exq_set, exq_unp, exq_par, exq_expr, exq_ret, exq_iff, exq_nil, exq_cons, opq_add, opq_sub, opq_mul, opq_mod, opq_fdiv, opq_neg, opq_lt, opq_le, opq_gt, opq_ge, opq_eqI, opq_neI, opq_eqB, opq_neB, opq_isN, opq_isnN, opq_isT, opq_isnT, opq_isB, opq_isnB, opq_truB, opq_not, opq_asI, opq_i0, opq_i1, opq_l0, opq_l1, opq_max2, opq_min2, opq_lenL, opq_lenT, opq_tupL, opq_tupT, opq_lstL, opq_lstT, opq_revL, opq_abs, opq_int, opq_addT, opq_addL, opq_sum, opq_min1, opq_max1, opq_slT, opq_slD, opq_slTL, rdq_v, rdq_o, rdq_s, rdsq_nil, rdsq_cons, tkq_v, tkq_o, tkq_s, tksq_nil, tksq_cons, itq_l, itq_t, setRq_v, setRq_o, setRq_s, retq_v, retq_o, retq_s, boolq, zipq, arg1q_v, arg1q_o, arg1q_s, callq, parKq_v, parKq_o, parKq_s, setRsq, isSq_v, isSq_o, isSq_s, mthq_append, mthq_extend, mthq_pop, lsq, bindq_nm, bindq_t, bindq_l, bindsq_nil, bindsq_cons, O.bind_ok, O.of_some, argD, ioSlots, backIo, slotsR, borrows, parL, setL, List.getElem?_cons_succ, List.getElem?_cons_zero, List.set_cons_succ, List.set_cons_zero, reduceIte, if_true, if_false, Bool.false_eq_true, Bool.not_true, Bool.not_false, true_and, and_true, true_or, or_true, decide_true, decide_false, ne_eq, not_false_eq_true, not_true_eq_false, Int.reduceAdd, Int.reduceSub, Int.reduceMul, List.append_nil, List.nil_append, List.cons_append, reduceCtorEq, List.length_cons, List.length_nil, Nat.reduceAdd, Nat.reduceLT, Nat.reduceLeDiff, sz0, sz1, sz2, sz3, sz4, sz5, slt0, Bool.and_true, Bool.true_and, Nat.reduceBEq, List.nodup_cons, List.not_mem_nil, List.nodup_nil, false_or, Bool.or_false, Bool.false_or, and_self, Int.reduceEq, Int.reduceNe, itB, itT, itL, i0, i1]
    have s3 : exS C (.par [(3, true), (4, false)] (.cons (.lst .nil) (.cons (.var 0) .nil))) [some (encB a, .fz), some (encB b, .fz), some (encB (meet a b), .fz), none, none, none, none, none] = .ok .nx [some (encB a, .fz), some (encB b, .fz), some (encB (meet a b), .fz), some (encL [], .ow), some (encB a, .fz), none, none, none] := by
      simp only [List.length_cons, List.all_cons, List.all_nil, List.map_cons, List.map_nil, encL, andq, orq, negq, lockE_v, lockE_o, lockE_nil, wipeE_cons, wipeE_nil, backE_cons, backE_nil, unlockE_nil, evq_var, evq_con, evq_tup, evq_lst, evq_op, evq_chain, evq_and, evq_or, evq_ite, evq_call, evq_mth, evq_nil, evq_cons, evq_star, evq_val, evq_rng, evq_zip, exq_set, exq_unp, exq_par, exq_expr, exq_ret, exq_iff, exq_nil, exq_cons, opq_add, opq_sub, opq_mul, opq_mod, opq_fdiv, opq_neg, opq_lt, opq_le, opq_gt, opq_ge, opq_eqI, opq_neI, opq_eqB, opq_neB, opq_isN, opq_isnN, opq_isT, opq_isnT, opq_isB, opq_isnB, opq_truB, opq_not, opq_asI, opq_i0, opq_i1, opq_l0, opq_l1, opq_max2, opq_min2, opq_lenL, opq_lenT, opq_tupL, opq_tupT, opq_lstL, opq_lstT, opq_revL, opq_abs, opq_int, opq_addT, opq_addL, opq_sum, opq_min1, opq_max1, opq_slT, opq_slD, opq_slTL, rdq_v, rdq_o, rdq_s, rdsq_nil, rdsq_cons, tkq_v, tkq_o, tkq_s, tksq_nil, tksq_cons, itq_l, itq_t, setRq_v, setRq_o, setRq_s, retq_v, retq_o, retq_s, boolq, zipq, arg1q_v, arg1q_o, arg1q_s, callq, parKq_v, parKq_o, parKq_s, setRsq, isSq_v, isSq_o, isSq_s, mthq_append, mthq_extend, mthq_pop, lsq, bindq_nm, bindq_t, bindq_l, bindsq_nil, bindsq_cons, O.bind_ok, O.of_some, argD, ioSlots, backIo, slotsR, borrows, parL, setL, List.getElem?_cons_succ, List.getElem?_cons_zero, List.set_cons_succ, List.set_cons_zero, reduceIte, if_true, if_false, Bool.false_eq_true, Bool.not_true, Bool.not_false, true_and, and_true, true_or, or_true, decide_true, decide_false, ne_eq, not_false_eq_true, not_true_eq_false, Int.reduceAdd, Int.reduceSub, Int.reduceMul, List.append_nil, List.nil_append, List.cons_append, reduceCtorEq, List.length_cons, List.length_nil, Nat.reduceAdd, Nat.reduceLT, Nat.reduceLeDiff, sz0, sz1, sz2, sz3, sz4, sz5, slt0, Bool.and_true, Bool.true_and, Nat.reduceBEq, List.nodup_cons, List.not_mem_nil, List.nodup_nil, false_or, Bool.or_false, Bool.false_or, and_self, Int.reduceEq, Int.reduceNe, itB, itT, itL, i0, i1]
    exact (exSs_cons s1).trans ((exSs_cons s2).trans ((exSs_cons s3).trans ((exSs_cons key).trans (exSs_ret (exS_ret (r := .s 3) rfl rfl)))))
end
end K8
set_option maxRecDepth 100000
-- ex: itB, itT, itL, i0, i1
namespace K8
open Mi Bx PySem
section
variable {C : Den}
theorem x_apart (h5 : ∀ a b : Box, a.length = b.length → a.length ≤ 1000 → C.run 5 [(encB a, false), (encB b, false)] = .ok (encL (Bx.without a b)) true [.none, .none]) (e0 e1 e2 : Slot) (ps : List Box) (o : Box) (hp : ∀ x ∈ ps, x.length = o.length) (ho : o.length ≤ 1000) (hy : (cutAll ps o).length ≤ sizeLine) :
    ev C x_apart_0 [e0, e1, e2, some (encL ps, .ow), some (encB o, .fz), none, none] = .ok (.o (encL (cutAll ps o))) [e0, e1, e2, some (encL ps, .ow), some (encB o, .fz), none, none] := by
  refine (ev_lc2 (e2 := [e0, e1, e2, some (encL ps, .lo), some (encB o, .fz), none, none]) (ws := [.s 3]) (ds := ps.map encB) (y := (cutAll ps o).map encB) (e1 := [e0, e1, e2, some (encL ps, .ow), some (encB o, .fz), none, none]) rfl (by simp only [andq, orq, negq, lockE_v, lockE_o, lockE_nil, wipeE_cons, wipeE_nil, backE_cons, backE_nil, unlockE_nil, evq_var, evq_con, evq_tup, evq_lst, evq_op, evq_chain, evq_and, evq_or, evq_ite, evq_call, evq_mth, evq_nil, evq_cons, evq_star, evq_val, evq_rng, evq_zip, exq_set, exq_unp, exq_par, exq_expr, exq_ret, exq_iff, exq_nil, exq_cons, opq_add, opq_sub, opq_mul, opq_mod, opq_fdiv, opq_neg, opq_lt, opq_le, opq_gt, opq_ge, opq_eqI, opq_neI, opq_eqB, opq_neB, opq_isN, opq_isnN, opq_isT, opq_isnT, opq_isB, opq_isnB, opq_truB, opq_not, opq_asI, opq_i0, opq_i1, opq_l0, opq_l1, opq_max2, opq_min2, opq_lenL, opq_lenT, opq_tupL, opq_tupT, opq_lstL, opq_lstT, opq_revL, opq_abs, opq_int, opq_addT, opq_addL, opq_sum, opq_min1, opq_max1, opq_slT, opq_slD, opq_slTL, rdq_v, rdq_o, rdq_s, rdsq_nil, rdsq_cons, tkq_v, tkq_o, tkq_s, tksq_nil, tksq_cons, itq_l, itq_t, setRq_v, setRq_o, setRq_s, retq_v, retq_o, retq_s, boolq, zipq, arg1q_v, arg1q_o, arg1q_s, callq, parKq_v, parKq_o, parKq_s, setRsq, isSq_v, isSq_o, isSq_s, mthq_append, mthq_extend, mthq_pop, lsq, bindq_nm, bindq_t, bindq_l, bindsq_nil, bindsq_cons, O.bind_ok, O.of_some, argD, ioSlots, backIo, slotsR, borrows, parL, setL, List.getElem?_cons_succ, List.getElem?_cons_zero, List.set_cons_succ, List.set_cons_zero, reduceIte, if_true, if_false, Bool.false_eq_true, Bool.not_true, Bool.not_false, true_and, and_true, true_or, or_true, decide_true, decide_false, ne_eq, not_false_eq_true, not_true_eq_false, Int.reduceAdd, Int.reduceSub, Int.reduceMul, List.append_nil, List.nil_append, List.cons_append, reduceCtorEq, List.length_cons, List.length_nil, Nat.reduceAdd, Nat.reduceLT, Nat.reduceLeDiff, sz0, sz1, sz2, sz3, sz4, sz5, slt0, Bool.and_true, Bool.true_and, Nat.reduceBEq, List.nodup_cons, List.not_mem_nil, List.nodup_nil, false_or, Bool.or_false, Bool.false_or, and_self, Int.reduceEq, Int.reduceNe, itB, itT, itL, i0, i1]) ?_ (by rw [List.length_map]; exact hy)).trans rfl
  have e : (cutAll ps o).map encB = ps.flatMap fun x => (Bx.without x o).map encB := by
    unfold cutAll
    rw [List.map_flatMap]
  rw [e]
  refine turnsG_at encB _ rfl fun x hx => ⟨_, body_lc2 (e3 := [e0, e1, e2, some (encL ps, .lo), some (encB o, .fz), some (encB x, .fz), none]) (ds1 := (Bx.without x o).map encB) (ws1 := [.o (encL (Bx.without x o))]) (e5 := [e0, e1, e2, some (encL ps, .lo), some (encB o, .fz), some (encB x, .fz), none]) rfl ?_ (turnsG_map (E0 := [e0, e1, e2, some (encL ps, .lo), some (encB o, .fz), some (encB x, .fz), none]) encB encB rfl fun z hz => ⟨_, body_lcv (e3 := [e0, e1, e2, some (encL ps, .lo), some (encB o, .fz), some (encB x, .fz), some (encB z, .fz)]) rfl rfl, rfl⟩), rfl⟩
  have h := h5 x o (hp x hx) (by rw [hp x hx]; exact ho)
  simp only [h, andq, orq, negq, lockE_v, lockE_o, lockE_nil, wipeE_cons, wipeE_nil, backE_cons, backE_nil, unlockE_nil, evq_var, evq_con, evq_tup, evq_lst, evq_op, evq_chain, evq_and, evq_or, evq_ite, evq_call, evq_mth, evq_nil, evq_cons, evq_star, evq_val, evq_rng, evq_zip, exq_set, exq_unp, exq_par, exq_expr, exq_ret, exq_iff, exq_nil, exq_cons, opq_add, opq_sub, opq_mul, opq_mod, opq_fdiv, opq_neg, opq_lt, opq_le, opq_gt, opq_ge, opq_eqI, opq_neI, opq_eqB, opq_neB, opq_isN, opq_isnN, opq_isT, opq_isnT, opq_isB, opq_isnB, opq_truB, opq_not, opq_asI, opq_i0, opq_i1, opq_l0, opq_l1, opq_max2, opq_min2, opq_lenL, opq_lenT, opq_tupL, opq_tupT, opq_lstL, opq_lstT, opq_revL, opq_abs, opq_int, opq_addT, opq_addL, opq_sum, opq_min1, opq_max1, opq_slT, opq_slD, opq_slTL, rdq_v, rdq_o, rdq_s, rdsq_nil, rdsq_cons, tkq_v, tkq_o, tkq_s, tksq_nil, tksq_cons, itq_l, itq_t, setRq_v, setRq_o, setRq_s, retq_v, retq_o, retq_s, boolq, zipq, arg1q_v, arg1q_o, arg1q_s, callq, parKq_v, parKq_o, parKq_s, setRsq, isSq_v, isSq_o, isSq_s, mthq_append, mthq_extend, mthq_pop, lsq, bindq_nm, bindq_t, bindq_l, bindsq_nil, bindsq_cons, O.bind_ok, O.of_some, argD, ioSlots, backIo, slotsR, borrows, parL, setL, List.getElem?_cons_succ, List.getElem?_cons_zero, List.set_cons_succ, List.set_cons_zero, reduceIte, if_true, if_false, Bool.false_eq_true, Bool.not_true, Bool.not_false, true_and, and_true, true_or, or_true, decide_true, decide_false, ne_eq, not_false_eq_true, not_true_eq_false, Int.reduceAdd, Int.reduceSub, Int.reduceMul, List.append_nil, List.nil_append, List.cons_append, reduceCtorEq, List.length_cons, List.length_nil, Nat.reduceAdd, Nat.reduceLT, Nat.reduceLeDiff, sz0, sz1, sz2, sz3, sz4, sz5, slt0, Bool.and_true, Bool.true_and, Nat.reduceBEq, List.nodup_cons, List.not_mem_nil, List.nodup_nil, false_or, Bool.or_false, Bool.false_or, and_self, Int.reduceEq, Int.reduceNe, itB, itT, itL, i0, i1]
theorem f_apart0 (h5 : ∀ a b : Box, a.length = b.length → a.length ≤ 1000 → C.run 5 [(encB a, false), (encB b, false)] = .ok (encL (Bx.without a b)) true [.none, .none]) (e0 e2 t : Slot) (fs : List Box) (b : Box) {u : Box} (hu : (cells u).length ≤ sizeLine) (hn : u.length ≤ 1000) (hf : Ok u fs) (h1 : Proper b) (h2 : Sub b u) :
    ∃ t', exS C f_apart_0 [e0, some (encL fs, .ow), e2, some (encL [b], .ow), t, none, none] = .ok .nx [e0, some (encL fs, .ow), e2, some (encL (fs.foldl cutAll [b]), .ow), t', none, none] := by
  obtain ⟨e, k1, dn, ps, t', k2, rfl, rfl⟩ := for_map (C := C) (p := .nm 4) (it := .val (.var 1)) (b := fb_apart_0) (xs := fs) (h := encB) (ws := [.s 1]) (env := [e0, some (encL fs, .ow), e2, some (encL [b], .ow), t, none, none]) (by simp only [andq, orq, negq, lockE_v, lockE_o, lockE_nil, wipeE_cons, wipeE_nil, backE_cons, backE_nil, unlockE_nil, evq_var, evq_con, evq_tup, evq_lst, evq_op, evq_chain, evq_and, evq_or, evq_ite, evq_call, evq_mth, evq_nil, evq_cons, evq_star, evq_val, evq_rng, evq_zip, exq_set, exq_unp, exq_par, exq_expr, exq_ret, exq_iff, exq_nil, exq_cons, opq_add, opq_sub, opq_mul, opq_mod, opq_fdiv, opq_neg, opq_lt, opq_le, opq_gt, opq_ge, opq_eqI, opq_neI, opq_eqB, opq_neB, opq_isN, opq_isnN, opq_isT, opq_isnT, opq_isB, opq_isnB, opq_truB, opq_not, opq_asI, opq_i0, opq_i1, opq_l0, opq_l1, opq_max2, opq_min2, opq_lenL, opq_lenT, opq_tupL, opq_tupT, opq_lstL, opq_lstT, opq_revL, opq_abs, opq_int, opq_addT, opq_addL, opq_sum, opq_min1, opq_max1, opq_slT, opq_slD, opq_slTL, rdq_v, rdq_o, rdq_s, rdsq_nil, rdsq_cons, tkq_v, tkq_o, tkq_s, tksq_nil, tksq_cons, itq_l, itq_t, setRq_v, setRq_o, setRq_s, retq_v, retq_o, retq_s, boolq, zipq, arg1q_v, arg1q_o, arg1q_s, callq, parKq_v, parKq_o, parKq_s, setRsq, isSq_v, isSq_o, isSq_s, mthq_append, mthq_extend, mthq_pop, lsq, bindq_nm, bindq_t, bindq_l, bindsq_nil, bindsq_cons, O.bind_ok, O.of_some, argD, ioSlots, backIo, slotsR, borrows, parL, setL, List.getElem?_cons_succ, List.getElem?_cons_zero, List.set_cons_succ, List.set_cons_zero, reduceIte, if_true, if_false, Bool.false_eq_true, Bool.not_true, Bool.not_false, true_and, and_true, true_or, or_true, decide_true, decide_false, ne_eq, not_false_eq_true, not_true_eq_false, Int.reduceAdd, Int.reduceSub, Int.reduceMul, List.append_nil, List.nil_append, List.cons_append, reduceCtorEq, List.length_cons, List.length_nil, Nat.reduceAdd, Nat.reduceLT, Nat.reduceLeDiff, sz0, sz1, sz2, sz3, sz4, sz5, slt0, Bool.and_true, Bool.true_and, Nat.reduceBEq, List.nodup_cons, List.not_mem_nil, List.nodup_nil, false_or, Bool.or_false, Bool.false_or, and_self, Int.reduceEq, Int.reduceNe, itB, itT, itL, i0, i1]; rfl) (fun rest e => ∃ (dn ps : List Box) (t : Slot), fs = dn ++ rest ∧ ps = dn.foldl cutAll [b] ∧ e = [e0, some (encL fs, .lo), e2, some (encL ps, .ow), t, none, none])
    ⟨[], [b], t, rfl, rfl, rfl⟩ (fun ds e ⟨_, _, _, _, _, h⟩ => by rw [h]; rfl) (fun d ds e h => by
      obtain ⟨dn, ps, t, k2, rfl, rfl⟩ := h
      have hdn : Ok u dn := by rw [k2] at hf; exact hf.left
      have hd : Proper d ∧ Sub d u := hf d (by rw [k2]; simp)
      obtain ⟨c1, c2⟩ := cuts hdn (Ok.one h1 h2) (p := fun c => inB c b) (fun c => mult_one b c)
      have c3 := cutAll_ok c1 hd.1 hd.2.len
      have c4 := (cutAll_part c2 c1 hd.1 hd.2.len).len c3
      have hx := x_apart h5 e0 (some (encL fs, .lo)) e2 (dn.foldl cutAll [b]) d (fun x hx => by rw [c1.len hx, hd.2.len]) (by rw [hd.2.len]; exact hn) (Nat.le_trans c4 hu)
      refine ⟨[e0, some (encL fs, .lo), e2, some (encL (dn.foldl cutAll [b]), .ow), some (encB d, .fz), none, none], _, rfl, ?_, dn ++ [d], _, some (encB d, .fz), by simp [k2], rfl, rfl⟩
      rw [List.foldl_append]
      simp only [fb_apart_0, hx, List.foldl_cons, List.foldl_nil, andq, orq, negq, lockE_v, lockE_o, lockE_nil, wipeE_cons, wipeE_nil, backE_cons, backE_nil, unlockE_nil, evq_var, evq_con, evq_tup, evq_lst, evq_op, evq_chain, evq_and, evq_or, evq_ite, evq_call, evq_mth, evq_nil, evq_cons, evq_star, evq_val, evq_rng, evq_zip, exq_set, exq_unp, exq_par, exq_expr, exq_ret, exq_iff, exq_nil, exq_cons, opq_add, opq_sub, opq_mul, opq_mod, opq_fdiv, opq_neg, opq_lt, opq_le, opq_gt, opq_ge, opq_eqI, opq_neI, opq_eqB, opq_neB, opq_isN, opq_isnN, opq_isT, opq_isnT, opq_isB, opq_isnB, opq_truB, opq_not, opq_asI, opq_i0, opq_i1, opq_l0, opq_l1, opq_max2, opq_min2, opq_lenL, opq_lenT, opq_tupL, opq_tupT, opq_lstL, opq_lstT, opq_revL, opq_abs, opq_int, opq_addT, opq_addL, opq_sum, opq_min1, opq_max1, opq_slT, opq_slD, opq_slTL, rdq_v, rdq_o, rdq_s, rdsq_nil, rdsq_cons, tkq_v, tkq_o, tkq_s, tksq_nil, tksq_cons, itq_l, itq_t, setRq_v, setRq_o, setRq_s, retq_v, retq_o, retq_s, boolq, zipq, arg1q_v, arg1q_o, arg1q_s, callq, parKq_v, parKq_o, parKq_s, setRsq, isSq_v, isSq_o, isSq_s, mthq_append, mthq_extend, mthq_pop, lsq, bindq_nm, bindq_t, bindq_l, bindsq_nil, bindsq_cons, O.bind_ok, O.of_some, argD, ioSlots, backIo, slotsR, borrows, parL, setL, List.getElem?_cons_succ, List.getElem?_cons_zero, List.set_cons_succ, List.set_cons_zero, reduceIte, if_true, if_false, Bool.false_eq_true, Bool.not_true, Bool.not_false, true_and, and_true, true_or, or_true, decide_true, decide_false, ne_eq, not_false_eq_true, not_true_eq_false, Int.reduceAdd, Int.reduceSub, Int.reduceMul, List.append_nil, List.nil_append, List.cons_append, reduceCtorEq, List.length_cons, List.length_nil, Nat.reduceAdd, Nat.reduceLT, Nat.reduceLeDiff, sz0, sz1, sz2, sz3, sz4, sz5, slt0, Bool.and_true, Bool.true_and, Nat.reduceBEq, List.nodup_cons, List.not_mem_nil, List.nodup_nil, false_or, Bool.or_false, Bool.false_or, and_self, Int.reduceEq, Int.reduceNe, itB, itT, itL, i0, i1])
  have : dn = fs := by simpa using k2.symm
  subst this
  exact ⟨t', k1⟩
theorem f_apart1 (h5 : ∀ a b : Box, a.length = b.length → a.length ≤ 1000 → C.run 5 [(encB a, false), (encB b, false)] = .ok (encL (Bx.without a b)) true [.none, .none]) (x : D) (bs : List Box) (hx : itemsOf x = some (bs.map encB)) {u : Box} (hu : (cells u).length ≤ sizeLine) (hn : u.length ≤ 1000) (hb : Ok u bs) :
    ∃ t s r, exS C f_apart_1 [some (x, .fz), some (encL [], .ow), none, none, none, none, none] = .ok .nx [some (x, .fz), some (encL (apart bs), .ow), t, s, r, none, none] := by
  obtain ⟨e, k1, dn, t, s, r, k2, rfl⟩ := for_map (C := C) (p := .nm 2) (it := .val (.var 0)) (b := fb_apart_1) (xs := bs) (h := encB) (ws := [.v x]) (env := [some (x, .fz), some (encL [], .ow), none, none, none, none, none]) (by simp only [hx, andq, orq, negq, lockE_v, lockE_o, lockE_nil, wipeE_cons, wipeE_nil, backE_cons, backE_nil, unlockE_nil, evq_var, evq_con, evq_tup, evq_lst, evq_op, evq_chain, evq_and, evq_or, evq_ite, evq_call, evq_mth, evq_nil, evq_cons, evq_star, evq_val, evq_rng, evq_zip, exq_set, exq_unp, exq_par, exq_expr, exq_ret, exq_iff, exq_nil, exq_cons, opq_add, opq_sub, opq_mul, opq_mod, opq_fdiv, opq_neg, opq_lt, opq_le, opq_gt, opq_ge, opq_eqI, opq_neI, opq_eqB, opq_neB, opq_isN, opq_isnN, opq_isT, opq_isnT, opq_isB, opq_isnB, opq_truB, opq_not, opq_asI, opq_i0, opq_i1, opq_l0, opq_l1, opq_max2, opq_min2, opq_lenL, opq_lenT, opq_tupL, opq_tupT, opq_lstL, opq_lstT, opq_revL, opq_abs, opq_int, opq_addT, opq_addL, opq_sum, opq_min1, opq_max1, opq_slT, opq_slD, opq_slTL, rdq_v, rdq_o, rdq_s, rdsq_nil, rdsq_cons, tkq_v, tkq_o, tkq_s, tksq_nil, tksq_cons, itq_l, itq_t, setRq_v, setRq_o, setRq_s, retq_v, retq_o, retq_s, boolq, zipq, arg1q_v, arg1q_o, arg1q_s, callq, parKq_v, parKq_o, parKq_s, setRsq, isSq_v, isSq_o, isSq_s, mthq_append, mthq_extend, mthq_pop, lsq, bindq_nm, bindq_t, bindq_l, bindsq_nil, bindsq_cons, O.bind_ok, O.of_some, argD, ioSlots, backIo, slotsR, borrows, parL, setL, List.getElem?_cons_succ, List.getElem?_cons_zero, List.set_cons_succ, List.set_cons_zero, reduceIte, if_true, if_false, Bool.false_eq_true, Bool.not_true, Bool.not_false, true_and, and_true, true_or, or_true, decide_true, decide_false, ne_eq, not_false_eq_true, not_true_eq_false, Int.reduceAdd, Int.reduceSub, Int.reduceMul, List.append_nil, List.nil_append, List.cons_append, reduceCtorEq, List.length_cons, List.length_nil, Nat.reduceAdd, Nat.reduceLT, Nat.reduceLeDiff, sz0, sz1, sz2, sz3, sz4, sz5, slt0, Bool.and_true, Bool.true_and, Nat.reduceBEq, List.nodup_cons, List.not_mem_nil, List.nodup_nil, false_or, Bool.or_false, Bool.false_or, and_self, Int.reduceEq, Int.reduceNe, itB, itT, itL, i0, i1]; rfl) (fun rest e => ∃ (dn : List Box) (t s r : Slot), bs = dn ++ rest ∧ e = [some (x, .fz), some (encL (dn.foldl addB []), .ow), t, s, r, none, none])
    ⟨[], none, none, none, rfl, rfl⟩ (fun ds e ⟨_, _, _, _, _, h⟩ => by rw [h]; rfl) (fun d ds e h => by
      obtain ⟨dn, t, s, r, k2, rfl⟩ := h
      have hdn : Ok u dn := by rw [k2] at hb; exact hb.left
      have hd : Proper d ∧ Sub d u := hb d (by rw [k2]; simp)
      obtain ⟨a1, a2⟩ := adds hdn Ok.nil (q := fun _ => false) (fun c => rfl)
      obtain ⟨a3, a4⟩ := addB_ok a1 a2 hd.1 hd.2
      have a5 := a4.len a3
      obtain ⟨t', k3⟩ := f_apart0 h5 (some (x, .fz)) (some (encB d, .fz)) r (dn.foldl addB []) d hu hn a1 hd.1 hd.2
      have s1 : exS C (.set 3 true (.lst (.cons (.var 2) .nil))) [some (x, .fz), some (encL (dn.foldl addB []), .ow), some (encB d, .fz), s, r, none, none] = .ok .nx [some (x, .fz), some (encL (dn.foldl addB []), .ow), some (encB d, .fz), some (encL [d], .ow), r, none, none] := by
        simp only [andq, orq, negq, lockE_v, lockE_o, lockE_nil, wipeE_cons, wipeE_nil, backE_cons, backE_nil, unlockE_nil, evq_var, evq_con, evq_tup, evq_lst, evq_op, evq_chain, evq_and, evq_or, evq_ite, evq_call, evq_mth, evq_nil, evq_cons, evq_star, evq_val, evq_rng, evq_zip, exq_set, exq_unp, exq_par, exq_expr, exq_ret, exq_iff, exq_nil, exq_cons, opq_add, opq_sub, opq_mul, opq_mod, opq_fdiv, opq_neg, opq_lt, opq_le, opq_gt, opq_ge, opq_eqI, opq_neI, opq_eqB, opq_neB, opq_isN, opq_isnN, opq_isT, opq_isnT, opq_isB, opq_isnB, opq_truB, opq_not, opq_asI, opq_i0, opq_i1, opq_l0, opq_l1, opq_max2, opq_min2, opq_lenL, opq_lenT, opq_tupL, opq_tupT, opq_lstL, opq_lstT, opq_revL, opq_abs, opq_int, opq_addT, opq_addL, opq_sum, opq_min1, opq_max1, opq_slT, opq_slD, opq_slTL, rdq_v, rdq_o, rdq_s, rdsq_nil, rdsq_cons, tkq_v, tkq_o, tkq_s, tksq_nil, tksq_cons, itq_l, itq_t, setRq_v, setRq_o, setRq_s, retq_v, retq_o, retq_s, boolq, zipq, arg1q_v, arg1q_o, arg1q_s, callq, parKq_v, parKq_o, parKq_s, setRsq, isSq_v, isSq_o, isSq_s, mthq_append, mthq_extend, mthq_pop, lsq, bindq_nm, bindq_t, bindq_l, bindsq_nil, bindsq_cons, O.bind_ok, O.of_some, argD, ioSlots, backIo, slotsR, borrows, parL, setL, List.getElem?_cons_succ, List.getElem?_cons_zero, List.set_cons_succ, List.set_cons_zero, reduceIte, if_true, if_false, Bool.false_eq_true, Bool.not_true, Bool.not_false, true_and, and_true, true_or, or_true, decide_true, decide_false, ne_eq, not_false_eq_true, not_true_eq_false, Int.reduceAdd, Int.reduceSub, Int.reduceMul, List.append_nil, List.nil_append, List.cons_append, reduceCtorEq, List.length_cons, List.length_nil, Nat.reduceAdd, Nat.reduceLT, Nat.reduceLeDiff, sz0, sz1, sz2, sz3, sz4, sz5, slt0, Bool.and_true, Bool.true_and, Nat.reduceBEq, List.nodup_cons, List.not_mem_nil, List.nodup_nil, false_or, Bool.or_false, Bool.false_or, and_self, Int.reduceEq, Int.reduceNe, itB, itT, itL, i0, i1]
        rfl
      have hlen : ((dn.foldl addB []).map encB).length + (((dn.foldl addB []).foldl cutAll [d]).map encB).length ≤ sizeLine := by
        rw [List.length_map, List.length_map, ← List.length_append]
        exact Nat.le_trans a5 hu
      have s3 : exS C (.expr (.mth .extend 1 (.cons (.var 3) .nil))) [some (x, .fz), some (encL (dn.foldl addB []), .ow), some (encB d, .fz), some (encL ((dn.foldl addB []).foldl cutAll [d]), .ow), t', none, none] = .ok .nx [some (x, .fz), some (encL (addB (dn.foldl addB []) d), .ow), some (encB d, .fz), some (encL ((dn.foldl addB []).foldl cutAll [d]), .ow), t', none, none] := by
        rw [show encL (addB (dn.foldl addB []) d) = .list ((dn.foldl addB []).map encB ++ ((dn.foldl addB []).foldl cutAll [d]).map encB) by rw [addB, encL, List.map_append]]
        generalize dn.foldl addB [] = F at hlen ⊢
        unfold encL
        simp only [hlen, andq, orq, negq, lockE_v, lockE_o, lockE_nil, wipeE_cons, wipeE_nil, backE_cons, backE_nil, unlockE_nil, evq_var, evq_con, evq_tup, evq_lst, evq_op, evq_chain, evq_and, evq_or, evq_ite, evq_call, evq_mth, evq_nil, evq_cons, evq_star, evq_val, evq_rng, evq_zip, exq_set, exq_unp, exq_par, exq_expr, exq_ret, exq_iff, exq_nil, exq_cons, opq_add, opq_sub, opq_mul, opq_mod, opq_fdiv, opq_neg, opq_lt, opq_le, opq_gt, opq_ge, opq_eqI, opq_neI, opq_eqB, opq_neB, opq_isN, opq_isnN, opq_isT, opq_isnT, opq_isB, opq_isnB, opq_truB, opq_not, opq_asI, opq_i0, opq_i1, opq_l0, opq_l1, opq_max2, opq_min2, opq_lenL, opq_lenT, opq_tupL, opq_tupT, opq_lstL, opq_lstT, opq_revL, opq_abs, opq_int, opq_addT, opq_addL, opq_sum, opq_min1, opq_max1, opq_slT, opq_slD, opq_slTL, rdq_v, rdq_o, rdq_s, rdsq_nil, rdsq_cons, tkq_v, tkq_o, tkq_s, tksq_nil, tksq_cons, itq_l, itq_t, setRq_v, setRq_o, setRq_s, retq_v, retq_o, retq_s, boolq, zipq, arg1q_v, arg1q_o, arg1q_s, callq, parKq_v, parKq_o, parKq_s, setRsq, isSq_v, isSq_o, isSq_s, mthq_append, mthq_extend, mthq_pop, lsq, bindq_nm, bindq_t, bindq_l, bindsq_nil, bindsq_cons, O.bind_ok, O.of_some, argD, ioSlots, backIo, slotsR, borrows, parL, setL, List.getElem?_cons_succ, List.getElem?_cons_zero, List.set_cons_succ, List.set_cons_zero, reduceIte, if_true, if_false, Bool.false_eq_true, Bool.not_true, Bool.not_false, true_and, and_true, true_or, or_true, decide_true, decide_false, ne_eq, not_false_eq_true, not_true_eq_false, Int.reduceAdd, Int.reduceSub, Int.reduceMul, List.append_nil, List.nil_append, List.cons_append, reduceCtorEq, List.length_cons, List.length_nil, Nat.reduceAdd, Nat.reduceLT, Nat.reduceLeDiff, sz0, sz1, sz2, sz3, sz4, sz5, slt0, Bool.and_true, Bool.true_and, Nat.reduceBEq, List.nodup_cons, List.not_mem_nil, List.nodup_nil, false_or, Bool.or_false, Bool.false_or, and_self, Int.reduceEq, Int.reduceNe, itB, itT, itL, i0, i1]
      refine ⟨[some (x, .fz), some (encL (dn.foldl addB []), .ow), some (encB d, .fz), s, r, none, none], _, rfl, (exSs_cons s1).trans ((exSs_cons k3).trans ((exSs_cons s3).trans exSs_nil)), dn ++ [d], some (encB d, .fz), some (encL ((dn.foldl addB []).foldl cutAll [d]), .ow), t', by simp [k2], ?_⟩
      rw [List.foldl_append]
      rfl)
  have : dn = bs := by simpa using k2.symm
  subst this
  exact ⟨t, s, r, k1⟩
theorem run_apart (h5 : ∀ a b : Box, a.length = b.length → a.length ≤ 1000 → C.run 5 [(encB a, false), (encB b, false)] = .ok (encL (Bx.without a b)) true [.none, .none]) (x : D) (bs : List Box) (hx : itemsOf x = some (bs.map encB)) {u : Box} (hu : (cells u).length ≤ sizeLine) (hn : u.length ≤ 1000) (hb : Ok u bs) :
    runFn C ⟨1, 7, b_apart⟩ [(x, false)] = .ok (encL (apart bs)) true [.none] := by
  obtain ⟨t, s, r, h⟩ := f_apart1 h5 x bs hx hu hn hb
  refine runFn_ret [some (x, .fz), none, none, none, none, none, none] (env := [some (x, .fz), none, t, s, r, none, none]) rfl (by decide) rfl ?_ rfl
  have s1 : exS C (.set 1 true (.lst .nil)) [some (x, .fz), none, none, none, none, none, none] = .ok .nx [some (x, .fz), some (encL [], .ow), none, none, none, none, none] := by
    simp only [andq, orq, negq, lockE_v, lockE_o, lockE_nil, wipeE_cons, wipeE_nil, backE_cons, backE_nil, unlockE_nil, evq_var, evq_con, evq_tup, evq_lst, evq_op, evq_chain, evq_and, evq_or, evq_ite, evq_call, evq_mth, evq_nil, evq_cons, evq_star, evq_val, evq_rng, evq_zip, exq_set, exq_unp, exq_par, exq_expr, exq_ret, exq_iff, exq_nil, exq_cons, opq_add, opq_sub, opq_mul, opq_mod, opq_fdiv, opq_neg, opq_lt, opq_le, opq_gt, opq_ge, opq_eqI, opq_neI, opq_eqB, opq_neB, opq_isN, opq_isnN, opq_isT, opq_isnT, opq_isB, opq_isnB, opq_truB, opq_not, opq_asI, opq_i0, opq_i1, opq_l0, opq_l1, opq_max2, opq_min2, opq_lenL, opq_lenT, opq_tupL, opq_tupT, opq_lstL, opq_lstT, opq_revL, opq_abs, opq_int, opq_addT, opq_addL, opq_sum, opq_min1, opq_max1, opq_slT, opq_slD, opq_slTL, rdq_v, rdq_o, rdq_s, rdsq_nil, rdsq_cons, tkq_v, tkq_o, tkq_s, tksq_nil, tksq_cons, itq_l, itq_t, setRq_v, setRq_o, setRq_s, retq_v, retq_o, retq_s, boolq, zipq, arg1q_v, arg1q_o, arg1q_s, callq, parKq_v, parKq_o, parKq_s, setRsq, isSq_v, isSq_o, isSq_s, mthq_append, mthq_extend, mthq_pop, lsq, bindq_nm, bindq_t, bindq_l, bindsq_nil, bindsq_cons, O.bind_ok, O.of_some, argD, ioSlots, backIo, slotsR, borrows, parL, setL, List.getElem?_cons_succ, List.getElem?_cons_zero, List.set_cons_succ, List.set_cons_zero, reduceIte, if_true, if_false, Bool.false_eq_true, Bool.not_true, Bool.not_false, true_and, and_true, true_or, or_true, decide_true, decide_false, ne_eq, not_false_eq_true, not_true_eq_false, Int.reduceAdd, Int.reduceSub, Int.reduceMul, List.append_nil, List.nil_append, List.cons_append, reduceCtorEq, List.length_cons, List.length_nil, Nat.reduceAdd, Nat.reduceLT, Nat.reduceLeDiff, sz0, sz1, sz2, sz3, sz4, sz5, slt0, Bool.and_true, Bool.true_and, Nat.reduceBEq, List.nodup_cons, List.not_mem_nil, List.nodup_nil, false_or, Bool.or_false, Bool.false_or, and_self, Int.reduceEq, Int.reduceNe, itB, itT, itL, i0, i1]
    rfl
  exact (exSs_cons s1).trans ((exSs_cons h).trans (exSs_ret (exS_ret (r := .s 1) rfl rfl)))
/-- how far boxes reach -/
def Fit (u : Box) : Prop := (cells u).length ≤ sizeLine ∧ u.length ≤ 1000 ∧ ∀ p ∈ u, -(2 ^ 60) < p.1 ∧ p.2 < 2 ^ 60
theorem sub_wide : ∀ {b u : Box}, Proper b → Sub b u → (∀ p ∈ u, -(2 ^ 60) < p.1 ∧ p.2 < 2 ^ 60) → ∀ p ∈ b, -(2 ^ 64) < p.2 - p.1 ∧ p.2 - p.1 < 2 ^ 64
  | [], [], _, _, _, p, hp => by simp at hp
  | q :: b, r :: u, hb, hs, h, p, hp => by
    obtain ⟨h1, h2, h3⟩ := hs
    have hr := h r List.mem_cons_self
    have := hb.hd
    rcases List.mem_cons.mp hp with rfl | hp
    · omega
    · exact sub_wide hb.tl h3 (fun z hz => h z (List.mem_cons_of_mem _ hz)) p hp
theorem x_volume (h3 : ∀ b : Box, (∀ p ∈ b, -(2 ^ 64) < p.2 - p.1 ∧ p.2 - p.1 < 2 ^ 64) → C.run 3 [(encB b, false)] = .ok (.int (vol b)) false [.none]) {u : Box} (hu : Fit u) (x : D) (bs : List Box) (h4 : C.run 4 [(x, false)] = .ok (encL (apart bs)) true [.none]) (hb : Ok u bs) :
    ev C x_volume_0 [some (x, .fz), none] = .ok (.o (.list ((apart bs).map fun b => .int (vol b)))) [some (x, .fz), none] := by
  obtain ⟨a1, a2⟩ := apart_ok hb
  refine (ev_lc (e2 := [some (x, .fz), none]) (ws := [.o (encL (apart bs))]) (ds := (apart bs).map encB) (y := (apart bs).map fun b => .int (vol b)) (e1 := [some (x, .fz), none]) rfl (by simp only [h4, andq, orq, negq, lockE_v, lockE_o, lockE_nil, wipeE_cons, wipeE_nil, backE_cons, backE_nil, unlockE_nil, evq_var, evq_con, evq_tup, evq_lst, evq_op, evq_chain, evq_and, evq_or, evq_ite, evq_call, evq_mth, evq_nil, evq_cons, evq_star, evq_val, evq_rng, evq_zip, exq_set, exq_unp, exq_par, exq_expr, exq_ret, exq_iff, exq_nil, exq_cons, opq_add, opq_sub, opq_mul, opq_mod, opq_fdiv, opq_neg, opq_lt, opq_le, opq_gt, opq_ge, opq_eqI, opq_neI, opq_eqB, opq_neB, opq_isN, opq_isnN, opq_isT, opq_isnT, opq_isB, opq_isnB, opq_truB, opq_not, opq_asI, opq_i0, opq_i1, opq_l0, opq_l1, opq_max2, opq_min2, opq_lenL, opq_lenT, opq_tupL, opq_tupT, opq_lstL, opq_lstT, opq_revL, opq_abs, opq_int, opq_addT, opq_addL, opq_sum, opq_min1, opq_max1, opq_slT, opq_slD, opq_slTL, rdq_v, rdq_o, rdq_s, rdsq_nil, rdsq_cons, tkq_v, tkq_o, tkq_s, tksq_nil, tksq_cons, itq_l, itq_t, setRq_v, setRq_o, setRq_s, retq_v, retq_o, retq_s, boolq, zipq, arg1q_v, arg1q_o, arg1q_s, callq, parKq_v, parKq_o, parKq_s, setRsq, isSq_v, isSq_o, isSq_s, mthq_append, mthq_extend, mthq_pop, lsq, bindq_nm, bindq_t, bindq_l, bindsq_nil, bindsq_cons, O.bind_ok, O.of_some, argD, ioSlots, backIo, slotsR, borrows, parL, setL, List.getElem?_cons_succ, List.getElem?_cons_zero, List.set_cons_succ, List.set_cons_zero, reduceIte, if_true, if_false, Bool.false_eq_true, Bool.not_true, Bool.not_false, true_and, and_true, true_or, or_true, decide_true, decide_false, ne_eq, not_false_eq_true, not_true_eq_false, Int.reduceAdd, Int.reduceSub, Int.reduceMul, List.append_nil, List.nil_append, List.cons_append, reduceCtorEq, List.length_cons, List.length_nil, Nat.reduceAdd, Nat.reduceLT, Nat.reduceLeDiff, sz0, sz1, sz2, sz3, sz4, sz5, slt0, Bool.and_true, Bool.true_and, Nat.reduceBEq, List.nodup_cons, List.not_mem_nil, List.nodup_nil, false_or, Bool.or_false, Bool.false_or, and_self, Int.reduceEq, Int.reduceNe, itB, itT, itL, i0, i1]) ?_ (by rw [List.length_map]; exact Nat.le_trans (a2.len a1) hu.1)).trans rfl
  refine turnsG_map _ _ rfl fun b hb => ⟨_, body_lcv (e3 := [some (x, .fz), some (encB b, .fz)]) rfl (?_ : _ = O.ok _ [some (x, .fz), some (encB b, .fz)]), rfl⟩
  have hr := h3 b (sub_wide (a1 b hb).1 (a1 b hb).2 hu.2.2)
  simp only [hr, andq, orq, negq, lockE_v, lockE_o, lockE_nil, wipeE_cons, wipeE_nil, backE_cons, backE_nil, unlockE_nil, evq_var, evq_con, evq_tup, evq_lst, evq_op, evq_chain, evq_and, evq_or, evq_ite, evq_call, evq_mth, evq_nil, evq_cons, evq_star, evq_val, evq_rng, evq_zip, exq_set, exq_unp, exq_par, exq_expr, exq_ret, exq_iff, exq_nil, exq_cons, opq_add, opq_sub, opq_mul, opq_mod, opq_fdiv, opq_neg, opq_lt, opq_le, opq_gt, opq_ge, opq_eqI, opq_neI, opq_eqB, opq_neB, opq_isN, opq_isnN, opq_isT, opq_isnT, opq_isB, opq_isnB, opq_truB, opq_not, opq_asI, opq_i0, opq_i1, opq_l0, opq_l1, opq_max2, opq_min2, opq_lenL, opq_lenT, opq_tupL, opq_tupT, opq_lstL, opq_lstT, opq_revL, opq_abs, opq_int, opq_addT, opq_addL, opq_sum, opq_min1, opq_max1, opq_slT, opq_slD, opq_slTL, rdq_v, rdq_o, rdq_s, rdsq_nil, rdsq_cons, tkq_v, tkq_o, tkq_s, tksq_nil, tksq_cons, itq_l, itq_t, setRq_v, setRq_o, setRq_s, retq_v, retq_o, retq_s, boolq, zipq, arg1q_v, arg1q_o, arg1q_s, callq, parKq_v, parKq_o, parKq_s, setRsq, isSq_v, isSq_o, isSq_s, mthq_append, mthq_extend, mthq_pop, lsq, bindq_nm, bindq_t, bindq_l, bindsq_nil, bindsq_cons, O.bind_ok, O.of_some, argD, ioSlots, backIo, slotsR, borrows, parL, setL, List.getElem?_cons_succ, List.getElem?_cons_zero, List.set_cons_succ, List.set_cons_zero, reduceIte, if_true, if_false, Bool.false_eq_true, Bool.not_true, Bool.not_false, true_and, and_true, true_or, or_true, decide_true, decide_false, ne_eq, not_false_eq_true, not_true_eq_false, Int.reduceAdd, Int.reduceSub, Int.reduceMul, List.append_nil, List.nil_append, List.cons_append, reduceCtorEq, List.length_cons, List.length_nil, Nat.reduceAdd, Nat.reduceLT, Nat.reduceLeDiff, sz0, sz1, sz2, sz3, sz4, sz5, slt0, Bool.and_true, Bool.true_and, Nat.reduceBEq, List.nodup_cons, List.not_mem_nil, List.nodup_nil, false_or, Bool.or_false, Bool.false_or, and_self, Int.reduceEq, Int.reduceNe, itB, itT, itL, i0, i1]
theorem run_volume (h3 : ∀ b : Box, (∀ p ∈ b, -(2 ^ 64) < p.2 - p.1 ∧ p.2 - p.1 < 2 ^ 64) → C.run 3 [(encB b, false)] = .ok (.int (vol b)) false [.none]) {u : Box} (hu : Fit u) (x : D) (bs : List Box) (h4 : C.run 4 [(x, false)] = .ok (encL (apart bs)) true [.none]) (hb : Ok u bs) :
    runFn C ⟨1, 2, b_volume⟩ [(x, false)] = .ok (.int (volume bs)) false [.none] := by
  have hx := x_volume h3 hu x bs h4 hb
  have hs := opq_sum ((apart bs).map vol)
  rw [List.map_map] at hs
  have hs : opO (.bi .sum) [.list ((apart bs).map fun b => .int (vol b))] = some (.v (.int (volume bs))) := hs
  refine runFn_ret [some (x, .fz), none] (env := [some (x, .fz), none]) rfl (by decide) rfl (exSs_ret (exS_ret (ev_op1 hx rfl hs) rfl)) rfl
/-- boxes told as a list or as a tuple -/
def BoxesD (x : D) (bs : List Box) : Prop := itemsOf x = some (bs.map encB)
theorem run_same {u : Box} (hu : Fit u) (h6 : ∀ (x : D) (bs : List Box), BoxesD x bs → Ok u bs → C.run 6 [(x, false)] = .ok (.int (volume bs)) false [.none]) (x y : D) (a b : List Box) (hx : BoxesD x a) (hy : BoxesD y b) (ha : Ok u a) (hb : Ok u b) (hl : a.length + b.length ≤ sizeLine) :
    runFn C ⟨2, 3, b_same_room⟩ [(x, false), (y, false)] = .ok (.bool (sameRoom a b)) false [.none, .none] := by
  unfold BoxesD at hx hy
  have v1 := h6 x a hx ha
  have v2 := h6 y b hy hb
  have v3 := h6 (.list (a.map encB ++ b.map encB)) (a ++ b) (by unfold BoxesD; rw [List.map_append]; rfl) (ha.app hb)
  have hlen : (a.map encB ++ b.map encB).length ≤ sizeLine := by simpa using hl
  have s1 : exS C (.set 2 false (.call 6 (.cons (.lst (.star (.var 0) (.star (.var 1) .nil))) .nil))) [some (x, .fz), some (y, .fz), none] = .ok .nx [some (x, .fz), some (y, .fz), some (.int (volume (a ++ b)), .fz)] := by
    simp only [hx, hy, tks_two, hlen, v3, andq, orq, negq, lockE_v, lockE_o, lockE_nil, wipeE_cons, wipeE_nil, backE_cons, backE_nil, unlockE_nil, evq_var, evq_con, evq_tup, evq_lst, evq_op, evq_chain, evq_and, evq_or, evq_ite, evq_call, evq_mth, evq_nil, evq_cons, evq_star, evq_val, evq_rng, evq_zip, exq_set, exq_unp, exq_par, exq_expr, exq_ret, exq_iff, exq_nil, exq_cons, opq_add, opq_sub, opq_mul, opq_mod, opq_fdiv, opq_neg, opq_lt, opq_le, opq_gt, opq_ge, opq_eqI, opq_neI, opq_eqB, opq_neB, opq_isN, opq_isnN, opq_isT, opq_isnT, opq_isB, opq_isnB, opq_truB, opq_not, opq_asI, opq_i0, opq_i1, opq_l0, opq_l1, opq_max2, opq_min2, opq_lenL, opq_lenT, opq_tupL, opq_tupT, opq_lstL, opq_lstT, opq_revL, opq_abs, opq_int, opq_addT, opq_addL, opq_sum, opq_min1, opq_max1, opq_slT, opq_slD, opq_slTL, rdq_v, rdq_o, rdq_s, rdsq_nil, rdsq_cons, tkq_v, tkq_o, tkq_s, tksq_nil, tksq_cons, itq_l, itq_t, setRq_v, setRq_o, setRq_s, retq_v, retq_o, retq_s, boolq, zipq, arg1q_v, arg1q_o, arg1q_s, callq, parKq_v, parKq_o, parKq_s, setRsq, isSq_v, isSq_o, isSq_s, mthq_append, mthq_extend, mthq_pop, lsq, bindq_nm, bindq_t, bindq_l, bindsq_nil, bindsq_cons, O.bind_ok, O.of_some, argD, ioSlots, backIo, slotsR, borrows, parL, setL, List.getElem?_cons_succ, List.getElem?_cons_zero, List.set_cons_succ, List.set_cons_zero, reduceIte, if_true, if_false, Bool.false_eq_true, Bool.not_true, Bool.not_false, true_and, and_true, true_or, or_true, decide_true, decide_false, ne_eq, not_false_eq_true, not_true_eq_false, Int.reduceAdd, Int.reduceSub, Int.reduceMul, List.append_nil, List.nil_append, List.cons_append, reduceCtorEq, List.length_cons, List.length_nil, Nat.reduceAdd, Nat.reduceLT, Nat.reduceLeDiff, sz0, sz1, sz2, sz3, sz4, sz5, slt0, Bool.and_true, Bool.true_and, Nat.reduceBEq, List.nodup_cons, List.not_mem_nil, List.nodup_nil, false_or, Bool.or_false, Bool.false_or, and_self, Int.reduceEq, Int.reduceNe, itB, itT, itL, i0, i1]
  refine runFn_ret [some (x, .fz), some (y, .fz), none] (env := [some (x, .fz), some (y, .fz), some (.int (volume (a ++ b)), .fz)]) rfl (by decide) rfl ((exSs_cons s1).trans (exSs_ret ?_)) rfl
  simp only [v1, v2, andq, orq, negq, lockE_v, lockE_o, lockE_nil, wipeE_cons, wipeE_nil, backE_cons, backE_nil, unlockE_nil, evq_var, evq_con, evq_tup, evq_lst, evq_op, evq_chain, evq_and, evq_or, evq_ite, evq_call, evq_mth, evq_nil, evq_cons, evq_star, evq_val, evq_rng, evq_zip, exq_set, exq_unp, exq_par, exq_expr, exq_ret, exq_iff, exq_nil, exq_cons, opq_add, opq_sub, opq_mul, opq_mod, opq_fdiv, opq_neg, opq_lt, opq_le, opq_gt, opq_ge, opq_eqI, opq_neI, opq_eqB, opq_neB, opq_isN, opq_isnN, opq_isT, opq_isnT, opq_isB, opq_isnB, opq_truB, opq_not, opq_asI, opq_i0, opq_i1, opq_l0, opq_l1, opq_max2, opq_min2, opq_lenL, opq_lenT, opq_tupL, opq_tupT, opq_lstL, opq_lstT, opq_revL, opq_abs, opq_int, opq_addT, opq_addL, opq_sum, opq_min1, opq_max1, opq_slT, opq_slD, opq_slTL, rdq_v, rdq_o, rdq_s, rdsq_nil, rdsq_cons, tkq_v, tkq_o, tkq_s, tksq_nil, tksq_cons, itq_l, itq_t, setRq_v, setRq_o, setRq_s, retq_v, retq_o, retq_s, boolq, zipq, arg1q_v, arg1q_o, arg1q_s, callq, parKq_v, parKq_o, parKq_s, setRsq, isSq_v, isSq_o, isSq_s, mthq_append, mthq_extend, mthq_pop, lsq, bindq_nm, bindq_t, bindq_l, bindsq_nil, bindsq_cons, O.bind_ok, O.of_some, argD, ioSlots, backIo, slotsR, borrows, parL, setL, List.getElem?_cons_succ, List.getElem?_cons_zero, List.set_cons_succ, List.set_cons_zero, reduceIte, if_true, if_false, Bool.false_eq_true, Bool.not_true, Bool.not_false, true_and, and_true, true_or, or_true, decide_true, decide_false, ne_eq, not_false_eq_true, not_true_eq_false, Int.reduceAdd, Int.reduceSub, Int.reduceMul, List.append_nil, List.nil_append, List.cons_append, reduceCtorEq, List.length_cons, List.length_nil, Nat.reduceAdd, Nat.reduceLT, Nat.reduceLeDiff, sz0, sz1, sz2, sz3, sz4, sz5, slt0, Bool.and_true, Bool.true_and, Nat.reduceBEq, List.nodup_cons, List.not_mem_nil, List.nodup_nil, false_or, Bool.or_false, Bool.false_or, and_self, Int.reduceEq, Int.reduceNe, itB, itT, itL, i0, i1]
  rfl
end
end K8
set_option maxRecDepth 100000
-- ex: itB, itT, itL, i0, i1
namespace K8
open Mi Bx PySem
theorem min_some {l : List Int} (h : l ≠ []) : l.min? = some (l.min?.getD 0) := by
  cases e : l.min? with
  | none => exact absurd (List.min?_eq_none_iff.mp e) h
  | some m => rfl
theorem max_some {l : List Int} (h : l ≠ []) : l.max? = some (l.max?.getD 0) := by
  cases e : l.max? with
  | none => exact absurd (List.max?_eq_none_iff.mp e) h
  | some m => rfl
theorem getD_at {b : Box} {a : Nat} (h : a < b.length) : b.getD a (0, 0) = b[a] := by simp [h]
section
variable {C : Den}
theorem x_hull0 (x : D) (bs : List Box) (hx : BoxesD x bs) (e1 : Slot) (a : Nat) (hb : ∀ b ∈ bs, a < b.length) (hl : bs.length ≤ sizeLine) : ev C x_hull_0 [some (x, .fz), e1, some (.int a, .fz), none] = .ok (.o (.list ((loA a bs).map .int))) [some (x, .fz), e1, some (.int a, .fz), none] := by
  unfold BoxesD at hx
  refine (ev_lc (e2 := [some (x, .fz), e1, some (.int a, .fz), none]) (ws := [.v x]) (ds := bs.map encB) (y := (loA a bs).map .int) (e1 := [some (x, .fz), e1, some (.int a, .fz), none]) rfl (by simp only [hx, andq, orq, negq, lockE_v, lockE_o, lockE_nil, wipeE_cons, wipeE_nil, backE_cons, backE_nil, unlockE_nil, evq_var, evq_con, evq_tup, evq_lst, evq_op, evq_chain, evq_and, evq_or, evq_ite, evq_call, evq_mth, evq_nil, evq_cons, evq_star, evq_val, evq_rng, evq_zip, exq_set, exq_unp, exq_par, exq_expr, exq_ret, exq_iff, exq_nil, exq_cons, opq_add, opq_sub, opq_mul, opq_mod, opq_fdiv, opq_neg, opq_lt, opq_le, opq_gt, opq_ge, opq_eqI, opq_neI, opq_eqB, opq_neB, opq_isN, opq_isnN, opq_isT, opq_isnT, opq_isB, opq_isnB, opq_truB, opq_not, opq_asI, opq_i0, opq_i1, opq_l0, opq_l1, opq_max2, opq_min2, opq_lenL, opq_lenT, opq_tupL, opq_tupT, opq_lstL, opq_lstT, opq_revL, opq_abs, opq_int, opq_addT, opq_addL, opq_sum, opq_min1, opq_max1, opq_slT, opq_slD, opq_slTL, rdq_v, rdq_o, rdq_s, rdsq_nil, rdsq_cons, tkq_v, tkq_o, tkq_s, tksq_nil, tksq_cons, itq_l, itq_t, setRq_v, setRq_o, setRq_s, retq_v, retq_o, retq_s, boolq, zipq, arg1q_v, arg1q_o, arg1q_s, callq, parKq_v, parKq_o, parKq_s, setRsq, isSq_v, isSq_o, isSq_s, mthq_append, mthq_extend, mthq_pop, lsq, bindq_nm, bindq_t, bindq_l, bindsq_nil, bindsq_cons, O.bind_ok, O.of_some, argD, ioSlots, backIo, slotsR, borrows, parL, setL, List.getElem?_cons_succ, List.getElem?_cons_zero, List.set_cons_succ, List.set_cons_zero, reduceIte, if_true, if_false, Bool.false_eq_true, Bool.not_true, Bool.not_false, true_and, and_true, true_or, or_true, decide_true, decide_false, ne_eq, not_false_eq_true, not_true_eq_false, Int.reduceAdd, Int.reduceSub, Int.reduceMul, List.append_nil, List.nil_append, List.cons_append, reduceCtorEq, List.length_cons, List.length_nil, Nat.reduceAdd, Nat.reduceLT, Nat.reduceLeDiff, sz0, sz1, sz2, sz3, sz4, sz5, slt0, Bool.and_true, Bool.true_and, Nat.reduceBEq, List.nodup_cons, List.not_mem_nil, List.nodup_nil, false_or, Bool.or_false, Bool.false_or, and_self, Int.reduceEq, Int.reduceNe, itB, itT, itL, i0, i1]) ?_ (by simp [loA]; exact hl)).trans rfl
  rw [show (loA a bs).map PyData.int = bs.map fun b => .int (b.getD a (0, 0)).1 by simp [loA]]
  refine turnsG_map _ _ rfl fun b h => ⟨_, body_lcv (e3 := [some (x, .fz), e1, some (.int a, .fz), some (encB b, .fz)]) rfl (?_ : _ = O.ok _ [some (x, .fz), e1, some (.int a, .fz), some (encB b, .fz)]), rfl⟩
  rw [getD_at (hb b h)]
  simp only [ixB (hb b h), andq, orq, negq, lockE_v, lockE_o, lockE_nil, wipeE_cons, wipeE_nil, backE_cons, backE_nil, unlockE_nil, evq_var, evq_con, evq_tup, evq_lst, evq_op, evq_chain, evq_and, evq_or, evq_ite, evq_call, evq_mth, evq_nil, evq_cons, evq_star, evq_val, evq_rng, evq_zip, exq_set, exq_unp, exq_par, exq_expr, exq_ret, exq_iff, exq_nil, exq_cons, opq_add, opq_sub, opq_mul, opq_mod, opq_fdiv, opq_neg, opq_lt, opq_le, opq_gt, opq_ge, opq_eqI, opq_neI, opq_eqB, opq_neB, opq_isN, opq_isnN, opq_isT, opq_isnT, opq_isB, opq_isnB, opq_truB, opq_not, opq_asI, opq_i0, opq_i1, opq_l0, opq_l1, opq_max2, opq_min2, opq_lenL, opq_lenT, opq_tupL, opq_tupT, opq_lstL, opq_lstT, opq_revL, opq_abs, opq_int, opq_addT, opq_addL, opq_sum, opq_min1, opq_max1, opq_slT, opq_slD, opq_slTL, rdq_v, rdq_o, rdq_s, rdsq_nil, rdsq_cons, tkq_v, tkq_o, tkq_s, tksq_nil, tksq_cons, itq_l, itq_t, setRq_v, setRq_o, setRq_s, retq_v, retq_o, retq_s, boolq, zipq, arg1q_v, arg1q_o, arg1q_s, callq, parKq_v, parKq_o, parKq_s, setRsq, isSq_v, isSq_o, isSq_s, mthq_append, mthq_extend, mthq_pop, lsq, bindq_nm, bindq_t, bindq_l, bindsq_nil, bindsq_cons, O.bind_ok, O.of_some, argD, ioSlots, backIo, slotsR, borrows, parL, setL, List.getElem?_cons_succ, List.getElem?_cons_zero, List.set_cons_succ, List.set_cons_zero, reduceIte, if_true, if_false, Bool.false_eq_true, Bool.not_true, Bool.not_false, true_and, and_true, true_or, or_true, decide_true, decide_false, ne_eq, not_false_eq_true, not_true_eq_false, Int.reduceAdd, Int.reduceSub, Int.reduceMul, List.append_nil, List.nil_append, List.cons_append, reduceCtorEq, List.length_cons, List.length_nil, Nat.reduceAdd, Nat.reduceLT, Nat.reduceLeDiff, sz0, sz1, sz2, sz3, sz4, sz5, slt0, Bool.and_true, Bool.true_and, Nat.reduceBEq, List.nodup_cons, List.not_mem_nil, List.nodup_nil, false_or, Bool.or_false, Bool.false_or, and_self, Int.reduceEq, Int.reduceNe, itB, itT, itL, i0, i1]
theorem x_hull1 (x : D) (bs : List Box) (hx : BoxesD x bs) (e1 : Slot) (a : Nat) (hb : ∀ b ∈ bs, a < b.length) (hl : bs.length ≤ sizeLine) : ev C x_hull_1 [some (x, .fz), e1, some (.int a, .fz), none] = .ok (.o (.list ((hiA a bs).map .int))) [some (x, .fz), e1, some (.int a, .fz), none] := by
  unfold BoxesD at hx
  refine (ev_lc (e2 := [some (x, .fz), e1, some (.int a, .fz), none]) (ws := [.v x]) (ds := bs.map encB) (y := (hiA a bs).map .int) (e1 := [some (x, .fz), e1, some (.int a, .fz), none]) rfl (by simp only [hx, andq, orq, negq, lockE_v, lockE_o, lockE_nil, wipeE_cons, wipeE_nil, backE_cons, backE_nil, unlockE_nil, evq_var, evq_con, evq_tup, evq_lst, evq_op, evq_chain, evq_and, evq_or, evq_ite, evq_call, evq_mth, evq_nil, evq_cons, evq_star, evq_val, evq_rng, evq_zip, exq_set, exq_unp, exq_par, exq_expr, exq_ret, exq_iff, exq_nil, exq_cons, opq_add, opq_sub, opq_mul, opq_mod, opq_fdiv, opq_neg, opq_lt, opq_le, opq_gt, opq_ge, opq_eqI, opq_neI, opq_eqB, opq_neB, opq_isN, opq_isnN, opq_isT, opq_isnT, opq_isB, opq_isnB, opq_truB, opq_not, opq_asI, opq_i0, opq_i1, opq_l0, opq_l1, opq_max2, opq_min2, opq_lenL, opq_lenT, opq_tupL, opq_tupT, opq_lstL, opq_lstT, opq_revL, opq_abs, opq_int, opq_addT, opq_addL, opq_sum, opq_min1, opq_max1, opq_slT, opq_slD, opq_slTL, rdq_v, rdq_o, rdq_s, rdsq_nil, rdsq_cons, tkq_v, tkq_o, tkq_s, tksq_nil, tksq_cons, itq_l, itq_t, setRq_v, setRq_o, setRq_s, retq_v, retq_o, retq_s, boolq, zipq, arg1q_v, arg1q_o, arg1q_s, callq, parKq_v, parKq_o, parKq_s, setRsq, isSq_v, isSq_o, isSq_s, mthq_append, mthq_extend, mthq_pop, lsq, bindq_nm, bindq_t, bindq_l, bindsq_nil, bindsq_cons, O.bind_ok, O.of_some, argD, ioSlots, backIo, slotsR, borrows, parL, setL, List.getElem?_cons_succ, List.getElem?_cons_zero, List.set_cons_succ, List.set_cons_zero, reduceIte, if_true, if_false, Bool.false_eq_true, Bool.not_true, Bool.not_false, true_and, and_true, true_or, or_true, decide_true, decide_false, ne_eq, not_false_eq_true, not_true_eq_false, Int.reduceAdd, Int.reduceSub, Int.reduceMul, List.append_nil, List.nil_append, List.cons_append, reduceCtorEq, List.length_cons, List.length_nil, Nat.reduceAdd, Nat.reduceLT, Nat.reduceLeDiff, sz0, sz1, sz2, sz3, sz4, sz5, slt0, Bool.and_true, Bool.true_and, Nat.reduceBEq, List.nodup_cons, List.not_mem_nil, List.nodup_nil, false_or, Bool.or_false, Bool.false_or, and_self, Int.reduceEq, Int.reduceNe, itB, itT, itL, i0, i1]) ?_ (by simp [hiA]; exact hl)).trans rfl
  rw [show (hiA a bs).map PyData.int = bs.map fun b => .int (b.getD a (0, 0)).2 by simp [hiA]]
  refine turnsG_map _ _ rfl fun b h => ⟨_, body_lcv (e3 := [some (x, .fz), e1, some (.int a, .fz), some (encB b, .fz)]) rfl (?_ : _ = O.ok _ [some (x, .fz), e1, some (.int a, .fz), some (encB b, .fz)]), rfl⟩
  rw [getD_at (hb b h)]
  simp only [ixB (hb b h), andq, orq, negq, lockE_v, lockE_o, lockE_nil, wipeE_cons, wipeE_nil, backE_cons, backE_nil, unlockE_nil, evq_var, evq_con, evq_tup, evq_lst, evq_op, evq_chain, evq_and, evq_or, evq_ite, evq_call, evq_mth, evq_nil, evq_cons, evq_star, evq_val, evq_rng, evq_zip, exq_set, exq_unp, exq_par, exq_expr, exq_ret, exq_iff, exq_nil, exq_cons, opq_add, opq_sub, opq_mul, opq_mod, opq_fdiv, opq_neg, opq_lt, opq_le, opq_gt, opq_ge, opq_eqI, opq_neI, opq_eqB, opq_neB, opq_isN, opq_isnN, opq_isT, opq_isnT, opq_isB, opq_isnB, opq_truB, opq_not, opq_asI, opq_i0, opq_i1, opq_l0, opq_l1, opq_max2, opq_min2, opq_lenL, opq_lenT, opq_tupL, opq_tupT, opq_lstL, opq_lstT, opq_revL, opq_abs, opq_int, opq_addT, opq_addL, opq_sum, opq_min1, opq_max1, opq_slT, opq_slD, opq_slTL, rdq_v, rdq_o, rdq_s, rdsq_nil, rdsq_cons, tkq_v, tkq_o, tkq_s, tksq_nil, tksq_cons, itq_l, itq_t, setRq_v, setRq_o, setRq_s, retq_v, retq_o, retq_s, boolq, zipq, arg1q_v, arg1q_o, arg1q_s, callq, parKq_v, parKq_o, parKq_s, setRsq, isSq_v, isSq_o, isSq_s, mthq_append, mthq_extend, mthq_pop, lsq, bindq_nm, bindq_t, bindq_l, bindsq_nil, bindsq_cons, O.bind_ok, O.of_some, argD, ioSlots, backIo, slotsR, borrows, parL, setL, List.getElem?_cons_succ, List.getElem?_cons_zero, List.set_cons_succ, List.set_cons_zero, reduceIte, if_true, if_false, Bool.false_eq_true, Bool.not_true, Bool.not_false, true_and, and_true, true_or, or_true, decide_true, decide_false, ne_eq, not_false_eq_true, not_true_eq_false, Int.reduceAdd, Int.reduceSub, Int.reduceMul, List.append_nil, List.nil_append, List.cons_append, reduceCtorEq, List.length_cons, List.length_nil, Nat.reduceAdd, Nat.reduceLT, Nat.reduceLeDiff, sz0, sz1, sz2, sz3, sz4, sz5, slt0, Bool.and_true, Bool.true_and, Nat.reduceBEq, List.nodup_cons, List.not_mem_nil, List.nodup_nil, false_or, Bool.or_false, Bool.false_or, and_self, Int.reduceEq, Int.reduceNe, itB, itT, itL, i0, i1]
theorem run_hull (bs : List Box) (n : Nat) (hne : bs ≠ []) (hb : ∀ b ∈ bs, b.length = n) (hl : bs.length ≤ sizeLine) (hn : n ≤ 1000) : runFn C ⟨1, 4, b_hull⟩ [(encT bs, false)] = .ok (encB (hullB n bs)) false [.none] := by
  obtain ⟨b0, r, rfl⟩ : ∃ b0 r, bs = b0 :: r := by
    cases bs with
    | nil => exact absurd rfl hne
    | cons b r => exact ⟨b, r, rfl⟩
  have hi0 : opO .idx [encT (b0 :: r), .int 0] = some (.v (encB b0)) := opq_i0 _ _
  have h0 : b0.length = n := hb b0 List.mem_cons_self
  generalize hB : b0 :: r = bs at *
  have hx : BoxesD (encT bs) bs := rfl
  obtain ⟨e2, k1, t, rfl⟩ := for_rng (C := C) (p := .nm 2) (it := .rng (.cons (.op (.bi .len) (.cons (.op .idx (.cons (.var 0) (.cons (.con (.int 0)) .nil))) .nil)) .nil)) (b := fb_hull_0) (n := n) (ws := []) (env := [some (encT bs, .fz), some (.list [], .ow), none, none]) (e1 := [some (encT bs, .fz), some (.list [], .ow), none, none]) (evIt_rng1 (n := n) (r := .v (.int n)) (by simp only [hi0, lenB, h0, andq, orq, negq, lockE_v, lockE_o, lockE_nil, wipeE_cons, wipeE_nil, backE_cons, backE_nil, unlockE_nil, evq_var, evq_con, evq_tup, evq_lst, evq_op, evq_chain, evq_and, evq_or, evq_ite, evq_call, evq_mth, evq_nil, evq_cons, evq_star, evq_val, evq_rng, evq_zip, exq_set, exq_unp, exq_par, exq_expr, exq_ret, exq_iff, exq_nil, exq_cons, opq_add, opq_sub, opq_mul, opq_mod, opq_fdiv, opq_neg, opq_lt, opq_le, opq_gt, opq_ge, opq_eqI, opq_neI, opq_eqB, opq_neB, opq_isN, opq_isnN, opq_isT, opq_isnT, opq_isB, opq_isnB, opq_truB, opq_not, opq_asI, opq_i0, opq_i1, opq_l0, opq_l1, opq_max2, opq_min2, opq_lenL, opq_lenT, opq_tupL, opq_tupT, opq_lstL, opq_lstT, opq_revL, opq_abs, opq_int, opq_addT, opq_addL, opq_sum, opq_min1, opq_max1, opq_slT, opq_slD, opq_slTL, rdq_v, rdq_o, rdq_s, rdsq_nil, rdsq_cons, tkq_v, tkq_o, tkq_s, tksq_nil, tksq_cons, itq_l, itq_t, setRq_v, setRq_o, setRq_s, retq_v, retq_o, retq_s, boolq, zipq, arg1q_v, arg1q_o, arg1q_s, callq, parKq_v, parKq_o, parKq_s, setRsq, isSq_v, isSq_o, isSq_s, mthq_append, mthq_extend, mthq_pop, lsq, bindq_nm, bindq_t, bindq_l, bindsq_nil, bindsq_cons, O.bind_ok, O.of_some, argD, ioSlots, backIo, slotsR, borrows, parL, setL, List.getElem?_cons_succ, List.getElem?_cons_zero, List.set_cons_succ, List.set_cons_zero, reduceIte, if_true, if_false, Bool.false_eq_true, Bool.not_true, Bool.not_false, true_and, and_true, true_or, or_true, decide_true, decide_false, ne_eq, not_false_eq_true, not_true_eq_false, Int.reduceAdd, Int.reduceSub, Int.reduceMul, List.append_nil, List.nil_append, List.cons_append, reduceCtorEq, List.length_cons, List.length_nil, Nat.reduceAdd, Nat.reduceLT, Nat.reduceLeDiff, sz0, sz1, sz2, sz3, sz4, sz5, slt0, Bool.and_true, Bool.true_and, Nat.reduceBEq, List.nodup_cons, List.not_mem_nil, List.nodup_nil, false_or, Bool.or_false, Bool.false_or, and_self, Int.reduceEq, Int.reduceNe, itB, itT, itL, i0, i1]) rfl (by omega)) (fun i e => ∃ t, e = [some (encT bs, .fz), some (.list (((hullB n bs).take i).map encI), .ow), t, none]) ⟨none, rfl⟩ (fun _ _ _ => rfl) (fun i e hi h => by
    obtain ⟨t, rfl⟩ := h
    have c1 := x_hull0 (C := C) (encT bs) bs hx (some (.list (((hullB n bs).take i).map encI), .ow)) i (fun b h => by rw [hb b h]; exact hi) hl
    have c2 := x_hull1 (C := C) (encT bs) bs hx (some (.list (((hullB n bs).take i).map encI), .ow)) i (fun b h => by rw [hb b h]; exact hi) hl
    have m1 := opq_min1 (loA i bs)
    have m2 := opq_max1 (hiA i bs)
    rw [min_some (lo_ne hne)] at m1
    rw [max_some (hi_ne hne)] at m2
    have hlen : (((hullB n bs).take i).map encI).length < sizeLine := by
      rw [List.length_map, List.length_take, hull_len]
      unfold sizeLine
      omega
    have ht : ((hullB n bs).take (i + 1)).map encI = ((hullB n bs).take i).map encI ++ [encI ((loA i bs).min?.getD 0, (hiA i bs).max?.getD 0)] := by
      have hi' : i < (hullB n bs).length := by rw [hull_len]; exact hi
      rw [← List.take_append_getElem hi', List.map_append]
      congr 2
      simp only [List.map_cons, List.map_nil]
      congr 2
      simp [hullB]
    refine ⟨[some (encT bs, .fz), some (.list (((hullB n bs).take i).map encI), .ow), some (.int i, .fz), none], [some (encT bs, .fz), some (.list (((hullB n bs).take (i + 1)).map encI), .ow), some (.int i, .fz), none], rfl, ?_, _, rfl⟩
    rw [ht]
    generalize ((hullB n bs).take i).map encI = L at hlen c1 c2 ⊢
    simp only [fb_hull_0, c1, c2, m1, m2, Option.map_some, hlen, encI_eq, andq, orq, negq, lockE_v, lockE_o, lockE_nil, wipeE_cons, wipeE_nil, backE_cons, backE_nil, unlockE_nil, evq_var, evq_con, evq_tup, evq_lst, evq_op, evq_chain, evq_and, evq_or, evq_ite, evq_call, evq_mth, evq_nil, evq_cons, evq_star, evq_val, evq_rng, evq_zip, exq_set, exq_unp, exq_par, exq_expr, exq_ret, exq_iff, exq_nil, exq_cons, opq_add, opq_sub, opq_mul, opq_mod, opq_fdiv, opq_neg, opq_lt, opq_le, opq_gt, opq_ge, opq_eqI, opq_neI, opq_eqB, opq_neB, opq_isN, opq_isnN, opq_isT, opq_isnT, opq_isB, opq_isnB, opq_truB, opq_not, opq_asI, opq_i0, opq_i1, opq_l0, opq_l1, opq_max2, opq_min2, opq_lenL, opq_lenT, opq_tupL, opq_tupT, opq_lstL, opq_lstT, opq_revL, opq_abs, opq_int, opq_addT, opq_addL, opq_sum, opq_min1, opq_max1, opq_slT, opq_slD, opq_slTL, rdq_v, rdq_o, rdq_s, rdsq_nil, rdsq_cons, tkq_v, tkq_o, tkq_s, tksq_nil, tksq_cons, itq_l, itq_t, setRq_v, setRq_o, setRq_s, retq_v, retq_o, retq_s, boolq, zipq, arg1q_v, arg1q_o, arg1q_s, callq, parKq_v, parKq_o, parKq_s, setRsq, isSq_v, isSq_o, isSq_s, mthq_append, mthq_extend, mthq_pop, lsq, bindq_nm, bindq_t, bindq_l, bindsq_nil, bindsq_cons, O.bind_ok, O.of_some, argD, ioSlots, backIo, slotsR, borrows, parL, setL, List.getElem?_cons_succ, List.getElem?_cons_zero, List.set_cons_succ, List.set_cons_zero, reduceIte, if_true, if_false, Bool.false_eq_true, Bool.not_true, Bool.not_false, true_and, and_true, true_or, or_true, decide_true, decide_false, ne_eq, not_false_eq_true, not_true_eq_false, Int.reduceAdd, Int.reduceSub, Int.reduceMul, List.append_nil, List.nil_append, List.cons_append, reduceCtorEq, List.length_cons, List.length_nil, Nat.reduceAdd, Nat.reduceLT, Nat.reduceLeDiff, sz0, sz1, sz2, sz3, sz4, sz5, slt0, Bool.and_true, Bool.true_and, Nat.reduceBEq, List.nodup_cons, List.not_mem_nil, List.nodup_nil, false_or, Bool.or_false, Bool.false_or, and_self, Int.reduceEq, Int.reduceNe, itB, itT, itL, i0, i1])
  rw [List.take_of_length_le (by rw [hull_len]; exact Nat.le_refl _)] at k1
  refine runFn_ret [some (encT bs, .fz), none, none, none] (env := [some (encT bs, .fz), some (.list ((hullB n bs).map encI), .ow), t, none]) rfl (by decide) rfl ((exSs_cons (e1 := [some (encT bs, .fz), some (.list [], .ow), none, none]) (by simp only [andq, orq, negq, lockE_v, lockE_o, lockE_nil, wipeE_cons, wipeE_nil, backE_cons, backE_nil, unlockE_nil, evq_var, evq_con, evq_tup, evq_lst, evq_op, evq_chain, evq_and, evq_or, evq_ite, evq_call, evq_mth, evq_nil, evq_cons, evq_star, evq_val, evq_rng, evq_zip, exq_set, exq_unp, exq_par, exq_expr, exq_ret, exq_iff, exq_nil, exq_cons, opq_add, opq_sub, opq_mul, opq_mod, opq_fdiv, opq_neg, opq_lt, opq_le, opq_gt, opq_ge, opq_eqI, opq_neI, opq_eqB, opq_neB, opq_isN, opq_isnN, opq_isT, opq_isnT, opq_isB, opq_isnB, opq_truB, opq_not, opq_asI, opq_i0, opq_i1, opq_l0, opq_l1, opq_max2, opq_min2, opq_lenL, opq_lenT, opq_tupL, opq_tupT, opq_lstL, opq_lstT, opq_revL, opq_abs, opq_int, opq_addT, opq_addL, opq_sum, opq_min1, opq_max1, opq_slT, opq_slD, opq_slTL, rdq_v, rdq_o, rdq_s, rdsq_nil, rdsq_cons, tkq_v, tkq_o, tkq_s, tksq_nil, tksq_cons, itq_l, itq_t, setRq_v, setRq_o, setRq_s, retq_v, retq_o, retq_s, boolq, zipq, arg1q_v, arg1q_o, arg1q_s, callq, parKq_v, parKq_o, parKq_s, setRsq, isSq_v, isSq_o, isSq_s, mthq_append, mthq_extend, mthq_pop, lsq, bindq_nm, bindq_t, bindq_l, bindsq_nil, bindsq_cons, O.bind_ok, O.of_some, argD, ioSlots, backIo, slotsR, borrows, parL, setL, List.getElem?_cons_succ, List.getElem?_cons_zero, List.set_cons_succ, List.set_cons_zero, reduceIte, if_true, if_false, Bool.false_eq_true, Bool.not_true, Bool.not_false, true_and, and_true, true_or, or_true, decide_true, decide_false, ne_eq, not_false_eq_true, not_true_eq_false, Int.reduceAdd, Int.reduceSub, Int.reduceMul, List.append_nil, List.nil_append, List.cons_append, reduceCtorEq, List.length_cons, List.length_nil, Nat.reduceAdd, Nat.reduceLT, Nat.reduceLeDiff, sz0, sz1, sz2, sz3, sz4, sz5, slt0, Bool.and_true, Bool.true_and, Nat.reduceBEq, List.nodup_cons, List.not_mem_nil, List.nodup_nil, false_or, Bool.or_false, Bool.false_or, and_self, Int.reduceEq, Int.reduceNe, itB, itT, itL, i0, i1])).trans ((exSs_cons k1).trans (exSs_ret (exS_ret (ev_op1 (r := .s 1) (d := .list ((hullB n bs).map encI)) rfl rfl (opq_tupL _)) rfl)))) rfl
def encB0 (b : Box) : D := .list (b.map encI)
def takeV (ns : List Int) (m : Int) : Int := if ns = [] then 0 else (ns.getLast?.getD 0).fmod m
theorem takeV_ok (ns : List Int) {m : Int} (h : 0 < m) : 0 ≤ takeV ns m ∧ takeV ns m < m := by
  unfold takeV
  split
  · omega
  · exact ⟨Int.fmod_nonneg_of_pos _ h, Int.fmod_lt_of_pos _ h⟩
theorem run_take (ns : List Int) (m : Int) (h : m ≠ 0) : runFn C ⟨2, 2, b_law_take⟩ [(.list (ns.map .int), true), (.int m, false)] = .ok (.int (takeV ns m)) false [.list (ns.dropLast.map .int), .none] := by
  refine runFn_ret [some (.list (ns.map .int), .io), some (.int m, .fz)] (env := [some (.list (ns.dropLast.map .int), .io), some (.int m, .fz)]) rfl (by decide) rfl ?_ rfl
  cases hn : ns with
  | nil =>
    simp only [b_law_take, List.map_nil, Int.natCast_zero, andq, orq, negq, lockE_v, lockE_o, lockE_nil, wipeE_cons, wipeE_nil, backE_cons, backE_nil, unlockE_nil, evq_var, evq_con, evq_tup, evq_lst, evq_op, evq_chain, evq_and, evq_or, evq_ite, evq_call, evq_mth, evq_nil, evq_cons, evq_star, evq_val, evq_rng, evq_zip, exq_set, exq_unp, exq_par, exq_expr, exq_ret, exq_iff, exq_nil, exq_cons, opq_add, opq_sub, opq_mul, opq_mod, opq_fdiv, opq_neg, opq_lt, opq_le, opq_gt, opq_ge, opq_eqI, opq_neI, opq_eqB, opq_neB, opq_isN, opq_isnN, opq_isT, opq_isnT, opq_isB, opq_isnB, opq_truB, opq_not, opq_asI, opq_i0, opq_i1, opq_l0, opq_l1, opq_max2, opq_min2, opq_lenL, opq_lenT, opq_tupL, opq_tupT, opq_lstL, opq_lstT, opq_revL, opq_abs, opq_int, opq_addT, opq_addL, opq_sum, opq_min1, opq_max1, opq_slT, opq_slD, opq_slTL, rdq_v, rdq_o, rdq_s, rdsq_nil, rdsq_cons, tkq_v, tkq_o, tkq_s, tksq_nil, tksq_cons, itq_l, itq_t, setRq_v, setRq_o, setRq_s, retq_v, retq_o, retq_s, boolq, zipq, arg1q_v, arg1q_o, arg1q_s, callq, parKq_v, parKq_o, parKq_s, setRsq, isSq_v, isSq_o, isSq_s, mthq_append, mthq_extend, mthq_pop, lsq, bindq_nm, bindq_t, bindq_l, bindsq_nil, bindsq_cons, O.bind_ok, O.of_some, argD, ioSlots, backIo, slotsR, borrows, parL, setL, List.getElem?_cons_succ, List.getElem?_cons_zero, List.set_cons_succ, List.set_cons_zero, reduceIte, if_true, if_false, Bool.false_eq_true, Bool.not_true, Bool.not_false, true_and, and_true, true_or, or_true, decide_true, decide_false, ne_eq, not_false_eq_true, not_true_eq_false, Int.reduceAdd, Int.reduceSub, Int.reduceMul, List.append_nil, List.nil_append, List.cons_append, reduceCtorEq, List.length_cons, List.length_nil, Nat.reduceAdd, Nat.reduceLT, Nat.reduceLeDiff, sz0, sz1, sz2, sz3, sz4, sz5, slt0, Bool.and_true, Bool.true_and, Nat.reduceBEq, List.nodup_cons, List.not_mem_nil, List.nodup_nil, false_or, Bool.or_false, Bool.false_or, and_self, Int.reduceEq, Int.reduceNe, itB, itT, itL, i0, i1]
    rfl
  | cons n r =>
    have hz : ((n :: r).map PyData.int).length ≠ 0 := by simp
    have hd : decide ((((n :: r).map PyData.int).length : Int) = 0) = false := by
      apply decide_eq_false
      simp
      omega
    have hg : ((n :: r).map PyData.int).getLast? = some (.int (((n :: r).getLast?).getD 0)) := by
      rw [List.getLast?_map]
      simp [List.getLast?_cons]
    have hdl : ((n :: r).map PyData.int).dropLast = (n :: r).dropLast.map PyData.int := (List.map_dropLast).symm
    have htv : takeV (n :: r) m = (((n :: r).getLast?).getD 0).fmod m := by simp [takeV]
    rw [htv, ← hdl]
    generalize (n :: r).getLast?.getD 0 = z at *
    generalize ((n :: r).map PyData.int) = L at *
    simp only [b_law_take, hd, hg, h, or_true, decide_not, Bool.not_false, andq, orq, negq, lockE_v, lockE_o, lockE_nil, wipeE_cons, wipeE_nil, backE_cons, backE_nil, unlockE_nil, evq_var, evq_con, evq_tup, evq_lst, evq_op, evq_chain, evq_and, evq_or, evq_ite, evq_call, evq_mth, evq_nil, evq_cons, evq_star, evq_val, evq_rng, evq_zip, exq_set, exq_unp, exq_par, exq_expr, exq_ret, exq_iff, exq_nil, exq_cons, opq_add, opq_sub, opq_mul, opq_mod, opq_fdiv, opq_neg, opq_lt, opq_le, opq_gt, opq_ge, opq_eqI, opq_neI, opq_eqB, opq_neB, opq_isN, opq_isnN, opq_isT, opq_isnT, opq_isB, opq_isnB, opq_truB, opq_not, opq_asI, opq_i0, opq_i1, opq_l0, opq_l1, opq_max2, opq_min2, opq_lenL, opq_lenT, opq_tupL, opq_tupT, opq_lstL, opq_lstT, opq_revL, opq_abs, opq_int, opq_addT, opq_addL, opq_sum, opq_min1, opq_max1, opq_slT, opq_slD, opq_slTL, rdq_v, rdq_o, rdq_s, rdsq_nil, rdsq_cons, tkq_v, tkq_o, tkq_s, tksq_nil, tksq_cons, itq_l, itq_t, setRq_v, setRq_o, setRq_s, retq_v, retq_o, retq_s, boolq, zipq, arg1q_v, arg1q_o, arg1q_s, callq, parKq_v, parKq_o, parKq_s, setRsq, isSq_v, isSq_o, isSq_s, mthq_append, mthq_extend, mthq_pop, lsq, bindq_nm, bindq_t, bindq_l, bindsq_nil, bindsq_cons, O.bind_ok, O.of_some, argD, ioSlots, backIo, slotsR, borrows, parL, setL, List.getElem?_cons_succ, List.getElem?_cons_zero, List.set_cons_succ, List.set_cons_zero, reduceIte, if_true, if_false, Bool.false_eq_true, Bool.not_true, Bool.not_false, true_and, and_true, true_or, or_true, decide_true, decide_false, ne_eq, not_false_eq_true, not_true_eq_false, Int.reduceAdd, Int.reduceSub, Int.reduceMul, List.append_nil, List.nil_append, List.cons_append, reduceCtorEq, List.length_cons, List.length_nil, Nat.reduceAdd, Nat.reduceLT, Nat.reduceLeDiff, sz0, sz1, sz2, sz3, sz4, sz5, slt0, Bool.and_true, Bool.true_and, Nat.reduceBEq, List.nodup_cons, List.not_mem_nil, List.nodup_nil, false_or, Bool.or_false, Bool.false_or, and_self, Int.reduceEq, Int.reduceNe, itB, itT, itL, i0, i1]
def encN (ns : List Int) : D := .list (ns.map .int)
/-- what drawing a number does -/
def TakeOk (C : Den) : Prop := ∀ (ns : List Int) (m : Int), m ≠ 0 → C.run 10 [(encN ns, true), (.int m, false)] = .ok (.int (takeV ns m)) false [encN ns.dropLast, .none]
theorem f_box (hm : C.mt 10 = fun j => decide (j = 0)) (h10 : TakeOk C) (ns : List Int) (n : Nat) (far long : Int) (hf : 0 ≤ far) (hl : 0 < long) (hn : n ≤ 1000) (hw : far ≤ 1000) :
    ∃ (ns' : List Int) (b : Box) (u v : Slot), exS C f_law_box_0 [some (encN ns, .io), some (.int n, .fz), some (.int far, .fz), some (.int long, .fz), some (encB0 [], .ow), none, none] = .ok .nx [some (encN ns', .io), some (.int n, .fz), some (.int far, .fz), some (.int long, .fz), some (encB0 b, .ow), u, v] ∧ b.length = n ∧ Proper b ∧ ∀ p ∈ b, -far ≤ p.1 ∧ p.2 ≤ far + long := by
  have hsl : ∀ i : Nat, i < n → i < sizeLine := fun i h => by unfold sizeLine; omega
  have h2 : mulOk 2 far = true := by simp [mulOk]
  obtain ⟨e2, k1, ns', b, u, v, h3, h4, h5, rfl⟩ := for_rng (C := C) (p := .nm 5) (it := .rng (.cons (.var 1) .nil)) (b := fb_law_box_0) (n := n) (ws := []) (env := [some (encN ns, .io), some (.int n, .fz), some (.int far, .fz), some (.int long, .fz), some (encB0 [], .ow), none, none]) (e1 := [some (encN ns, .io), some (.int n, .fz), some (.int far, .fz), some (.int long, .fz), some (encB0 [], .ow), none, none]) (evIt_rng1 (n := n) (r := .v (.int n)) (by simp only [andq, orq, negq, lockE_v, lockE_o, lockE_nil, wipeE_cons, wipeE_nil, backE_cons, backE_nil, unlockE_nil, evq_var, evq_con, evq_tup, evq_lst, evq_op, evq_chain, evq_and, evq_or, evq_ite, evq_call, evq_mth, evq_nil, evq_cons, evq_star, evq_val, evq_rng, evq_zip, exq_set, exq_unp, exq_par, exq_expr, exq_ret, exq_iff, exq_nil, exq_cons, opq_add, opq_sub, opq_mul, opq_mod, opq_fdiv, opq_neg, opq_lt, opq_le, opq_gt, opq_ge, opq_eqI, opq_neI, opq_eqB, opq_neB, opq_isN, opq_isnN, opq_isT, opq_isnT, opq_isB, opq_isnB, opq_truB, opq_not, opq_asI, opq_i0, opq_i1, opq_l0, opq_l1, opq_max2, opq_min2, opq_lenL, opq_lenT, opq_tupL, opq_tupT, opq_lstL, opq_lstT, opq_revL, opq_abs, opq_int, opq_addT, opq_addL, opq_sum, opq_min1, opq_max1, opq_slT, opq_slD, opq_slTL, rdq_v, rdq_o, rdq_s, rdsq_nil, rdsq_cons, tkq_v, tkq_o, tkq_s, tksq_nil, tksq_cons, itq_l, itq_t, setRq_v, setRq_o, setRq_s, retq_v, retq_o, retq_s, boolq, zipq, arg1q_v, arg1q_o, arg1q_s, callq, parKq_v, parKq_o, parKq_s, setRsq, isSq_v, isSq_o, isSq_s, mthq_append, mthq_extend, mthq_pop, lsq, bindq_nm, bindq_t, bindq_l, bindsq_nil, bindsq_cons, O.bind_ok, O.of_some, argD, ioSlots, backIo, slotsR, borrows, parL, setL, List.getElem?_cons_succ, List.getElem?_cons_zero, List.set_cons_succ, List.set_cons_zero, reduceIte, if_true, if_false, Bool.false_eq_true, Bool.not_true, Bool.not_false, true_and, and_true, true_or, or_true, decide_true, decide_false, ne_eq, not_false_eq_true, not_true_eq_false, Int.reduceAdd, Int.reduceSub, Int.reduceMul, List.append_nil, List.nil_append, List.cons_append, reduceCtorEq, List.length_cons, List.length_nil, Nat.reduceAdd, Nat.reduceLT, Nat.reduceLeDiff, sz0, sz1, sz2, sz3, sz4, sz5, slt0, Bool.and_true, Bool.true_and, Nat.reduceBEq, List.nodup_cons, List.not_mem_nil, List.nodup_nil, false_or, Bool.or_false, Bool.false_or, and_self, Int.reduceEq, Int.reduceNe, itB, itT, itL, i0, i1]) rfl (by omega)) (fun i e => ∃ (ns' : List Int) (b : Box) (u v : Slot), b.length = i ∧ Proper b ∧ (∀ p ∈ b, -far ≤ p.1 ∧ p.2 ≤ far + long) ∧ e = [some (encN ns', .io), some (.int n, .fz), some (.int far, .fz), some (.int long, .fz), some (encB0 b, .ow), u, v])
    ⟨ns, [], none, none, rfl, fun p hp => by simp at hp, fun p hp => by simp at hp, rfl⟩ (fun _ _ _ => rfl) (fun i e hi h => by
      obtain ⟨ns', b, u, v, h3, h4, h5, rfl⟩ := h
      have t1 := takeV_ok ns' (m := 2 * far + 1) (by omega)
      have t2 := takeV_ok ns'.dropLast hl
      have r1 := h10 ns' (2 * far + 1) (by omega)
      have r2 := h10 ns'.dropLast long (by omega)
      have hlen : (b.map encI).length < sizeLine := by rw [List.length_map]; exact hsl _ (by omega)
      refine ⟨[some (encN ns', .io), some (.int n, .fz), some (.int far, .fz), some (.int long, .fz), some (encB0 b, .ow), some (.int i, .fz), v], [some (encN ns'.dropLast.dropLast, .io), some (.int n, .fz), some (.int far, .fz), some (.int long, .fz), some (encB0 (b ++ [(takeV ns' (2 * far + 1) - far, takeV ns' (2 * far + 1) - far + 1 + takeV ns'.dropLast long)]), .ow), some (.int i, .fz), some (.int (takeV ns' (2 * far + 1) - far), .fz)], rfl, ?_, _, _, _, _, by simp [h3], ?_, ?_, rfl⟩
      · generalize takeV ns' (2 * far + 1) = x at *
        generalize takeV ns'.dropLast long = y at *
        unfold encB0
        rw [List.map_append]
        have s1 : exS C (.set 6 false (.op (.bin .sub) (.cons (.call 10 (.cons (.var 0) (.cons (.op (.bin .add) (.cons (.op (.bin .mul) (.cons (.con (.int 2)) (.cons (.var 2) .nil))) (.cons (.con (.int 1)) .nil))) .nil))) (.cons (.var 2) .nil)))) [some (encN ns', .io), some (.int n, .fz), some (.int far, .fz), some (.int long, .fz), some (.list (b.map encI), .ow), some (.int i, .fz), v] = .ok .nx [some (encN ns'.dropLast, .io), some (.int n, .fz), some (.int far, .fz), some (.int long, .fz), some (.list (b.map encI), .ow), some (.int i, .fz), some (.int (x - far), .fz)] := by
          simp only [h2, hm, r1, andq, orq, negq, lockE_v, lockE_o, lockE_nil, wipeE_cons, wipeE_nil, backE_cons, backE_nil, unlockE_nil, evq_var, evq_con, evq_tup, evq_lst, evq_op, evq_chain, evq_and, evq_or, evq_ite, evq_call, evq_mth, evq_nil, evq_cons, evq_star, evq_val, evq_rng, evq_zip, exq_set, exq_unp, exq_par, exq_expr, exq_ret, exq_iff, exq_nil, exq_cons, opq_add, opq_sub, opq_mul, opq_mod, opq_fdiv, opq_neg, opq_lt, opq_le, opq_gt, opq_ge, opq_eqI, opq_neI, opq_eqB, opq_neB, opq_isN, opq_isnN, opq_isT, opq_isnT, opq_isB, opq_isnB, opq_truB, opq_not, opq_asI, opq_i0, opq_i1, opq_l0, opq_l1, opq_max2, opq_min2, opq_lenL, opq_lenT, opq_tupL, opq_tupT, opq_lstL, opq_lstT, opq_revL, opq_abs, opq_int, opq_addT, opq_addL, opq_sum, opq_min1, opq_max1, opq_slT, opq_slD, opq_slTL, rdq_v, rdq_o, rdq_s, rdsq_nil, rdsq_cons, tkq_v, tkq_o, tkq_s, tksq_nil, tksq_cons, itq_l, itq_t, setRq_v, setRq_o, setRq_s, retq_v, retq_o, retq_s, boolq, zipq, arg1q_v, arg1q_o, arg1q_s, callq, parKq_v, parKq_o, parKq_s, setRsq, isSq_v, isSq_o, isSq_s, mthq_append, mthq_extend, mthq_pop, lsq, bindq_nm, bindq_t, bindq_l, bindsq_nil, bindsq_cons, O.bind_ok, O.of_some, argD, ioSlots, backIo, slotsR, borrows, parL, setL, List.getElem?_cons_succ, List.getElem?_cons_zero, List.set_cons_succ, List.set_cons_zero, reduceIte, if_true, if_false, Bool.false_eq_true, Bool.not_true, Bool.not_false, true_and, and_true, true_or, or_true, decide_true, decide_false, ne_eq, not_false_eq_true, not_true_eq_false, Int.reduceAdd, Int.reduceSub, Int.reduceMul, List.append_nil, List.nil_append, List.cons_append, reduceCtorEq, List.length_cons, List.length_nil, Nat.reduceAdd, Nat.reduceLT, Nat.reduceLeDiff, sz0, sz1, sz2, sz3, sz4, sz5, slt0, Bool.and_true, Bool.true_and, Nat.reduceBEq, List.nodup_cons, List.not_mem_nil, List.nodup_nil, false_or, Bool.or_false, Bool.false_or, and_self, Int.reduceEq, Int.reduceNe, itB, itT, itL, i0, i1]
        have s2 : exS C (.expr (.mth .append 4 (.cons (.tup (.cons (.var 6) (.cons (.op (.bin .add) (.cons (.op (.bin .add) (.cons (.var 6) (.cons (.con (.int 1)) .nil))) (.cons (.call 10 (.cons (.var 0) (.cons (.var 3) .nil))) .nil))) .nil))) .nil))) [some (encN ns'.dropLast, .io), some (.int n, .fz), some (.int far, .fz), some (.int long, .fz), some (.list (b.map encI), .ow), some (.int i, .fz), some (.int (x - far), .fz)] = .ok .nx [some (encN ns'.dropLast.dropLast, .io), some (.int n, .fz), some (.int far, .fz), some (.int long, .fz), some (.list (b.map encI ++ [encI (x - far, x - far + 1 + y)]), .ow), some (.int i, .fz), some (.int (x - far), .fz)] := by
          generalize b.map encI = L at hlen ⊢
          simp only [hm, r2, hlen, encI_eq, andq, orq, negq, lockE_v, lockE_o, lockE_nil, wipeE_cons, wipeE_nil, backE_cons, backE_nil, unlockE_nil, evq_var, evq_con, evq_tup, evq_lst, evq_op, evq_chain, evq_and, evq_or, evq_ite, evq_call, evq_mth, evq_nil, evq_cons, evq_star, evq_val, evq_rng, evq_zip, exq_set, exq_unp, exq_par, exq_expr, exq_ret, exq_iff, exq_nil, exq_cons, opq_add, opq_sub, opq_mul, opq_mod, opq_fdiv, opq_neg, opq_lt, opq_le, opq_gt, opq_ge, opq_eqI, opq_neI, opq_eqB, opq_neB, opq_isN, opq_isnN, opq_isT, opq_isnT, opq_isB, opq_isnB, opq_truB, opq_not, opq_asI, opq_i0, opq_i1, opq_l0, opq_l1, opq_max2, opq_min2, opq_lenL, opq_lenT, opq_tupL, opq_tupT, opq_lstL, opq_lstT, opq_revL, opq_abs, opq_int, opq_addT, opq_addL, opq_sum, opq_min1, opq_max1, opq_slT, opq_slD, opq_slTL, rdq_v, rdq_o, rdq_s, rdsq_nil, rdsq_cons, tkq_v, tkq_o, tkq_s, tksq_nil, tksq_cons, itq_l, itq_t, setRq_v, setRq_o, setRq_s, retq_v, retq_o, retq_s, boolq, zipq, arg1q_v, arg1q_o, arg1q_s, callq, parKq_v, parKq_o, parKq_s, setRsq, isSq_v, isSq_o, isSq_s, mthq_append, mthq_extend, mthq_pop, lsq, bindq_nm, bindq_t, bindq_l, bindsq_nil, bindsq_cons, O.bind_ok, O.of_some, argD, ioSlots, backIo, slotsR, borrows, parL, setL, List.getElem?_cons_succ, List.getElem?_cons_zero, List.set_cons_succ, List.set_cons_zero, reduceIte, if_true, if_false, Bool.false_eq_true, Bool.not_true, Bool.not_false, true_and, and_true, true_or, or_true, decide_true, decide_false, ne_eq, not_false_eq_true, not_true_eq_false, Int.reduceAdd, Int.reduceSub, Int.reduceMul, List.append_nil, List.nil_append, List.cons_append, reduceCtorEq, List.length_cons, List.length_nil, Nat.reduceAdd, Nat.reduceLT, Nat.reduceLeDiff, sz0, sz1, sz2, sz3, sz4, sz5, slt0, Bool.and_true, Bool.true_and, Nat.reduceBEq, List.nodup_cons, List.not_mem_nil, List.nodup_nil, false_or, Bool.or_false, Bool.false_or, and_self, Int.reduceEq, Int.reduceNe, itB, itT, itL, i0, i1]
        exact (exSs_cons s1).trans ((exSs_cons s2).trans exSs_nil)
      · intro p hp
        rcases List.mem_append.mp hp with hp | hp
        · exact h4 p hp
        · rw [List.mem_singleton.mp hp]
          show takeV ns' (2 * far + 1) - far < takeV ns' (2 * far + 1) - far + 1 + takeV ns'.dropLast long
          omega
      · intro p hp
        rcases List.mem_append.mp hp with hp | hp
        · exact h5 p hp
        · rw [List.mem_singleton.mp hp]
          show -far ≤ takeV ns' (2 * far + 1) - far ∧ takeV ns' (2 * far + 1) - far + 1 + takeV ns'.dropLast long ≤ far + long
          omega)
  exact ⟨ns', b, u, v, k1, h3, h4, h5⟩
theorem run_box (hm : C.mt 10 = fun j => decide (j = 0)) (h10 : TakeOk C) (ns : List Int) (n : Nat) (far long : Int) (hf : 0 ≤ far) (hl : 0 < long) (hn : n ≤ 1000) (hw : far ≤ 1000) :
    ∃ (ns' : List Int) (b : Box), runFn C ⟨4, 7, b_law_box⟩ [(encN ns, true), (.int n, false), (.int far, false), (.int long, false)] = .ok (encB b) false [encN ns', .none, .none, .none] ∧ b.length = n ∧ Proper b ∧ ∀ p ∈ b, -far ≤ p.1 ∧ p.2 ≤ far + long := by
  obtain ⟨ns', b, u, v, k1, h⟩ := f_box hm h10 ns n far long hf hl hn hw
  refine ⟨ns', b, ?_, h⟩
  refine runFn_ret [some (encN ns, .io), some (.int n, .fz), some (.int far, .fz), some (.int long, .fz), none, none, none] (env := [some (encN ns', .io), some (.int n, .fz), some (.int far, .fz), some (.int long, .fz), some (encB0 b, .ow), u, v]) rfl (by decide) rfl ((exSs_cons (e1 := [some (encN ns, .io), some (.int n, .fz), some (.int far, .fz), some (.int long, .fz), some (encB0 [], .ow), none, none]) ?_).trans ((exSs_cons k1).trans (exSs_ret (exS_ret (ev_op1 (r := .s 4) (d := encB0 b) rfl rfl (opq_tupL _)) rfl)))) rfl
  simp only [andq, orq, negq, lockE_v, lockE_o, lockE_nil, wipeE_cons, wipeE_nil, backE_cons, backE_nil, unlockE_nil, evq_var, evq_con, evq_tup, evq_lst, evq_op, evq_chain, evq_and, evq_or, evq_ite, evq_call, evq_mth, evq_nil, evq_cons, evq_star, evq_val, evq_rng, evq_zip, exq_set, exq_unp, exq_par, exq_expr, exq_ret, exq_iff, exq_nil, exq_cons, opq_add, opq_sub, opq_mul, opq_mod, opq_fdiv, opq_neg, opq_lt, opq_le, opq_gt, opq_ge, opq_eqI, opq_neI, opq_eqB, opq_neB, opq_isN, opq_isnN, opq_isT, opq_isnT, opq_isB, opq_isnB, opq_truB, opq_not, opq_asI, opq_i0, opq_i1, opq_l0, opq_l1, opq_max2, opq_min2, opq_lenL, opq_lenT, opq_tupL, opq_tupT, opq_lstL, opq_lstT, opq_revL, opq_abs, opq_int, opq_addT, opq_addL, opq_sum, opq_min1, opq_max1, opq_slT, opq_slD, opq_slTL, rdq_v, rdq_o, rdq_s, rdsq_nil, rdsq_cons, tkq_v, tkq_o, tkq_s, tksq_nil, tksq_cons, itq_l, itq_t, setRq_v, setRq_o, setRq_s, retq_v, retq_o, retq_s, boolq, zipq, arg1q_v, arg1q_o, arg1q_s, callq, parKq_v, parKq_o, parKq_s, setRsq, isSq_v, isSq_o, isSq_s, mthq_append, mthq_extend, mthq_pop, lsq, bindq_nm, bindq_t, bindq_l, bindsq_nil, bindsq_cons, O.bind_ok, O.of_some, argD, ioSlots, backIo, slotsR, borrows, parL, setL, List.getElem?_cons_succ, List.getElem?_cons_zero, List.set_cons_succ, List.set_cons_zero, reduceIte, if_true, if_false, Bool.false_eq_true, Bool.not_true, Bool.not_false, true_and, and_true, true_or, or_true, decide_true, decide_false, ne_eq, not_false_eq_true, not_true_eq_false, Int.reduceAdd, Int.reduceSub, Int.reduceMul, List.append_nil, List.nil_append, List.cons_append, reduceCtorEq, List.length_cons, List.length_nil, Nat.reduceAdd, Nat.reduceLT, Nat.reduceLeDiff, sz0, sz1, sz2, sz3, sz4, sz5, slt0, Bool.and_true, Bool.true_and, Nat.reduceBEq, List.nodup_cons, List.not_mem_nil, List.nodup_nil, false_or, Bool.or_false, Bool.false_or, and_self, Int.reduceEq, Int.reduceNe, itB, itT, itL, i0, i1]
  rfl
end
end K8
set_option maxRecDepth 100000
-- ex: itB, itT, itL, i0, i1
namespace K8
open Mi Bx PySem
def nkI (p : Int × Int) : NestedKey := .tup [.num p.1, .num p.2]
def nkB (b : Box) : NestedKey := .tup (b.map nkI)
theorem nkI_of (p : Int × Int) : nkOf (encI p) = some (nkI p) := rfl
theorem nkAll_of : ∀ b : Box, nkAll (b.map encI) = some (b.map nkI)
  | [] => rfl
  | p :: b => by
    rw [List.map_cons, List.map_cons, nkAll, nkI_of, nkAll_of b]
    rfl
theorem nkB_of (b : Box) : nkOf (encB b) = some (nkB b) := by
  rw [encB, nkOf, nkAll_of]
  rfl
theorem nkI_depth : ∀ b : Box, NestedKey.depthAll (b.map nkI) ≤ 1
  | [] => by simp [NestedKey.depthAll]
  | p :: b => by
    have := nkI_depth b
    have e : (nkI p).depth = 1 := by simp [nkI, NestedKey.depth, NestedKey.depthAll]
    rw [List.map_cons, NestedKey.depthAll, e]
    omega
theorem nkB_depth (b : Box) : (nkB b).depth ≤ 8 := by
  have := nkI_depth b
  rw [nkB, NestedKey.depth]
  omega
def kOf (b : Box) : NestedKey × D := (nkB b, encB b)
theorem pairsK_of : ∀ bs : List Box, pairsK (bs.map fun b => .tuple [encB b, .int 1]) = some (bs.map kOf)
  | [] => rfl
  | b :: bs => by
    rw [List.map_cons, pairsK, nkB_of, pairsK_of bs]
    have := nkB_depth b
    simp [isTup, encB, this, kOf]
theorem keys_of : ∀ (bs as : List Box), ∃ cs : List Box, keysAll (as.map kOf) (bs.map kOf) = cs.map kOf ∧ (∀ c ∈ cs, c ∈ as ∨ c ∈ bs) ∧ cs.length ≤ as.length + bs.length ∧ ((as ≠ [] ∨ bs ≠ []) → cs ≠ [])
  | [], as => ⟨as, by simp [keysAll], fun c h => .inl h, by simp, fun h => by simpa using h⟩
  | b :: bs, as => by
    rw [List.map_cons, keysAll]
    by_cases h : ((as.map kOf).find? fun y => decide (y.1 = (kOf b).1)).isSome = true
    · rw [if_pos h]
      obtain ⟨cs, h1, h2, h3, h4⟩ := keys_of bs as
      refine ⟨cs, h1, fun c hc => (h2 c hc).imp id (List.mem_cons_of_mem _), by simp only [List.length_cons]; omega, fun _ => h4 (.inl ?_)⟩
      intro e
      rw [e] at h
      simp at h
    · rw [if_neg h]
      obtain ⟨cs, h1, h2, h3, h4⟩ := keys_of bs (as ++ [b])
      rw [List.map_append] at h1
      refine ⟨cs, h1, fun c hc => ?_, by simp only [List.length_append, List.length_cons, List.length_nil] at h3 ⊢; omega, fun _ => h4 (.inl (by simp))⟩
      rcases h2 c hc with h | h
      · rcases List.mem_append.mp h with h | h
        · exact .inl h
        · exact .inr (by rw [List.mem_singleton.mp h]; exact List.mem_cons_self)
      · exact .inr (List.mem_cons_of_mem _ h)
theorem alikeI (p q : Int × Int) : W.alike (encI p) (encI q) = true := rfl
theorem alikeAllI : ∀ a b : Box, W.alikeAll (a.map encI) (b.map encI) = true
  | [], b => by simp [W.alikeAll]
  | p :: a, [] => by simp [W.alikeAll]
  | p :: a, q :: b => by rw [List.map_cons, List.map_cons, W.alikeAll, alikeI, alikeAllI a b]; rfl
theorem alikeB (a b : Box) : W.alike (encB a) (encB b) = true := by
  rw [encB, encB, W.alike]
  exact alikeAllI a b
theorem depthI : ∀ b : Box, PyData.depthAll (b.map encI) ≤ 1
  | [] => by simp [PyData.depthAll]
  | p :: b => by
    have := depthI b
    have e : (encI p).depth = 1 := by simp [encI, PyData.depth, PyData.depthAll]
    rw [List.map_cons, PyData.depthAll, e]
    omega
theorem depthB (b : Box) : (encB b).depth ≤ 64 := by
  have := depthI b
  rw [encB, PyData.depth]
  omega
theorem sortOk_of {bs : List Box} (h : ∀ b ∈ bs, b ≠ []) (hl : bs.length ≤ sizeLine) : sortOk (bs.map encB) = true := by
  have h1 : ((bs.map encB).all fun a => (bs.map encB).all fun b => W.alike a b) = true := by
    simp only [List.all_map, List.all_eq_true, Function.comp]
    exact fun a _ b _ => alikeB a b
  have h2 : (bs.map encB).all tup1 = true := by
    simp only [List.all_map, List.all_eq_true, Function.comp]
    intro b hb
    cases b with
    | nil => exact absurd rfl (h _ hb)
    | cons p b => rfl
  have h3 : ((bs.map encB).all fun d => decide (d.depth ≤ 64)) = true := by
    simp only [List.all_map, List.all_eq_true, Function.comp, decide_eq_true_eq]
    exact fun b _ => depthB b
  unfold sortOk
  rw [h1, h2, h3, List.length_map, decide_eq_true hl]
  rfl
theorem of_map {L : List D} {bs : List Box} (h : ∀ d ∈ L, d ∈ bs.map encB) : ∃ cs : List Box, L = cs.map encB ∧ ∀ c ∈ cs, c ∈ bs := by
  induction L with
  | nil => exact ⟨[], rfl, fun c h => by simp at h⟩
  | cons d L ih =>
    obtain ⟨cs, h1, h2⟩ := ih fun x hx => h x (List.mem_cons_of_mem _ hx)
    obtain ⟨c, hc, e⟩ := List.mem_map.mp (h d List.mem_cons_self)
    refine ⟨c :: cs, by rw [List.map_cons, e, h1], fun x hx => ?_⟩
    rcases List.mem_cons.mp hx with rfl | hx
    · exact hc
    · exact h2 x hx
theorem sort_of (le : D → D → Bool) (bs : List Box) : ∃ cs : List Box, (bs.map encB).mergeSort le = cs.map encB ∧ (∀ c ∈ cs, c ∈ bs) ∧ cs.length = bs.length := by
  obtain ⟨cs, h1, h2⟩ := of_map (L := (bs.map encB).mergeSort le) (bs := bs) fun d hd => (List.mergeSort_perm _ _).mem_iff.mp hd
  refine ⟨cs, h1, h2, ?_⟩
  have := congrArg List.length h1
  rw [(List.mergeSort_perm _ _).length_eq] at this
  simpa using this.symm
/-- a thing out of rows: different boxes, in order -/
theorem sorted_keys {rows : List Box} (hne : rows ≠ []) (h : ∀ b ∈ rows, b ≠ []) (hl : rows.length ≤ sizeLine) : ∃ (ks cs : List Box), opO (.bi .dictKeys) [.list (rows.map fun b => .tuple [encB b, .int 1])] = some (.o (encL ks)) ∧ opO (.bi .sorted) [encL ks] = some (.o (encL cs)) ∧ cs ≠ [] ∧ (∀ c ∈ cs, c ∈ rows) ∧ cs.length ≤ rows.length := by
  obtain ⟨ks, k1, k2, k3, k4⟩ := keys_of rows []
  have k2 : ∀ c ∈ ks, c ∈ rows := fun c hc => (k2 c hc).elim (fun h => by simp at h) id
  have k3 : ks.length ≤ rows.length := by simpa using k3
  have k4 : ks ≠ [] := k4 (.inr hne)
  obtain ⟨cs, c1, c2, c3⟩ := sort_of (W.dataLe false id) ks
  refine ⟨ks, cs, ?_, ?_, ?_, fun c hc => k2 c (c2 c hc), by omega⟩
  · show (if (rows.map fun b => PyData.tuple [encB b, .int 1]).length ≤ sizeLine then (pairsK (rows.map fun b => PyData.tuple [encB b, .int 1])).map fun ks => R.o (.list ((keysAll [] ks).map (·.2))) else none) = _
    rw [List.length_map, if_pos hl, pairsK_of, Option.map_some, show ([] : List (NestedKey × D)) = ([] : List Box).map kOf from rfl, k1, List.map_map]
    rfl
  · show (if sortOk (ks.map encB) = true then some (R.o (.list ((ks.map encB).mergeSort (W.dataLe false id)))) else none) = _
    rw [if_pos (sortOk_of (fun b hb => h b (k2 b hb)) (by omega)), c1]
    rfl
  · intro e
    rw [e] at c3
    exact k4 (List.length_eq_zero_iff.mp c3.symm)
section
variable {C : Den}
/-- what drawing a box does -/
def BoxOk (C : Den) : Prop := ∀ (ns : List Int) (n : Nat) (far long : Int), 0 ≤ far → 0 < long → n ≤ 1000 → far ≤ 1000 →
  ∃ (ns' : List Int) (b : Box), C.run 11 [(encN ns, true), (.int n, false), (.int far, false), (.int long, false)] = .ok (encB b) false [encN ns', .none, .none, .none] ∧ b.length = n ∧ Proper b ∧ ∀ p ∈ b, -far ≤ p.1 ∧ p.2 ≤ far + long
theorem x_thing0 (hm : C.mt 10 = fun j => decide (j = 0)) (hm1 : C.mt 11 = fun j => decide (j = 0)) (h10 : TakeOk C) (h11 : BoxOk C) (ns : List Int) (n : Nat) (boxes far long : Int) (hbx : 0 < boxes) (hb2 : boxes ≤ 1000) (hf : 0 ≤ far) (hl : 0 < long) (hn : n ≤ 1000) (hw : far ≤ 1000) :
    ∃ (ns' : List Int) (rows : List Box), ev C x_law_thing_0 [some (encN ns, .io), some (.int n, .fz), some (.int boxes, .fz), some (.int far, .fz), some (.int long, .fz), none, none, none] = .ok (.o (encL rows)) [some (encN ns', .io), some (.int n, .fz), some (.int boxes, .fz), some (.int far, .fz), some (.int long, .fz), none, none, none] ∧ rows ≠ [] ∧ (rows.length : Int) ≤ boxes ∧ ∀ b ∈ rows, b.length = n ∧ Proper b ∧ ∀ p ∈ b, -far ≤ p.1 ∧ p.2 ≤ far + long := by
  have t1 := takeV_ok ns hbx
  have r1 := h10 ns boxes (by omega)
  generalize hx : takeV ns boxes = x at *
  obtain ⟨k, hk⟩ : ∃ k : Nat, 1 + x = (k : Int) := ⟨(1 + x).toNat, by omega⟩
  have hi := evIt_rng1 (C := C) (a := .op (.bin .add) (.cons (.con (.int 1)) (.cons (.call 10 (.cons (.var 0) (.cons (.var 2) .nil))) .nil))) (env := [some (encN ns, .io), some (.int n, .fz), some (.int boxes, .fz), some (.int far, .fz), some (.int long, .fz), none, none, none]) (e1 := [some (encN ns.dropLast, .io), some (.int n, .fz), some (.int boxes, .fz), some (.int far, .fz), some (.int long, .fz), none, none, none]) (n := k) (r := .v (.int k)) (by
    simp only [hm, r1, hk, andq, orq, negq, lockE_v, lockE_o, lockE_nil, wipeE_cons, wipeE_nil, backE_cons, backE_nil, unlockE_nil, evq_var, evq_con, evq_tup, evq_lst, evq_op, evq_chain, evq_and, evq_or, evq_ite, evq_call, evq_mth, evq_nil, evq_cons, evq_star, evq_val, evq_rng, evq_zip, exq_set, exq_unp, exq_par, exq_expr, exq_ret, exq_iff, exq_nil, exq_cons, opq_add, opq_sub, opq_mul, opq_mod, opq_fdiv, opq_neg, opq_lt, opq_le, opq_gt, opq_ge, opq_eqI, opq_neI, opq_eqB, opq_neB, opq_isN, opq_isnN, opq_isT, opq_isnT, opq_isB, opq_isnB, opq_truB, opq_not, opq_asI, opq_i0, opq_i1, opq_l0, opq_l1, opq_max2, opq_min2, opq_lenL, opq_lenT, opq_tupL, opq_tupT, opq_lstL, opq_lstT, opq_revL, opq_abs, opq_int, opq_addT, opq_addL, opq_sum, opq_min1, opq_max1, opq_slT, opq_slD, opq_slTL, rdq_v, rdq_o, rdq_s, rdsq_nil, rdsq_cons, tkq_v, tkq_o, tkq_s, tksq_nil, tksq_cons, itq_l, itq_t, setRq_v, setRq_o, setRq_s, retq_v, retq_o, retq_s, boolq, zipq, arg1q_v, arg1q_o, arg1q_s, callq, parKq_v, parKq_o, parKq_s, setRsq, isSq_v, isSq_o, isSq_s, mthq_append, mthq_extend, mthq_pop, lsq, bindq_nm, bindq_t, bindq_l, bindsq_nil, bindsq_cons, O.bind_ok, O.of_some, argD, ioSlots, backIo, slotsR, borrows, parL, setL, List.getElem?_cons_succ, List.getElem?_cons_zero, List.set_cons_succ, List.set_cons_zero, reduceIte, if_true, if_false, Bool.false_eq_true, Bool.not_true, Bool.not_false, true_and, and_true, true_or, or_true, decide_true, decide_false, ne_eq, not_false_eq_true, not_true_eq_false, Int.reduceAdd, Int.reduceSub, Int.reduceMul, List.append_nil, List.nil_append, List.cons_append, reduceCtorEq, List.length_cons, List.length_nil, Nat.reduceAdd, Nat.reduceLT, Nat.reduceLeDiff, sz0, sz1, sz2, sz3, sz4, sz5, slt0, Bool.and_true, Bool.true_and, Nat.reduceBEq, List.nodup_cons, List.not_mem_nil, List.nodup_nil, false_or, Bool.or_false, Bool.false_or, and_self, Int.reduceEq, Int.reduceNe, itB, itT, itL, i0, i1]) rfl (by omega)
  obtain ⟨y, e2, k1, k2, ns', rows, k3, k4, k5, rfl⟩ := turnsG_inv (ws := []) (own := [6]) (f := bodyG (.nm 6) (ev C (.con (.bool true))) (fun e0 => (ev C (.call 11 (.cons (.var 0) (.cons (.var 1) (.cons (.var 3) (.cons (.var 4) .nil))))) e0).bind fun x e1 => (O.of (tk e1 x) e1).bind fun y _ => .ok [y.1] y.2) [])
    (fun ds out e => ds.length + out.length = k ∧ ∃ (ns' : List Int) (rows : List Box), out = rows.map encB ∧ rows.length ≤ k ∧ (∀ b ∈ rows, b.length = n ∧ Proper b ∧ ∀ p ∈ b, -far ≤ p.1 ∧ p.2 ≤ far + long) ∧ e = [some (encN ns', .io), some (.int n, .fz), some (.int boxes, .fz), some (.int far, .fz), some (.int long, .fz), none, none, none])
    (fun _ _ _ _ => rfl) (fun d ds out e h => by
      obtain ⟨k2, ns', rows, rfl, k4, k5, rfl⟩ := h
      obtain ⟨ns2, b, b1, b2⟩ := h11 ns' n far long hf hl hn hw
      refine ⟨[encB b], [some (encN ns2, .io), some (.int n, .fz), some (.int boxes, .fz), some (.int far, .fz), some (.int long, .fz), none, some (d, .fz), none], body_lcv (e3 := [some (encN ns', .io), some (.int n, .fz), some (.int boxes, .fz), some (.int far, .fz), some (.int long, .fz), none, some (d, .fz), none]) rfl ?_, ?_, ns2, rows ++ [b], by simp, ?_, ?_, rfl⟩
      · simp only [hm1, b1, andq, orq, negq, lockE_v, lockE_o, lockE_nil, wipeE_cons, wipeE_nil, backE_cons, backE_nil, unlockE_nil, evq_var, evq_con, evq_tup, evq_lst, evq_op, evq_chain, evq_and, evq_or, evq_ite, evq_call, evq_mth, evq_nil, evq_cons, evq_star, evq_val, evq_rng, evq_zip, exq_set, exq_unp, exq_par, exq_expr, exq_ret, exq_iff, exq_nil, exq_cons, opq_add, opq_sub, opq_mul, opq_mod, opq_fdiv, opq_neg, opq_lt, opq_le, opq_gt, opq_ge, opq_eqI, opq_neI, opq_eqB, opq_neB, opq_isN, opq_isnN, opq_isT, opq_isnT, opq_isB, opq_isnB, opq_truB, opq_not, opq_asI, opq_i0, opq_i1, opq_l0, opq_l1, opq_max2, opq_min2, opq_lenL, opq_lenT, opq_tupL, opq_tupT, opq_lstL, opq_lstT, opq_revL, opq_abs, opq_int, opq_addT, opq_addL, opq_sum, opq_min1, opq_max1, opq_slT, opq_slD, opq_slTL, rdq_v, rdq_o, rdq_s, rdsq_nil, rdsq_cons, tkq_v, tkq_o, tkq_s, tksq_nil, tksq_cons, itq_l, itq_t, setRq_v, setRq_o, setRq_s, retq_v, retq_o, retq_s, boolq, zipq, arg1q_v, arg1q_o, arg1q_s, callq, parKq_v, parKq_o, parKq_s, setRsq, isSq_v, isSq_o, isSq_s, mthq_append, mthq_extend, mthq_pop, lsq, bindq_nm, bindq_t, bindq_l, bindsq_nil, bindsq_cons, O.bind_ok, O.of_some, argD, ioSlots, backIo, slotsR, borrows, parL, setL, List.getElem?_cons_succ, List.getElem?_cons_zero, List.set_cons_succ, List.set_cons_zero, reduceIte, if_true, if_false, Bool.false_eq_true, Bool.not_true, Bool.not_false, true_and, and_true, true_or, or_true, decide_true, decide_false, ne_eq, not_false_eq_true, not_true_eq_false, Int.reduceAdd, Int.reduceSub, Int.reduceMul, List.append_nil, List.nil_append, List.cons_append, reduceCtorEq, List.length_cons, List.length_nil, Nat.reduceAdd, Nat.reduceLT, Nat.reduceLeDiff, sz0, sz1, sz2, sz3, sz4, sz5, slt0, Bool.and_true, Bool.true_and, Nat.reduceBEq, List.nodup_cons, List.not_mem_nil, List.nodup_nil, false_or, Bool.or_false, Bool.false_or, and_self, Int.reduceEq, Int.reduceNe, itB, itT, itL, i0, i1]
      · simp only [List.length_cons, List.length_append, List.length_nil, List.length_map] at k2 ⊢
        omega
      · simp only [List.length_cons, List.length_append, List.length_nil, List.length_map] at k2 ⊢
        omega
      · intro z hz
        rcases List.mem_append.mp hz with hz | hz
        · exact k5 z hz
        · rw [List.mem_singleton.mp hz]
          exact b2) (ds := (List.range k).map fun (i : Nat) => PyData.int i) (out := []) (e := [some (encN ns.dropLast, .io), some (.int n, .fz), some (.int boxes, .fz), some (.int far, .fz), some (.int long, .fz), none, none, none]) ⟨by simp, ns.dropLast, [], rfl, by simp, fun b hb => by simp at hb, rfl⟩
  simp only [List.length_nil, List.nil_append, Nat.zero_add] at k2 k3
  subst k3
  rw [List.length_map] at k2
  refine ⟨ns', rows, (ev_lc (ws := []) rfl hi k1 (by rw [List.length_map]; unfold sizeLine; omega)).trans rfl, ?_, by omega, k5⟩
  intro e
  rw [e] at k2
  simp at k2
  omega
theorem x_thing1 (rows : List Box) (e0 e1 e2 e3 e4 e6 : Slot) (hl : rows.length ≤ sizeLine) : ev C x_law_thing_1 [e0, e1, e2, e3, e4, some (encL rows, .fz), e6, none] = .ok (.o (.list (rows.map fun b => .tuple [encB b, .int 1]))) [e0, e1, e2, e3, e4, some (encL rows, .fz), e6, none] := by
  refine (ev_lc (e2 := [e0, e1, e2, e3, e4, some (encL rows, .fz), e6, none]) (ws := [.v (encL rows)]) (ds := rows.map encB) (y := rows.map fun b => .tuple [encB b, .int 1]) (e1 := [e0, e1, e2, e3, e4, some (encL rows, .fz), e6, none]) rfl (by simp only [andq, orq, negq, lockE_v, lockE_o, lockE_nil, wipeE_cons, wipeE_nil, backE_cons, backE_nil, unlockE_nil, evq_var, evq_con, evq_tup, evq_lst, evq_op, evq_chain, evq_and, evq_or, evq_ite, evq_call, evq_mth, evq_nil, evq_cons, evq_star, evq_val, evq_rng, evq_zip, exq_set, exq_unp, exq_par, exq_expr, exq_ret, exq_iff, exq_nil, exq_cons, opq_add, opq_sub, opq_mul, opq_mod, opq_fdiv, opq_neg, opq_lt, opq_le, opq_gt, opq_ge, opq_eqI, opq_neI, opq_eqB, opq_neB, opq_isN, opq_isnN, opq_isT, opq_isnT, opq_isB, opq_isnB, opq_truB, opq_not, opq_asI, opq_i0, opq_i1, opq_l0, opq_l1, opq_max2, opq_min2, opq_lenL, opq_lenT, opq_tupL, opq_tupT, opq_lstL, opq_lstT, opq_revL, opq_abs, opq_int, opq_addT, opq_addL, opq_sum, opq_min1, opq_max1, opq_slT, opq_slD, opq_slTL, rdq_v, rdq_o, rdq_s, rdsq_nil, rdsq_cons, tkq_v, tkq_o, tkq_s, tksq_nil, tksq_cons, itq_l, itq_t, setRq_v, setRq_o, setRq_s, retq_v, retq_o, retq_s, boolq, zipq, arg1q_v, arg1q_o, arg1q_s, callq, parKq_v, parKq_o, parKq_s, setRsq, isSq_v, isSq_o, isSq_s, mthq_append, mthq_extend, mthq_pop, lsq, bindq_nm, bindq_t, bindq_l, bindsq_nil, bindsq_cons, O.bind_ok, O.of_some, argD, ioSlots, backIo, slotsR, borrows, parL, setL, List.getElem?_cons_succ, List.getElem?_cons_zero, List.set_cons_succ, List.set_cons_zero, reduceIte, if_true, if_false, Bool.false_eq_true, Bool.not_true, Bool.not_false, true_and, and_true, true_or, or_true, decide_true, decide_false, ne_eq, not_false_eq_true, not_true_eq_false, Int.reduceAdd, Int.reduceSub, Int.reduceMul, List.append_nil, List.nil_append, List.cons_append, reduceCtorEq, List.length_cons, List.length_nil, Nat.reduceAdd, Nat.reduceLT, Nat.reduceLeDiff, sz0, sz1, sz2, sz3, sz4, sz5, slt0, Bool.and_true, Bool.true_and, Nat.reduceBEq, List.nodup_cons, List.not_mem_nil, List.nodup_nil, false_or, Bool.or_false, Bool.false_or, and_self, Int.reduceEq, Int.reduceNe, itB, itT, itL, i0, i1]) ?_ (by rw [List.length_map]; exact hl)).trans rfl
  refine turnsG_map _ _ rfl fun b h => ⟨_, body_lcv (e3 := [e0, e1, e2, e3, e4, some (encL rows, .fz), e6, some (encB b, .fz)]) rfl (?_ : _ = O.ok _ [e0, e1, e2, e3, e4, some (encL rows, .fz), e6, some (encB b, .fz)]), rfl⟩
  simp only [andq, orq, negq, lockE_v, lockE_o, lockE_nil, wipeE_cons, wipeE_nil, backE_cons, backE_nil, unlockE_nil, evq_var, evq_con, evq_tup, evq_lst, evq_op, evq_chain, evq_and, evq_or, evq_ite, evq_call, evq_mth, evq_nil, evq_cons, evq_star, evq_val, evq_rng, evq_zip, exq_set, exq_unp, exq_par, exq_expr, exq_ret, exq_iff, exq_nil, exq_cons, opq_add, opq_sub, opq_mul, opq_mod, opq_fdiv, opq_neg, opq_lt, opq_le, opq_gt, opq_ge, opq_eqI, opq_neI, opq_eqB, opq_neB, opq_isN, opq_isnN, opq_isT, opq_isnT, opq_isB, opq_isnB, opq_truB, opq_not, opq_asI, opq_i0, opq_i1, opq_l0, opq_l1, opq_max2, opq_min2, opq_lenL, opq_lenT, opq_tupL, opq_tupT, opq_lstL, opq_lstT, opq_revL, opq_abs, opq_int, opq_addT, opq_addL, opq_sum, opq_min1, opq_max1, opq_slT, opq_slD, opq_slTL, rdq_v, rdq_o, rdq_s, rdsq_nil, rdsq_cons, tkq_v, tkq_o, tkq_s, tksq_nil, tksq_cons, itq_l, itq_t, setRq_v, setRq_o, setRq_s, retq_v, retq_o, retq_s, boolq, zipq, arg1q_v, arg1q_o, arg1q_s, callq, parKq_v, parKq_o, parKq_s, setRsq, isSq_v, isSq_o, isSq_s, mthq_append, mthq_extend, mthq_pop, lsq, bindq_nm, bindq_t, bindq_l, bindsq_nil, bindsq_cons, O.bind_ok, O.of_some, argD, ioSlots, backIo, slotsR, borrows, parL, setL, List.getElem?_cons_succ, List.getElem?_cons_zero, List.set_cons_succ, List.set_cons_zero, reduceIte, if_true, if_false, Bool.false_eq_true, Bool.not_true, Bool.not_false, true_and, and_true, true_or, or_true, decide_true, decide_false, ne_eq, not_false_eq_true, not_true_eq_false, Int.reduceAdd, Int.reduceSub, Int.reduceMul, List.append_nil, List.nil_append, List.cons_append, reduceCtorEq, List.length_cons, List.length_nil, Nat.reduceAdd, Nat.reduceLT, Nat.reduceLeDiff, sz0, sz1, sz2, sz3, sz4, sz5, slt0, Bool.and_true, Bool.true_and, Nat.reduceBEq, List.nodup_cons, List.not_mem_nil, List.nodup_nil, false_or, Bool.or_false, Bool.false_or, and_self, Int.reduceEq, Int.reduceNe, itB, itT, itL, i0, i1]
theorem run_thing (hm : C.mt 10 = fun j => decide (j = 0)) (hm1 : C.mt 11 = fun j => decide (j = 0)) (h10 : TakeOk C) (h11 : BoxOk C) (ns : List Int) (n : Nat) (boxes far long : Int) (hbx : 0 < boxes) (hb2 : boxes ≤ 1000) (hf : 0 ≤ far) (hl : 0 < long) (h0 : 0 < n) (hn : n ≤ 1000) (hw : far ≤ 1000) :
    ∃ (ns' : List Int) (bs : List Box), runFn C ⟨5, 8, b_law_thing⟩ [(encN ns, true), (.int n, false), (.int boxes, false), (.int far, false), (.int long, false)] = .ok (encT bs) false [encN ns', .none, .none, .none, .none] ∧ bs ≠ [] ∧ (bs.length : Int) ≤ boxes ∧ ∀ b ∈ bs, b.length = n ∧ Proper b ∧ ∀ p ∈ b, -far ≤ p.1 ∧ p.2 ≤ far + long := by
  obtain ⟨ns', rows, r1, r2, r3, r4⟩ := x_thing0 hm hm1 h10 h11 ns n boxes far long hbx hb2 hf hl hn hw
  have hlen : rows.length ≤ sizeLine := by unfold sizeLine; omega
  obtain ⟨ks, cs, c1, c2, c3, c4, c5⟩ := sorted_keys r2 (fun b hb e => by have := (r4 b hb).1; rw [e] at this; simp at this; omega) hlen
  refine ⟨ns', cs, ?_, c3, by omega, fun b hb => r4 b (c4 b hb)⟩
  have x1 := x_thing1 (C := C) rows (some (encN ns', .io)) (some (.int n, .fz)) (some (.int boxes, .fz)) (some (.int far, .fz)) (some (.int long, .fz)) none hlen
  refine runFn_ret [some (encN ns, .io), some (.int n, .fz), some (.int boxes, .fz), some (.int far, .fz), some (.int long, .fz), none, none, none] (env := [some (encN ns', .io), some (.int n, .fz), some (.int boxes, .fz), some (.int far, .fz), some (.int long, .fz), some (encL rows, .fz), none, none]) rfl (by decide) rfl ((exSs_cons (e1 := [some (encN ns', .io), some (.int n, .fz), some (.int boxes, .fz), some (.int far, .fz), some (.int long, .fz), some (encL rows, .fz), none, none]) (exS_set r1 rfl)).trans (exSs_ret (exS_ret (ev_op1 (ev_op1 (ev_op1 x1 rfl c1) rfl c2) rfl (opq_tupL _)) rfl))) rfl
end
end K8
set_option maxRecDepth 100000
-- ex: itB, itT, itL, i0, i1, nab5, nab7, nab997
namespace K8
open Mi Bx PySem
theorem nab5 : Int.natAbs 5 = 5 := rfl
theorem nab7 : Int.natAbs 7 = 7 := rfl
theorem nab997 : Int.natAbs 997 = 997 := rfl
theorem encN_app (ds : List Int) (x : Int) : PyData.list (ds.map .int ++ [.int x]) = encN (ds ++ [x]) := by
  rw [encN, List.map_append]
  rfl
theorem encN_len {ds : List Int} {n : Nat} (h : ds.length ≤ n) (hn : n ≤ 1000000) : (ds.map PyData.int).length < sizeLine := by
  rw [List.length_map]
  unfold sizeLine
  omega
theorem itN (ns : List Int) : itemsOf (encN ns) = some (ns.map .int) := rfl
theorem mulS (x : Int) {j : Int} (h1 : -(2 ^ 64) < j) (h2 : j < 2 ^ 64) : mulOk x j = true := by
  unfold mulOk
  rw [Bool.or_eq_true]
  exact .inr (decide_eq_true ⟨h1, h2⟩)
section
variable {C : Den}
theorem fb_draws0 (e0 e2 e4 e5 e6 : Slot) (ds : List Int) (num : Int) (hl : ds.length ≤ 1000000) : ∃ (ds' : List Int) (num' : Int), exSs C fb_law_draws_0 [e0, some (encN ds, .ow), e2, some (.int num, .fz), e4, e5, e6] = .ok .nx [e0, some (encN ds', .ow), e2, some (.int num', .fz), e4, e5, e6] ∧ ds'.length ≤ ds.length + 1 := by
  have hlen := encN_len hl (Nat.le_refl _)
  by_cases h : 0 < num
  · refine ⟨ds ++ [num.fmod 997], num.fdiv 997, ?_, by simp⟩
    rw [← encN_app]
    unfold encN
    generalize ds.map PyData.int = L at hlen ⊢
    simp only [fb_law_draws_0, h, hlen, andq, orq, negq, lockE_v, lockE_o, lockE_nil, wipeE_cons, wipeE_nil, backE_cons, backE_nil, unlockE_nil, evq_var, evq_con, evq_tup, evq_lst, evq_op, evq_chain, evq_and, evq_or, evq_ite, evq_call, evq_mth, evq_nil, evq_cons, evq_star, evq_val, evq_rng, evq_zip, exq_set, exq_unp, exq_par, exq_expr, exq_ret, exq_iff, exq_nil, exq_cons, opq_add, opq_sub, opq_mul, opq_mod, opq_fdiv, opq_neg, opq_lt, opq_le, opq_gt, opq_ge, opq_eqI, opq_neI, opq_eqB, opq_neB, opq_isN, opq_isnN, opq_isT, opq_isnT, opq_isB, opq_isnB, opq_truB, opq_not, opq_asI, opq_i0, opq_i1, opq_l0, opq_l1, opq_max2, opq_min2, opq_lenL, opq_lenT, opq_tupL, opq_tupT, opq_lstL, opq_lstT, opq_revL, opq_abs, opq_int, opq_addT, opq_addL, opq_sum, opq_min1, opq_max1, opq_slT, opq_slD, opq_slTL, rdq_v, rdq_o, rdq_s, rdsq_nil, rdsq_cons, tkq_v, tkq_o, tkq_s, tksq_nil, tksq_cons, itq_l, itq_t, setRq_v, setRq_o, setRq_s, retq_v, retq_o, retq_s, boolq, zipq, arg1q_v, arg1q_o, arg1q_s, callq, parKq_v, parKq_o, parKq_s, setRsq, isSq_v, isSq_o, isSq_s, mthq_append, mthq_extend, mthq_pop, lsq, bindq_nm, bindq_t, bindq_l, bindsq_nil, bindsq_cons, O.bind_ok, O.of_some, argD, ioSlots, backIo, slotsR, borrows, parL, setL, List.getElem?_cons_succ, List.getElem?_cons_zero, List.set_cons_succ, List.set_cons_zero, reduceIte, if_true, if_false, Bool.false_eq_true, Bool.not_true, Bool.not_false, true_and, and_true, true_or, or_true, decide_true, decide_false, ne_eq, not_false_eq_true, not_true_eq_false, Int.reduceAdd, Int.reduceSub, Int.reduceMul, List.append_nil, List.nil_append, List.cons_append, reduceCtorEq, List.length_cons, List.length_nil, Nat.reduceAdd, Nat.reduceLT, Nat.reduceLeDiff, sz0, sz1, sz2, sz3, sz4, sz5, slt0, Bool.and_true, Bool.true_and, Nat.reduceBEq, List.nodup_cons, List.not_mem_nil, List.nodup_nil, false_or, Bool.or_false, Bool.false_or, and_self, Int.reduceEq, Int.reduceNe, itB, itT, itL, i0, i1, nab5, nab7, nab997]
  · refine ⟨ds, num, ?_, by omega⟩
    simp only [fb_law_draws_0, h, andq, orq, negq, lockE_v, lockE_o, lockE_nil, wipeE_cons, wipeE_nil, backE_cons, backE_nil, unlockE_nil, evq_var, evq_con, evq_tup, evq_lst, evq_op, evq_chain, evq_and, evq_or, evq_ite, evq_call, evq_mth, evq_nil, evq_cons, evq_star, evq_val, evq_rng, evq_zip, exq_set, exq_unp, exq_par, exq_expr, exq_ret, exq_iff, exq_nil, exq_cons, opq_add, opq_sub, opq_mul, opq_mod, opq_fdiv, opq_neg, opq_lt, opq_le, opq_gt, opq_ge, opq_eqI, opq_neI, opq_eqB, opq_neB, opq_isN, opq_isnN, opq_isT, opq_isnT, opq_isB, opq_isnB, opq_truB, opq_not, opq_asI, opq_i0, opq_i1, opq_l0, opq_l1, opq_max2, opq_min2, opq_lenL, opq_lenT, opq_tupL, opq_tupT, opq_lstL, opq_lstT, opq_revL, opq_abs, opq_int, opq_addT, opq_addL, opq_sum, opq_min1, opq_max1, opq_slT, opq_slD, opq_slTL, rdq_v, rdq_o, rdq_s, rdsq_nil, rdsq_cons, tkq_v, tkq_o, tkq_s, tksq_nil, tksq_cons, itq_l, itq_t, setRq_v, setRq_o, setRq_s, retq_v, retq_o, retq_s, boolq, zipq, arg1q_v, arg1q_o, arg1q_s, callq, parKq_v, parKq_o, parKq_s, setRsq, isSq_v, isSq_o, isSq_s, mthq_append, mthq_extend, mthq_pop, lsq, bindq_nm, bindq_t, bindq_l, bindsq_nil, bindsq_cons, O.bind_ok, O.of_some, argD, ioSlots, backIo, slotsR, borrows, parL, setL, List.getElem?_cons_succ, List.getElem?_cons_zero, List.set_cons_succ, List.set_cons_zero, reduceIte, if_true, if_false, Bool.false_eq_true, Bool.not_true, Bool.not_false, true_and, and_true, true_or, or_true, decide_true, decide_false, ne_eq, not_false_eq_true, not_true_eq_false, Int.reduceAdd, Int.reduceSub, Int.reduceMul, List.append_nil, List.nil_append, List.cons_append, reduceCtorEq, List.length_cons, List.length_nil, Nat.reduceAdd, Nat.reduceLT, Nat.reduceLeDiff, sz0, sz1, sz2, sz3, sz4, sz5, slt0, Bool.and_true, Bool.true_and, Nat.reduceBEq, List.nodup_cons, List.not_mem_nil, List.nodup_nil, false_or, Bool.or_false, Bool.false_or, and_self, Int.reduceEq, Int.reduceNe, itB, itT, itL, i0, i1, nab5, nab7, nab997]
theorem f_draws0 (e0 e2 e4 e5 e6 : Slot) (ds : List Int) (num : Int) (hl : ds.length ≤ 900000) : ∃ (ds' : List Int) (num' : Int) (e5' : Slot), exS C f_law_draws_0 [e0, some (encN ds, .ow), e2, some (.int num, .fz), e4, e5, e6] = .ok .nx [e0, some (encN ds', .ow), e2, some (.int num', .fz), e4, e5', e6] ∧ ds'.length ≤ ds.length + 60 := by
  obtain ⟨e, k1, ds', num', e5', k2, rfl⟩ := for_rng (C := C) (p := .nm 5) (it := .rng (.cons (.con (.int 60)) .nil)) (b := fb_law_draws_0) (n := 60) (ws := []) (env := [e0, some (encN ds, .ow), e2, some (.int num, .fz), e4, e5, e6]) (e1 := [e0, some (encN ds, .ow), e2, some (.int num, .fz), e4, e5, e6]) (evIt_rng1 (n := 60) (r := .v (.int 60)) (by simp only [andq, orq, negq, lockE_v, lockE_o, lockE_nil, wipeE_cons, wipeE_nil, backE_cons, backE_nil, unlockE_nil, evq_var, evq_con, evq_tup, evq_lst, evq_op, evq_chain, evq_and, evq_or, evq_ite, evq_call, evq_mth, evq_nil, evq_cons, evq_star, evq_val, evq_rng, evq_zip, exq_set, exq_unp, exq_par, exq_expr, exq_ret, exq_iff, exq_nil, exq_cons, opq_add, opq_sub, opq_mul, opq_mod, opq_fdiv, opq_neg, opq_lt, opq_le, opq_gt, opq_ge, opq_eqI, opq_neI, opq_eqB, opq_neB, opq_isN, opq_isnN, opq_isT, opq_isnT, opq_isB, opq_isnB, opq_truB, opq_not, opq_asI, opq_i0, opq_i1, opq_l0, opq_l1, opq_max2, opq_min2, opq_lenL, opq_lenT, opq_tupL, opq_tupT, opq_lstL, opq_lstT, opq_revL, opq_abs, opq_int, opq_addT, opq_addL, opq_sum, opq_min1, opq_max1, opq_slT, opq_slD, opq_slTL, rdq_v, rdq_o, rdq_s, rdsq_nil, rdsq_cons, tkq_v, tkq_o, tkq_s, tksq_nil, tksq_cons, itq_l, itq_t, setRq_v, setRq_o, setRq_s, retq_v, retq_o, retq_s, boolq, zipq, arg1q_v, arg1q_o, arg1q_s, callq, parKq_v, parKq_o, parKq_s, setRsq, isSq_v, isSq_o, isSq_s, mthq_append, mthq_extend, mthq_pop, lsq, bindq_nm, bindq_t, bindq_l, bindsq_nil, bindsq_cons, O.bind_ok, O.of_some, argD, ioSlots, backIo, slotsR, borrows, parL, setL, List.getElem?_cons_succ, List.getElem?_cons_zero, List.set_cons_succ, List.set_cons_zero, reduceIte, if_true, if_false, Bool.false_eq_true, Bool.not_true, Bool.not_false, true_and, and_true, true_or, or_true, decide_true, decide_false, ne_eq, not_false_eq_true, not_true_eq_false, Int.reduceAdd, Int.reduceSub, Int.reduceMul, List.append_nil, List.nil_append, List.cons_append, reduceCtorEq, List.length_cons, List.length_nil, Nat.reduceAdd, Nat.reduceLT, Nat.reduceLeDiff, sz0, sz1, sz2, sz3, sz4, sz5, slt0, Bool.and_true, Bool.true_and, Nat.reduceBEq, List.nodup_cons, List.not_mem_nil, List.nodup_nil, false_or, Bool.or_false, Bool.false_or, and_self, Int.reduceEq, Int.reduceNe, itB, itT, itL, i0, i1, nab5, nab7, nab997]) rfl (by decide)) (fun i e => ∃ (ds' : List Int) (num' : Int) (e5 : Slot), ds'.length ≤ ds.length + i ∧ e = [e0, some (encN ds', .ow), e2, some (.int num', .fz), e4, e5, e6])
    ⟨ds, num, e5, by omega, rfl⟩ (fun _ _ _ => rfl) (fun i e hi h => by
      obtain ⟨ds', num', e5', k2, rfl⟩ := h
      obtain ⟨d2, n2, k3, k4⟩ := fb_draws0 (C := C) e0 e2 e4 (some (.int i, .fz)) e6 ds' num' (by omega)
      exact ⟨_, _, rfl, k3, d2, n2, _, by omega, rfl⟩)
  exact ⟨ds', num', e5', k1, k2⟩
theorem fb_draws1 (e0 e3 e4 e5 e6 : Slot) (ds : List Int) (z : Int) (hl : ds.length ≤ 800000) : ∃ (ds' : List Int) (num' : Int) (e4' e5' : Slot), exSs C fb_law_draws_1 [e0, some (encN ds, .ow), some (.int z, .fz), e3, e4, e5, e6] = .ok .nx [e0, some (encN ds', .ow), some (.int z, .fz), some (.int num', .fz), e4', e5', e6] ∧ ds'.length ≤ ds.length + 62 := by
  have hlen := encN_len (n := 1000000) (by omega) (Nat.le_refl _) (ds := ds)
  have s1 : exS C (.set 3 false (.op (.bi .abs) (.cons (.var 2) .nil))) [e0, some (encN ds, .ow), some (.int z, .fz), e3, e4, e5, e6] = .ok .nx [e0, some (encN ds, .ow), some (.int z, .fz), some (.int (if z < 0 then -z else z), .fz), e4, e5, e6] := by
    simp only [andq, orq, negq, lockE_v, lockE_o, lockE_nil, wipeE_cons, wipeE_nil, backE_cons, backE_nil, unlockE_nil, evq_var, evq_con, evq_tup, evq_lst, evq_op, evq_chain, evq_and, evq_or, evq_ite, evq_call, evq_mth, evq_nil, evq_cons, evq_star, evq_val, evq_rng, evq_zip, exq_set, exq_unp, exq_par, exq_expr, exq_ret, exq_iff, exq_nil, exq_cons, opq_add, opq_sub, opq_mul, opq_mod, opq_fdiv, opq_neg, opq_lt, opq_le, opq_gt, opq_ge, opq_eqI, opq_neI, opq_eqB, opq_neB, opq_isN, opq_isnN, opq_isT, opq_isnT, opq_isB, opq_isnB, opq_truB, opq_not, opq_asI, opq_i0, opq_i1, opq_l0, opq_l1, opq_max2, opq_min2, opq_lenL, opq_lenT, opq_tupL, opq_tupT, opq_lstL, opq_lstT, opq_revL, opq_abs, opq_int, opq_addT, opq_addL, opq_sum, opq_min1, opq_max1, opq_slT, opq_slD, opq_slTL, rdq_v, rdq_o, rdq_s, rdsq_nil, rdsq_cons, tkq_v, tkq_o, tkq_s, tksq_nil, tksq_cons, itq_l, itq_t, setRq_v, setRq_o, setRq_s, retq_v, retq_o, retq_s, boolq, zipq, arg1q_v, arg1q_o, arg1q_s, callq, parKq_v, parKq_o, parKq_s, setRsq, isSq_v, isSq_o, isSq_s, mthq_append, mthq_extend, mthq_pop, lsq, bindq_nm, bindq_t, bindq_l, bindsq_nil, bindsq_cons, O.bind_ok, O.of_some, argD, ioSlots, backIo, slotsR, borrows, parL, setL, List.getElem?_cons_succ, List.getElem?_cons_zero, List.set_cons_succ, List.set_cons_zero, reduceIte, if_true, if_false, Bool.false_eq_true, Bool.not_true, Bool.not_false, true_and, and_true, true_or, or_true, decide_true, decide_false, ne_eq, not_false_eq_true, not_true_eq_false, Int.reduceAdd, Int.reduceSub, Int.reduceMul, List.append_nil, List.nil_append, List.cons_append, reduceCtorEq, List.length_cons, List.length_nil, Nat.reduceAdd, Nat.reduceLT, Nat.reduceLeDiff, sz0, sz1, sz2, sz3, sz4, sz5, slt0, Bool.and_true, Bool.true_and, Nat.reduceBEq, List.nodup_cons, List.not_mem_nil, List.nodup_nil, false_or, Bool.or_false, Bool.false_or, and_self, Int.reduceEq, Int.reduceNe, itB, itT, itL, i0, i1, nab5, nab7, nab997]
  generalize (if z < 0 then -z else z) = num at s1
  have hp : opO (.bin .pow) [.int 10, .int 18] = some (.v (.int 1000000000000000000)) := rfl
  by_cases h : num < 1000000000000000000
  · have hm1 := mulS num (j := 48271) (by decide) (by decide)
    have hm2 := mulS ((num * 48271 + 11).fmod 2147483647) (j := 69621) (by decide) (by decide)
    obtain ⟨x, hx⟩ : ∃ x, x = (num * 48271 + 11).fmod 2147483647 := ⟨_, rfl⟩
    have hlen2 := encN_len (n := 1000000) (by simp; omega) (Nat.le_refl _) (ds := ds ++ [(x * 69621 + num).fmod 2147483629])
    obtain ⟨ds', num', e5', k1, k2⟩ := f_draws0 (C := C) e0 (some (.int z, .fz)) (some (.int x, .fz)) e5 e6 (ds ++ [(x * 69621 + num).fmod 2147483629] ++ [(x + num.fdiv 7).fmod 1000003]) 0 (by simp; omega)
    refine ⟨ds', num', _, e5', (exSs_cons s1).trans ((exSs_cons (e1 := [e0, some (encN (ds ++ [(x * 69621 + num).fmod 2147483629] ++ [(x + num.fdiv 7).fmod 1000003]), .ow), some (.int z, .fz), some (.int 0, .fz), some (.int x, .fz), e5, e6]) ?_).trans ((exSs_cons k1).trans exSs_nil)), by simp at k2; omega⟩
    rw [← hx] at hm2
    rw [← encN_app]
    have hL : (ds ++ [(x * 69621 + num).fmod 2147483629]).map PyData.int = ds.map PyData.int ++ [PyData.int ((x * 69621 + num).fmod 2147483629)] := by simp
    rw [hL] at hlen2 ⊢
    unfold encN
    generalize ds.map PyData.int = L at hlen hlen2 ⊢
    simp only [h, hp, hm1, hm2, hlen, hlen2, ← hx, andq, orq, negq, lockE_v, lockE_o, lockE_nil, wipeE_cons, wipeE_nil, backE_cons, backE_nil, unlockE_nil, evq_var, evq_con, evq_tup, evq_lst, evq_op, evq_chain, evq_and, evq_or, evq_ite, evq_call, evq_mth, evq_nil, evq_cons, evq_star, evq_val, evq_rng, evq_zip, exq_set, exq_unp, exq_par, exq_expr, exq_ret, exq_iff, exq_nil, exq_cons, opq_add, opq_sub, opq_mul, opq_mod, opq_fdiv, opq_neg, opq_lt, opq_le, opq_gt, opq_ge, opq_eqI, opq_neI, opq_eqB, opq_neB, opq_isN, opq_isnN, opq_isT, opq_isnT, opq_isB, opq_isnB, opq_truB, opq_not, opq_asI, opq_i0, opq_i1, opq_l0, opq_l1, opq_max2, opq_min2, opq_lenL, opq_lenT, opq_tupL, opq_tupT, opq_lstL, opq_lstT, opq_revL, opq_abs, opq_int, opq_addT, opq_addL, opq_sum, opq_min1, opq_max1, opq_slT, opq_slD, opq_slTL, rdq_v, rdq_o, rdq_s, rdsq_nil, rdsq_cons, tkq_v, tkq_o, tkq_s, tksq_nil, tksq_cons, itq_l, itq_t, setRq_v, setRq_o, setRq_s, retq_v, retq_o, retq_s, boolq, zipq, arg1q_v, arg1q_o, arg1q_s, callq, parKq_v, parKq_o, parKq_s, setRsq, isSq_v, isSq_o, isSq_s, mthq_append, mthq_extend, mthq_pop, lsq, bindq_nm, bindq_t, bindq_l, bindsq_nil, bindsq_cons, O.bind_ok, O.of_some, argD, ioSlots, backIo, slotsR, borrows, parL, setL, List.getElem?_cons_succ, List.getElem?_cons_zero, List.set_cons_succ, List.set_cons_zero, reduceIte, if_true, if_false, Bool.false_eq_true, Bool.not_true, Bool.not_false, true_and, and_true, true_or, or_true, decide_true, decide_false, ne_eq, not_false_eq_true, not_true_eq_false, Int.reduceAdd, Int.reduceSub, Int.reduceMul, List.append_nil, List.nil_append, List.cons_append, reduceCtorEq, List.length_cons, List.length_nil, Nat.reduceAdd, Nat.reduceLT, Nat.reduceLeDiff, sz0, sz1, sz2, sz3, sz4, sz5, slt0, Bool.and_true, Bool.true_and, Nat.reduceBEq, List.nodup_cons, List.not_mem_nil, List.nodup_nil, false_or, Bool.or_false, Bool.false_or, and_self, Int.reduceEq, Int.reduceNe, itB, itT, itL, i0, i1, nab5, nab7, nab997]
  · obtain ⟨ds', num', e5', k1, k2⟩ := f_draws0 (C := C) e0 (some (.int z, .fz)) e4 e5 e6 ds num (by omega)
    refine ⟨ds', num', e4, e5', (exSs_cons s1).trans ((exSs_cons (e1 := [e0, some (encN ds, .ow), some (.int z, .fz), some (.int num, .fz), e4, e5, e6]) ?_).trans ((exSs_cons k1).trans exSs_nil)), by omega⟩
    simp only [h, hp, andq, orq, negq, lockE_v, lockE_o, lockE_nil, wipeE_cons, wipeE_nil, backE_cons, backE_nil, unlockE_nil, evq_var, evq_con, evq_tup, evq_lst, evq_op, evq_chain, evq_and, evq_or, evq_ite, evq_call, evq_mth, evq_nil, evq_cons, evq_star, evq_val, evq_rng, evq_zip, exq_set, exq_unp, exq_par, exq_expr, exq_ret, exq_iff, exq_nil, exq_cons, opq_add, opq_sub, opq_mul, opq_mod, opq_fdiv, opq_neg, opq_lt, opq_le, opq_gt, opq_ge, opq_eqI, opq_neI, opq_eqB, opq_neB, opq_isN, opq_isnN, opq_isT, opq_isnT, opq_isB, opq_isnB, opq_truB, opq_not, opq_asI, opq_i0, opq_i1, opq_l0, opq_l1, opq_max2, opq_min2, opq_lenL, opq_lenT, opq_tupL, opq_tupT, opq_lstL, opq_lstT, opq_revL, opq_abs, opq_int, opq_addT, opq_addL, opq_sum, opq_min1, opq_max1, opq_slT, opq_slD, opq_slTL, rdq_v, rdq_o, rdq_s, rdsq_nil, rdsq_cons, tkq_v, tkq_o, tkq_s, tksq_nil, tksq_cons, itq_l, itq_t, setRq_v, setRq_o, setRq_s, retq_v, retq_o, retq_s, boolq, zipq, arg1q_v, arg1q_o, arg1q_s, callq, parKq_v, parKq_o, parKq_s, setRsq, isSq_v, isSq_o, isSq_s, mthq_append, mthq_extend, mthq_pop, lsq, bindq_nm, bindq_t, bindq_l, bindsq_nil, bindsq_cons, O.bind_ok, O.of_some, argD, ioSlots, backIo, slotsR, borrows, parL, setL, List.getElem?_cons_succ, List.getElem?_cons_zero, List.set_cons_succ, List.set_cons_zero, reduceIte, if_true, if_false, Bool.false_eq_true, Bool.not_true, Bool.not_false, true_and, and_true, true_or, or_true, decide_true, decide_false, ne_eq, not_false_eq_true, not_true_eq_false, Int.reduceAdd, Int.reduceSub, Int.reduceMul, List.append_nil, List.nil_append, List.cons_append, reduceCtorEq, List.length_cons, List.length_nil, Nat.reduceAdd, Nat.reduceLT, Nat.reduceLeDiff, sz0, sz1, sz2, sz3, sz4, sz5, slt0, Bool.and_true, Bool.true_and, Nat.reduceBEq, List.nodup_cons, List.not_mem_nil, List.nodup_nil, false_or, Bool.or_false, Bool.false_or, and_self, Int.reduceEq, Int.reduceNe, itB, itT, itL, i0, i1, nab5, nab7, nab997]
theorem f_draws1 (zs : List Int) (hz : zs.length ≤ 1000) : ∃ (ds : List Int) (e2 e3 e4 e5 : Slot), exS C f_law_draws_1 [some (encN zs, .fz), some (.list [], .ow), none, none, none, none, none] = .ok .nx [some (encN zs, .fz), some (encN ds, .ow), e2, e3, e4, e5, none] ∧ ds.length ≤ 62 * zs.length := by
  obtain ⟨e, k1, dn, ds, e2, e3, e4, e5, k2, k3, rfl⟩ := for_map (C := C) (p := .nm 2) (it := .val (.var 0)) (b := fb_law_draws_1) (xs := zs) (h := PyData.int) (ws := [.v (encN zs)]) (env := [some (encN zs, .fz), some (encN [], .ow), none, none, none, none, none]) (e1 := [some (encN zs, .fz), some (encN [], .ow), none, none, none, none, none]) (by simp only [itN, andq, orq, negq, lockE_v, lockE_o, lockE_nil, wipeE_cons, wipeE_nil, backE_cons, backE_nil, unlockE_nil, evq_var, evq_con, evq_tup, evq_lst, evq_op, evq_chain, evq_and, evq_or, evq_ite, evq_call, evq_mth, evq_nil, evq_cons, evq_star, evq_val, evq_rng, evq_zip, exq_set, exq_unp, exq_par, exq_expr, exq_ret, exq_iff, exq_nil, exq_cons, opq_add, opq_sub, opq_mul, opq_mod, opq_fdiv, opq_neg, opq_lt, opq_le, opq_gt, opq_ge, opq_eqI, opq_neI, opq_eqB, opq_neB, opq_isN, opq_isnN, opq_isT, opq_isnT, opq_isB, opq_isnB, opq_truB, opq_not, opq_asI, opq_i0, opq_i1, opq_l0, opq_l1, opq_max2, opq_min2, opq_lenL, opq_lenT, opq_tupL, opq_tupT, opq_lstL, opq_lstT, opq_revL, opq_abs, opq_int, opq_addT, opq_addL, opq_sum, opq_min1, opq_max1, opq_slT, opq_slD, opq_slTL, rdq_v, rdq_o, rdq_s, rdsq_nil, rdsq_cons, tkq_v, tkq_o, tkq_s, tksq_nil, tksq_cons, itq_l, itq_t, setRq_v, setRq_o, setRq_s, retq_v, retq_o, retq_s, boolq, zipq, arg1q_v, arg1q_o, arg1q_s, callq, parKq_v, parKq_o, parKq_s, setRsq, isSq_v, isSq_o, isSq_s, mthq_append, mthq_extend, mthq_pop, lsq, bindq_nm, bindq_t, bindq_l, bindsq_nil, bindsq_cons, O.bind_ok, O.of_some, argD, ioSlots, backIo, slotsR, borrows, parL, setL, List.getElem?_cons_succ, List.getElem?_cons_zero, List.set_cons_succ, List.set_cons_zero, reduceIte, if_true, if_false, Bool.false_eq_true, Bool.not_true, Bool.not_false, true_and, and_true, true_or, or_true, decide_true, decide_false, ne_eq, not_false_eq_true, not_true_eq_false, Int.reduceAdd, Int.reduceSub, Int.reduceMul, List.append_nil, List.nil_append, List.cons_append, reduceCtorEq, List.length_cons, List.length_nil, Nat.reduceAdd, Nat.reduceLT, Nat.reduceLeDiff, sz0, sz1, sz2, sz3, sz4, sz5, slt0, Bool.and_true, Bool.true_and, Nat.reduceBEq, List.nodup_cons, List.not_mem_nil, List.nodup_nil, false_or, Bool.or_false, Bool.false_or, and_self, Int.reduceEq, Int.reduceNe, itB, itT, itL, i0, i1, nab5, nab7, nab997]) (fun rest e => ∃ (dn ds : List Int) (e2 e3 e4 e5 : Slot), zs = dn ++ rest ∧ ds.length ≤ 62 * dn.length ∧ e = [some (encN zs, .fz), some (encN ds, .ow), e2, e3, e4, e5, none])
    ⟨[], [], none, none, none, none, rfl, by simp, rfl⟩ (fun ds e ⟨_, _, _, _, _, _, _, _, h⟩ => by rw [h]; rfl) (fun d rest e h => by
      obtain ⟨dn, ds, e2, e3, e4, e5, k2, k3, rfl⟩ := h
      have hd : dn.length < zs.length := by rw [k2]; simp
      obtain ⟨d2, n2, e4', e5', k4, k5⟩ := fb_draws1 (C := C) (some (encN zs, .fz)) e3 e4 e5 none ds d (by omega)
      exact ⟨_, _, rfl, k4, dn ++ [d], d2, _, _, _, _, by simp [k2], by simp only [List.length_append, List.length_cons, List.length_nil]; omega, rfl⟩)
  have : dn = zs := by simpa using k2.symm
  subst this
  exact ⟨ds, e2, e3, e4, e5, k1, k3⟩
theorem fb_draws2 (e0 e2 e3 e4 e5 : Slot) (ds : List Int) (s : Int) (hl : ds.length ≤ 1000000) : ∃ (ds' : List Int) (s' : Int), exSs C fb_law_draws_2 [e0, some (encN ds, .ow), e2, e3, e4, e5, some (.int s, .fz)] = .ok .nx [e0, some (encN ds', .ow), e2, e3, e4, e5, some (.int s', .fz)] ∧ ds'.length ≤ ds.length + 1 := by
  have hlen := encN_len hl (Nat.le_refl _)
  have hm1 := mulS s (j := 48271) (by decide) (by decide)
  refine ⟨ds ++ [((s * 48271 + 69621).fmod 2147483647).fdiv 5], (s * 48271 + 69621).fmod 2147483647, ?_, by simp⟩
  rw [← encN_app]
  unfold encN
  generalize ds.map PyData.int = L at hlen ⊢
  simp only [fb_law_draws_2, hm1, hlen, andq, orq, negq, lockE_v, lockE_o, lockE_nil, wipeE_cons, wipeE_nil, backE_cons, backE_nil, unlockE_nil, evq_var, evq_con, evq_tup, evq_lst, evq_op, evq_chain, evq_and, evq_or, evq_ite, evq_call, evq_mth, evq_nil, evq_cons, evq_star, evq_val, evq_rng, evq_zip, exq_set, exq_unp, exq_par, exq_expr, exq_ret, exq_iff, exq_nil, exq_cons, opq_add, opq_sub, opq_mul, opq_mod, opq_fdiv, opq_neg, opq_lt, opq_le, opq_gt, opq_ge, opq_eqI, opq_neI, opq_eqB, opq_neB, opq_isN, opq_isnN, opq_isT, opq_isnT, opq_isB, opq_isnB, opq_truB, opq_not, opq_asI, opq_i0, opq_i1, opq_l0, opq_l1, opq_max2, opq_min2, opq_lenL, opq_lenT, opq_tupL, opq_tupT, opq_lstL, opq_lstT, opq_revL, opq_abs, opq_int, opq_addT, opq_addL, opq_sum, opq_min1, opq_max1, opq_slT, opq_slD, opq_slTL, rdq_v, rdq_o, rdq_s, rdsq_nil, rdsq_cons, tkq_v, tkq_o, tkq_s, tksq_nil, tksq_cons, itq_l, itq_t, setRq_v, setRq_o, setRq_s, retq_v, retq_o, retq_s, boolq, zipq, arg1q_v, arg1q_o, arg1q_s, callq, parKq_v, parKq_o, parKq_s, setRsq, isSq_v, isSq_o, isSq_s, mthq_append, mthq_extend, mthq_pop, lsq, bindq_nm, bindq_t, bindq_l, bindsq_nil, bindsq_cons, O.bind_ok, O.of_some, argD, ioSlots, backIo, slotsR, borrows, parL, setL, List.getElem?_cons_succ, List.getElem?_cons_zero, List.set_cons_succ, List.set_cons_zero, reduceIte, if_true, if_false, Bool.false_eq_true, Bool.not_true, Bool.not_false, true_and, and_true, true_or, or_true, decide_true, decide_false, ne_eq, not_false_eq_true, not_true_eq_false, Int.reduceAdd, Int.reduceSub, Int.reduceMul, List.append_nil, List.nil_append, List.cons_append, reduceCtorEq, List.length_cons, List.length_nil, Nat.reduceAdd, Nat.reduceLT, Nat.reduceLeDiff, sz0, sz1, sz2, sz3, sz4, sz5, slt0, Bool.and_true, Bool.true_and, Nat.reduceBEq, List.nodup_cons, List.not_mem_nil, List.nodup_nil, false_or, Bool.or_false, Bool.false_or, and_self, Int.reduceEq, Int.reduceNe, itB, itT, itL, i0, i1, nab5, nab7, nab997]
theorem f_draws2 (e0 e2 e3 e4 e5 : Slot) (ds : List Int) (s : Int) (hl : ds.length ≤ 900000) : ∃ (ds' : List Int) (s' : Int) (e5' : Slot), exS C f_law_draws_2 [e0, some (encN ds, .ow), e2, e3, e4, e5, some (.int s, .fz)] = .ok .nx [e0, some (encN ds', .ow), e2, e3, e4, e5', some (.int s', .fz)] := by
  obtain ⟨e, k1, ds', num', e5', k2, rfl⟩ := for_rng (C := C) (p := .nm 5) (it := .rng (.cons (.con (.int 900)) .nil)) (b := fb_law_draws_2) (n := 900) (ws := []) (env := [e0, some (encN ds, .ow), e2, e3, e4, e5, some (.int s, .fz)]) (e1 := [e0, some (encN ds, .ow), e2, e3, e4, e5, some (.int s, .fz)]) (evIt_rng1 (n := 900) (r := .v (.int 900)) (by simp only [andq, orq, negq, lockE_v, lockE_o, lockE_nil, wipeE_cons, wipeE_nil, backE_cons, backE_nil, unlockE_nil, evq_var, evq_con, evq_tup, evq_lst, evq_op, evq_chain, evq_and, evq_or, evq_ite, evq_call, evq_mth, evq_nil, evq_cons, evq_star, evq_val, evq_rng, evq_zip, exq_set, exq_unp, exq_par, exq_expr, exq_ret, exq_iff, exq_nil, exq_cons, opq_add, opq_sub, opq_mul, opq_mod, opq_fdiv, opq_neg, opq_lt, opq_le, opq_gt, opq_ge, opq_eqI, opq_neI, opq_eqB, opq_neB, opq_isN, opq_isnN, opq_isT, opq_isnT, opq_isB, opq_isnB, opq_truB, opq_not, opq_asI, opq_i0, opq_i1, opq_l0, opq_l1, opq_max2, opq_min2, opq_lenL, opq_lenT, opq_tupL, opq_tupT, opq_lstL, opq_lstT, opq_revL, opq_abs, opq_int, opq_addT, opq_addL, opq_sum, opq_min1, opq_max1, opq_slT, opq_slD, opq_slTL, rdq_v, rdq_o, rdq_s, rdsq_nil, rdsq_cons, tkq_v, tkq_o, tkq_s, tksq_nil, tksq_cons, itq_l, itq_t, setRq_v, setRq_o, setRq_s, retq_v, retq_o, retq_s, boolq, zipq, arg1q_v, arg1q_o, arg1q_s, callq, parKq_v, parKq_o, parKq_s, setRsq, isSq_v, isSq_o, isSq_s, mthq_append, mthq_extend, mthq_pop, lsq, bindq_nm, bindq_t, bindq_l, bindsq_nil, bindsq_cons, O.bind_ok, O.of_some, argD, ioSlots, backIo, slotsR, borrows, parL, setL, List.getElem?_cons_succ, List.getElem?_cons_zero, List.set_cons_succ, List.set_cons_zero, reduceIte, if_true, if_false, Bool.false_eq_true, Bool.not_true, Bool.not_false, true_and, and_true, true_or, or_true, decide_true, decide_false, ne_eq, not_false_eq_true, not_true_eq_false, Int.reduceAdd, Int.reduceSub, Int.reduceMul, List.append_nil, List.nil_append, List.cons_append, reduceCtorEq, List.length_cons, List.length_nil, Nat.reduceAdd, Nat.reduceLT, Nat.reduceLeDiff, sz0, sz1, sz2, sz3, sz4, sz5, slt0, Bool.and_true, Bool.true_and, Nat.reduceBEq, List.nodup_cons, List.not_mem_nil, List.nodup_nil, false_or, Bool.or_false, Bool.false_or, and_self, Int.reduceEq, Int.reduceNe, itB, itT, itL, i0, i1, nab5, nab7, nab997]) rfl (by decide)) (fun i e => ∃ (ds' : List Int) (s' : Int) (e5 : Slot), ds'.length ≤ ds.length + i ∧ e = [e0, some (encN ds', .ow), e2, e3, e4, e5, some (.int s', .fz)])
    ⟨ds, s, e5, by omega, rfl⟩ (fun _ _ _ => rfl) (fun i e hi h => by
      obtain ⟨ds', s', e5', k2, rfl⟩ := h
      obtain ⟨d2, s2, k3, k4⟩ := fb_draws2 (C := C) e0 e2 e3 e4 (some (.int i, .fz)) ds' s' (by omega)
      exact ⟨_, _, rfl, k3, d2, s2, _, by omega, rfl⟩)
  exact ⟨ds', num', e5', k1⟩
theorem run_draws (zs : List Int) (hz : zs.length ≤ 1000) : ∃ ds : List Int, runFn C ⟨1, 7, b_law_draws⟩ [(encN zs, false)] = .ok (encN ds) true [.none] := by
  obtain ⟨ds, e2, e3, e4, e5, k1, k2⟩ := f_draws1 (C := C) zs hz
  have s3 : ∃ s, exS C (.iff (.op (.cmp .gt) (.cons (.op (.bi .len) (.cons (.var 0) .nil)) (.cons (.con (.int 0)) .nil))) (.cons (.set 6 false (.op (.bin .add) (.cons (.con (.int 1)) (.cons (.op (.bi .abs) (.cons (.op .idx (.cons (.var 0) (.cons (.con (.int 0)) .nil))) .nil)) .nil)))) .nil) .nil) [some (encN zs, .fz), some (encN ds, .ow), e2, e3, e4, e5, some (.int 1, .fz)] = .ok .nx [some (encN zs, .fz), some (encN ds, .ow), e2, e3, e4, e5, some (.int s, .fz)] := by
    cases zs with
    | nil =>
      refine ⟨1, ?_⟩
      have h : opO (.bi .len) [encN []] = some (.v (.int 0)) := rfl
      simp only [h, Int.lt_irrefl, andq, orq, negq, lockE_v, lockE_o, lockE_nil, wipeE_cons, wipeE_nil, backE_cons, backE_nil, unlockE_nil, evq_var, evq_con, evq_tup, evq_lst, evq_op, evq_chain, evq_and, evq_or, evq_ite, evq_call, evq_mth, evq_nil, evq_cons, evq_star, evq_val, evq_rng, evq_zip, exq_set, exq_unp, exq_par, exq_expr, exq_ret, exq_iff, exq_nil, exq_cons, opq_add, opq_sub, opq_mul, opq_mod, opq_fdiv, opq_neg, opq_lt, opq_le, opq_gt, opq_ge, opq_eqI, opq_neI, opq_eqB, opq_neB, opq_isN, opq_isnN, opq_isT, opq_isnT, opq_isB, opq_isnB, opq_truB, opq_not, opq_asI, opq_i0, opq_i1, opq_l0, opq_l1, opq_max2, opq_min2, opq_lenL, opq_lenT, opq_tupL, opq_tupT, opq_lstL, opq_lstT, opq_revL, opq_abs, opq_int, opq_addT, opq_addL, opq_sum, opq_min1, opq_max1, opq_slT, opq_slD, opq_slTL, rdq_v, rdq_o, rdq_s, rdsq_nil, rdsq_cons, tkq_v, tkq_o, tkq_s, tksq_nil, tksq_cons, itq_l, itq_t, setRq_v, setRq_o, setRq_s, retq_v, retq_o, retq_s, boolq, zipq, arg1q_v, arg1q_o, arg1q_s, callq, parKq_v, parKq_o, parKq_s, setRsq, isSq_v, isSq_o, isSq_s, mthq_append, mthq_extend, mthq_pop, lsq, bindq_nm, bindq_t, bindq_l, bindsq_nil, bindsq_cons, O.bind_ok, O.of_some, argD, ioSlots, backIo, slotsR, borrows, parL, setL, List.getElem?_cons_succ, List.getElem?_cons_zero, List.set_cons_succ, List.set_cons_zero, reduceIte, if_true, if_false, Bool.false_eq_true, Bool.not_true, Bool.not_false, true_and, and_true, true_or, or_true, decide_true, decide_false, ne_eq, not_false_eq_true, not_true_eq_false, Int.reduceAdd, Int.reduceSub, Int.reduceMul, List.append_nil, List.nil_append, List.cons_append, reduceCtorEq, List.length_cons, List.length_nil, Nat.reduceAdd, Nat.reduceLT, Nat.reduceLeDiff, sz0, sz1, sz2, sz3, sz4, sz5, slt0, Bool.and_true, Bool.true_and, Nat.reduceBEq, List.nodup_cons, List.not_mem_nil, List.nodup_nil, false_or, Bool.or_false, Bool.false_or, and_self, Int.reduceEq, Int.reduceNe, itB, itT, itL, i0, i1, nab5, nab7, nab997]
    | cons z zs =>
      have h : opO (.bi .len) [encN (z :: zs)] = some (.v (.int ((zs.length : Int) + 1))) := by
        rw [encN, opq_lenL]
        simp
      have h0 : opO .idx [encN (z :: zs), .int 0] = some (.v (.int z)) := opq_l0 _ _
      have hp : decide ((0 : Int) < (zs.length : Int) + 1) = true := decide_eq_true (by omega)
      refine ⟨1 + (if z < 0 then -z else z), ?_⟩
      simp only [h, hp, h0, andq, orq, negq, lockE_v, lockE_o, lockE_nil, wipeE_cons, wipeE_nil, backE_cons, backE_nil, unlockE_nil, evq_var, evq_con, evq_tup, evq_lst, evq_op, evq_chain, evq_and, evq_or, evq_ite, evq_call, evq_mth, evq_nil, evq_cons, evq_star, evq_val, evq_rng, evq_zip, exq_set, exq_unp, exq_par, exq_expr, exq_ret, exq_iff, exq_nil, exq_cons, opq_add, opq_sub, opq_mul, opq_mod, opq_fdiv, opq_neg, opq_lt, opq_le, opq_gt, opq_ge, opq_eqI, opq_neI, opq_eqB, opq_neB, opq_isN, opq_isnN, opq_isT, opq_isnT, opq_isB, opq_isnB, opq_truB, opq_not, opq_asI, opq_i0, opq_i1, opq_l0, opq_l1, opq_max2, opq_min2, opq_lenL, opq_lenT, opq_tupL, opq_tupT, opq_lstL, opq_lstT, opq_revL, opq_abs, opq_int, opq_addT, opq_addL, opq_sum, opq_min1, opq_max1, opq_slT, opq_slD, opq_slTL, rdq_v, rdq_o, rdq_s, rdsq_nil, rdsq_cons, tkq_v, tkq_o, tkq_s, tksq_nil, tksq_cons, itq_l, itq_t, setRq_v, setRq_o, setRq_s, retq_v, retq_o, retq_s, boolq, zipq, arg1q_v, arg1q_o, arg1q_s, callq, parKq_v, parKq_o, parKq_s, setRsq, isSq_v, isSq_o, isSq_s, mthq_append, mthq_extend, mthq_pop, lsq, bindq_nm, bindq_t, bindq_l, bindsq_nil, bindsq_cons, O.bind_ok, O.of_some, argD, ioSlots, backIo, slotsR, borrows, parL, setL, List.getElem?_cons_succ, List.getElem?_cons_zero, List.set_cons_succ, List.set_cons_zero, reduceIte, if_true, if_false, Bool.false_eq_true, Bool.not_true, Bool.not_false, true_and, and_true, true_or, or_true, decide_true, decide_false, ne_eq, not_false_eq_true, not_true_eq_false, Int.reduceAdd, Int.reduceSub, Int.reduceMul, List.append_nil, List.nil_append, List.cons_append, reduceCtorEq, List.length_cons, List.length_nil, Nat.reduceAdd, Nat.reduceLT, Nat.reduceLeDiff, sz0, sz1, sz2, sz3, sz4, sz5, slt0, Bool.and_true, Bool.true_and, Nat.reduceBEq, List.nodup_cons, List.not_mem_nil, List.nodup_nil, false_or, Bool.or_false, Bool.false_or, and_self, Int.reduceEq, Int.reduceNe, itB, itT, itL, i0, i1, nab5, nab7, nab997]
  obtain ⟨s, s3⟩ := s3
  obtain ⟨ds', s', e5', k4⟩ := f_draws2 (C := C) (some (encN zs, .fz)) e2 e3 e4 e5 ds s (by omega)
  refine ⟨ds'.reverse, ?_⟩
  refine runFn_ret [some (encN zs, .fz), none, none, none, none, none, none] (env := [some (encN zs, .fz), some (encN ds', .ow), e2, e3, e4, e5', some (.int s', .fz)]) rfl (by decide) rfl ((exSs_cons (e1 := [some (encN zs, .fz), some (.list [], .ow), none, none, none, none, none]) (by simp only [andq, orq, negq, lockE_v, lockE_o, lockE_nil, wipeE_cons, wipeE_nil, backE_cons, backE_nil, unlockE_nil, evq_var, evq_con, evq_tup, evq_lst, evq_op, evq_chain, evq_and, evq_or, evq_ite, evq_call, evq_mth, evq_nil, evq_cons, evq_star, evq_val, evq_rng, evq_zip, exq_set, exq_unp, exq_par, exq_expr, exq_ret, exq_iff, exq_nil, exq_cons, opq_add, opq_sub, opq_mul, opq_mod, opq_fdiv, opq_neg, opq_lt, opq_le, opq_gt, opq_ge, opq_eqI, opq_neI, opq_eqB, opq_neB, opq_isN, opq_isnN, opq_isT, opq_isnT, opq_isB, opq_isnB, opq_truB, opq_not, opq_asI, opq_i0, opq_i1, opq_l0, opq_l1, opq_max2, opq_min2, opq_lenL, opq_lenT, opq_tupL, opq_tupT, opq_lstL, opq_lstT, opq_revL, opq_abs, opq_int, opq_addT, opq_addL, opq_sum, opq_min1, opq_max1, opq_slT, opq_slD, opq_slTL, rdq_v, rdq_o, rdq_s, rdsq_nil, rdsq_cons, tkq_v, tkq_o, tkq_s, tksq_nil, tksq_cons, itq_l, itq_t, setRq_v, setRq_o, setRq_s, retq_v, retq_o, retq_s, boolq, zipq, arg1q_v, arg1q_o, arg1q_s, callq, parKq_v, parKq_o, parKq_s, setRsq, isSq_v, isSq_o, isSq_s, mthq_append, mthq_extend, mthq_pop, lsq, bindq_nm, bindq_t, bindq_l, bindsq_nil, bindsq_cons, O.bind_ok, O.of_some, argD, ioSlots, backIo, slotsR, borrows, parL, setL, List.getElem?_cons_succ, List.getElem?_cons_zero, List.set_cons_succ, List.set_cons_zero, reduceIte, if_true, if_false, Bool.false_eq_true, Bool.not_true, Bool.not_false, true_and, and_true, true_or, or_true, decide_true, decide_false, ne_eq, not_false_eq_true, not_true_eq_false, Int.reduceAdd, Int.reduceSub, Int.reduceMul, List.append_nil, List.nil_append, List.cons_append, reduceCtorEq, List.length_cons, List.length_nil, Nat.reduceAdd, Nat.reduceLT, Nat.reduceLeDiff, sz0, sz1, sz2, sz3, sz4, sz5, slt0, Bool.and_true, Bool.true_and, Nat.reduceBEq, List.nodup_cons, List.not_mem_nil, List.nodup_nil, false_or, Bool.or_false, Bool.false_or, and_self, Int.reduceEq, Int.reduceNe, itB, itT, itL, i0, i1, nab5, nab7, nab997])).trans ((exSs_cons k1).trans ((exSs_cons (e1 := [some (encN zs, .fz), some (encN ds, .ow), e2, e3, e4, e5, some (.int 1, .fz)]) (by simp only [andq, orq, negq, lockE_v, lockE_o, lockE_nil, wipeE_cons, wipeE_nil, backE_cons, backE_nil, unlockE_nil, evq_var, evq_con, evq_tup, evq_lst, evq_op, evq_chain, evq_and, evq_or, evq_ite, evq_call, evq_mth, evq_nil, evq_cons, evq_star, evq_val, evq_rng, evq_zip, exq_set, exq_unp, exq_par, exq_expr, exq_ret, exq_iff, exq_nil, exq_cons, opq_add, opq_sub, opq_mul, opq_mod, opq_fdiv, opq_neg, opq_lt, opq_le, opq_gt, opq_ge, opq_eqI, opq_neI, opq_eqB, opq_neB, opq_isN, opq_isnN, opq_isT, opq_isnT, opq_isB, opq_isnB, opq_truB, opq_not, opq_asI, opq_i0, opq_i1, opq_l0, opq_l1, opq_max2, opq_min2, opq_lenL, opq_lenT, opq_tupL, opq_tupT, opq_lstL, opq_lstT, opq_revL, opq_abs, opq_int, opq_addT, opq_addL, opq_sum, opq_min1, opq_max1, opq_slT, opq_slD, opq_slTL, rdq_v, rdq_o, rdq_s, rdsq_nil, rdsq_cons, tkq_v, tkq_o, tkq_s, tksq_nil, tksq_cons, itq_l, itq_t, setRq_v, setRq_o, setRq_s, retq_v, retq_o, retq_s, boolq, zipq, arg1q_v, arg1q_o, arg1q_s, callq, parKq_v, parKq_o, parKq_s, setRsq, isSq_v, isSq_o, isSq_s, mthq_append, mthq_extend, mthq_pop, lsq, bindq_nm, bindq_t, bindq_l, bindsq_nil, bindsq_cons, O.bind_ok, O.of_some, argD, ioSlots, backIo, slotsR, borrows, parL, setL, List.getElem?_cons_succ, List.getElem?_cons_zero, List.set_cons_succ, List.set_cons_zero, reduceIte, if_true, if_false, Bool.false_eq_true, Bool.not_true, Bool.not_false, true_and, and_true, true_or, or_true, decide_true, decide_false, ne_eq, not_false_eq_true, not_true_eq_false, Int.reduceAdd, Int.reduceSub, Int.reduceMul, List.append_nil, List.nil_append, List.cons_append, reduceCtorEq, List.length_cons, List.length_nil, Nat.reduceAdd, Nat.reduceLT, Nat.reduceLeDiff, sz0, sz1, sz2, sz3, sz4, sz5, slt0, Bool.and_true, Bool.true_and, Nat.reduceBEq, List.nodup_cons, List.not_mem_nil, List.nodup_nil, false_or, Bool.or_false, Bool.false_or, and_self, Int.reduceEq, Int.reduceNe, itB, itT, itL, i0, i1, nab5, nab7, nab997])).trans ((exSs_cons s3).trans ((exSs_cons k4).trans (exSs_ret (exS_ret (ev_op1 (r := .s 1) (d := encN ds') rfl rfl (opq_revL _)) ?_))))))) rfl
  rw [← List.map_reverse]
  rfl
end
end K8
set_option maxRecDepth 100000
-- ex: itB, itT, itL, i0, i1
-- env: 27 none: 25,26
namespace K8
open Mi Bx PySem
/-- what the defs do -/
structure Has (C : Den) : Prop where
  t10 : C.mt 10 = fun j => decide (j = 0)
  t11 : C.mt 11 = fun j => decide (j = 0)
  t12 : C.mt 12 = fun j => decide (j = 0)
  r1 : ∀ a b : Box, a.length ≤ 1000 → C.run 1 [(encB a, false), (encB b, false)] = .ok (sharedD a b) false [.none, .none]
  r2 : ∀ (b : Box) (s : List Int), b.length ≤ 1000 → C.run 2 [(encB b, false), (encP s, false)] = .ok (encB (shiftB b s)) false [.none, .none]
  r3 : ∀ b : Box, (∀ p ∈ b, -(2 ^ 64) < p.2 - p.1 ∧ p.2 - p.1 < 2 ^ 64) → C.run 3 [(encB b, false)] = .ok (.int (vol b)) false [.none]
  r5 : ∀ a b : Box, a.length = b.length → a.length ≤ 1000 → C.run 5 [(encB a, false), (encB b, false)] = .ok (encL (Bx.without a b)) true [.none, .none]
  r6 : ∀ (u : Box), Fit u → ∀ (x : D) (bs : List Box), BoxesD x bs → Ok u bs → C.run 6 [(x, false)] = .ok (.int (volume bs)) false [.none]
  r7 : ∀ (u : Box), Fit u → ∀ (x y : D) (a b : List Box), BoxesD x a → BoxesD y b → Ok u a → Ok u b → a.length + b.length ≤ sizeLine → C.run 7 [(x, false), (y, false)] = .ok (.bool (sameRoom a b)) false [.none, .none]
  r8 : ∀ (bs : List Box) (n : Nat), bs ≠ [] → (∀ b ∈ bs, b.length = n) → bs.length ≤ sizeLine → n ≤ 1000 → C.run 8 [(encT bs, false)] = .ok (encB (hullB n bs)) false [.none]
  r9 : ∀ zs : List Int, zs.length ≤ 1000 → ∃ ds : List Int, C.run 9 [(encN zs, false)] = .ok (encN ds) true [.none]
  r10 : TakeOk C
  r11 : BoxOk C
  r12 : ∀ (ns : List Int) (n : Nat) (boxes far long : Int), 0 < boxes → boxes ≤ 1000 → 0 ≤ far → 0 < long → 0 < n → n ≤ 1000 → far ≤ 1000 →
    ∃ (ns' : List Int) (bs : List Box), C.run 12 [(encN ns, true), (.int n, false), (.int boxes, false), (.int far, false), (.int long, false)] = .ok (encT bs) false [encN ns', .none, .none, .none, .none] ∧ bs ≠ [] ∧ (bs.length : Int) ≤ boxes ∧ ∀ b ∈ bs, b.length = n ∧ Proper b ∧ ∀ p ∈ b, -far ≤ p.1 ∧ p.2 ≤ far + long
def uni (n : Nat) : Box := List.replicate n (-20, 20)
theorem uni_len (n : Nat) : (uni n).length = n := by simp [uni]
theorem cells_uni (n : Nat) : (cells (uni n)).length = 40 ^ n := by
  rw [cells_length, uni, List.map_replicate, List.prod_replicate_nat]
  rfl
theorem uni_fit {n : Nat} (h : n ≤ 3) : Fit (uni n) := by
  refine ⟨?_, by rw [uni_len]; omega, fun p hp => ?_⟩
  · rw [cells_uni]
    have : 40 ^ n ≤ 40 ^ 3 := Nat.pow_le_pow_right (by decide) h
    unfold sizeLine
    omega
  · have := List.eq_of_mem_replicate hp
    subst this
    exact ⟨by decide, by decide⟩
theorem sub_uni : ∀ {b : Box} {n : Nat}, b.length = n → (∀ p ∈ b, -20 ≤ p.1 ∧ p.2 ≤ 20) → Sub b (uni n)
  | [], 0, _, _ => trivial
  | p :: b, n + 1, hl, h => ⟨(h p List.mem_cons_self).1, (h p List.mem_cons_self).2, sub_uni (Nat.succ.inj hl) fun q hq => h q (List.mem_cons_of_mem _ hq)⟩
theorem isnS (a b : Box) : opO (.cmp .isn) [sharedD a b, .none] = some (.v (.bool (clashB a b))) := by
  unfold sharedD
  cases clashB a b <;> rfl
section
variable {C : Den} {e0 e1 e2 e3 e4 e5 e6 e7 e8 e9 e10 e11 e12 e13 e14 e15 e16 e17 e18 e19 e20 e21 e22 e23 e24 : Slot}
theorem s0 (H : Has C) (ns : List Int) : ∃ (ns' : List Int) (n : Nat), exS C s_law_1_0 [e0, some (encN ns, .ow), e2, e3, e4, e5, e6, e7, e8, e9, e10, e11, e12, e13, e14, e15, e16, e17, e18, e19, e20, e21, e22, e23, e24, none, none] = .ok .nx [e0, some (encN ns', .ow), e2, some (.int n, .fz), e4, e5, e6, e7, e8, e9, e10, e11, e12, e13, e14, e15, e16, e17, e18, e19, e20, e21, e22, e23, e24, none, none] ∧ 0 < n ∧ n ≤ 3 := by
  have r := H.r10 ns 2 (by decide)
  have t := takeV_ok ns (m := 2) (by decide)
  generalize takeV ns 2 = x at *
  obtain ⟨n, hn⟩ : ∃ n : Nat, 2 + x = (n : Int) := ⟨(2 + x).toNat, by omega⟩
  refine ⟨ns.dropLast, n, ?_, by omega, by omega⟩
  simp only [s_law_1_0, H.t10, r, hn, andq, orq, negq, lockE_v, lockE_o, lockE_nil, wipeE_cons, wipeE_nil, backE_cons, backE_nil, unlockE_nil, evq_var, evq_con, evq_tup, evq_lst, evq_op, evq_chain, evq_and, evq_or, evq_ite, evq_call, evq_mth, evq_nil, evq_cons, evq_star, evq_val, evq_rng, evq_zip, exq_set, exq_unp, exq_par, exq_expr, exq_ret, exq_iff, exq_nil, exq_cons, opq_add, opq_sub, opq_mul, opq_mod, opq_fdiv, opq_neg, opq_lt, opq_le, opq_gt, opq_ge, opq_eqI, opq_neI, opq_eqB, opq_neB, opq_isN, opq_isnN, opq_isT, opq_isnT, opq_isB, opq_isnB, opq_truB, opq_not, opq_asI, opq_i0, opq_i1, opq_l0, opq_l1, opq_max2, opq_min2, opq_lenL, opq_lenT, opq_tupL, opq_tupT, opq_lstL, opq_lstT, opq_revL, opq_abs, opq_int, opq_addT, opq_addL, opq_sum, opq_min1, opq_max1, opq_slT, opq_slD, opq_slTL, rdq_v, rdq_o, rdq_s, rdsq_nil, rdsq_cons, tkq_v, tkq_o, tkq_s, tksq_nil, tksq_cons, itq_l, itq_t, setRq_v, setRq_o, setRq_s, retq_v, retq_o, retq_s, boolq, zipq, arg1q_v, arg1q_o, arg1q_s, callq, parKq_v, parKq_o, parKq_s, setRsq, isSq_v, isSq_o, isSq_s, mthq_append, mthq_extend, mthq_pop, lsq, bindq_nm, bindq_t, bindq_l, bindsq_nil, bindsq_cons, O.bind_ok, O.of_some, argD, ioSlots, backIo, slotsR, borrows, parL, setL, List.getElem?_cons_succ, List.getElem?_cons_zero, List.set_cons_succ, List.set_cons_zero, reduceIte, if_true, if_false, Bool.false_eq_true, Bool.not_true, Bool.not_false, true_and, and_true, true_or, or_true, decide_true, decide_false, ne_eq, not_false_eq_true, not_true_eq_false, Int.reduceAdd, Int.reduceSub, Int.reduceMul, List.append_nil, List.nil_append, List.cons_append, reduceCtorEq, List.length_cons, List.length_nil, Nat.reduceAdd, Nat.reduceLT, Nat.reduceLeDiff, sz0, sz1, sz2, sz3, sz4, sz5, slt0, Bool.and_true, Bool.true_and, Nat.reduceBEq, List.nodup_cons, List.not_mem_nil, List.nodup_nil, false_or, Bool.or_false, Bool.false_or, and_self, Int.reduceEq, Int.reduceNe, itB, itT, itL, i0, i1]
theorem s1 (H : Has C) (ns : List Int) (n : Nat) (hn : n ≤ 3) : ∃ (ns' : List Int) (a b c : Box), exS C s_law_1_1 [e0, some (encN ns, .ow), e2, some (.int n, .fz), e4, e5, e6, e7, e8, e9, e10, e11, e12, e13, e14, e15, e16, e17, e18, e19, e20, e21, e22, e23, e24, none, none] = .ok .nx [e0, some (encN ns', .ow), e2, some (.int n, .fz), some (encB a, .fz), some (encB b, .fz), some (encB c, .fz), e7, e8, e9, e10, e11, e12, e13, e14, e15, e16, e17, e18, e19, e20, e21, e22, e23, e24, none, none] ∧ ∀ z ∈ [a, b, c], Proper z ∧ Sub z (uni n) := by
  obtain ⟨n1, a, a1, a2, a3, a4⟩ := H.r11 ns n 4 4 (by decide) (by decide) (by omega) (by decide)
  obtain ⟨n2, b, b1, b2, b3, b4⟩ := H.r11 n1 n 4 4 (by decide) (by decide) (by omega) (by decide)
  obtain ⟨n3, c, c1, c2, c3, c4⟩ := H.r11 n2 n 4 4 (by decide) (by decide) (by omega) (by decide)
  have hw : ∀ {z : Box}, (∀ p ∈ z, -4 ≤ p.1 ∧ p.2 ≤ (4 : Int) + 4) → ∀ p ∈ z, -20 ≤ p.1 ∧ p.2 ≤ 20 := fun h p hp => by have := h p hp; omega
  refine ⟨n3, a, b, c, ?_, fun z hz => ?_⟩
  · have hx : ev C x_law_0 [e0, some (encN ns, .ow), e2, some (.int n, .fz), e4, e5, e6, e7, e8, e9, e10, e11, e12, e13, e14, e15, e16, e17, e18, e19, e20, e21, e22, e23, e24, none, none] = .ok (.o (.list [encB a, encB b, encB c])) [e0, some (encN n3, .ow), e2, some (.int n, .fz), e4, e5, e6, e7, e8, e9, e10, e11, e12, e13, e14, e15, e16, e17, e18, e19, e20, e21, e22, e23, e24, none, none] := by
      have hi := evIt_rng1 (C := C) (a := .con (.int 3)) (env := [e0, some (encN ns, .ow), e2, some (.int n, .fz), e4, e5, e6, e7, e8, e9, e10, e11, e12, e13, e14, e15, e16, e17, e18, e19, e20, e21, e22, e23, e24, none, none]) (e1 := [e0, some (encN ns, .ow), e2, some (.int n, .fz), e4, e5, e6, e7, e8, e9, e10, e11, e12, e13, e14, e15, e16, e17, e18, e19, e20, e21, e22, e23, e24, none, none]) (n := 3) (r := .v (.int 3)) (by simp only [andq, orq, negq, lockE_v, lockE_o, lockE_nil, wipeE_cons, wipeE_nil, backE_cons, backE_nil, unlockE_nil, evq_var, evq_con, evq_tup, evq_lst, evq_op, evq_chain, evq_and, evq_or, evq_ite, evq_call, evq_mth, evq_nil, evq_cons, evq_star, evq_val, evq_rng, evq_zip, exq_set, exq_unp, exq_par, exq_expr, exq_ret, exq_iff, exq_nil, exq_cons, opq_add, opq_sub, opq_mul, opq_mod, opq_fdiv, opq_neg, opq_lt, opq_le, opq_gt, opq_ge, opq_eqI, opq_neI, opq_eqB, opq_neB, opq_isN, opq_isnN, opq_isT, opq_isnT, opq_isB, opq_isnB, opq_truB, opq_not, opq_asI, opq_i0, opq_i1, opq_l0, opq_l1, opq_max2, opq_min2, opq_lenL, opq_lenT, opq_tupL, opq_tupT, opq_lstL, opq_lstT, opq_revL, opq_abs, opq_int, opq_addT, opq_addL, opq_sum, opq_min1, opq_max1, opq_slT, opq_slD, opq_slTL, rdq_v, rdq_o, rdq_s, rdsq_nil, rdsq_cons, tkq_v, tkq_o, tkq_s, tksq_nil, tksq_cons, itq_l, itq_t, setRq_v, setRq_o, setRq_s, retq_v, retq_o, retq_s, boolq, zipq, arg1q_v, arg1q_o, arg1q_s, callq, parKq_v, parKq_o, parKq_s, setRsq, isSq_v, isSq_o, isSq_s, mthq_append, mthq_extend, mthq_pop, lsq, bindq_nm, bindq_t, bindq_l, bindsq_nil, bindsq_cons, O.bind_ok, O.of_some, argD, ioSlots, backIo, slotsR, borrows, parL, setL, List.getElem?_cons_succ, List.getElem?_cons_zero, List.set_cons_succ, List.set_cons_zero, reduceIte, if_true, if_false, Bool.false_eq_true, Bool.not_true, Bool.not_false, true_and, and_true, true_or, or_true, decide_true, decide_false, ne_eq, not_false_eq_true, not_true_eq_false, Int.reduceAdd, Int.reduceSub, Int.reduceMul, List.append_nil, List.nil_append, List.cons_append, reduceCtorEq, List.length_cons, List.length_nil, Nat.reduceAdd, Nat.reduceLT, Nat.reduceLeDiff, sz0, sz1, sz2, sz3, sz4, sz5, slt0, Bool.and_true, Bool.true_and, Nat.reduceBEq, List.nodup_cons, List.not_mem_nil, List.nodup_nil, false_or, Bool.or_false, Bool.false_or, and_self, Int.reduceEq, Int.reduceNe, itB, itT, itL, i0, i1]) rfl (by decide)
      refine (ev_lc (ws := []) (y := [encB a, encB b, encB c]) (e2 := [e0, some (encN n3, .ow), e2, some (.int n, .fz), e4, e5, e6, e7, e8, e9, e10, e11, e12, e13, e14, e15, e16, e17, e18, e19, e20, e21, e22, e23, e24, none, none]) rfl hi ?_ sz3).trans rfl
      have st : ∀ (m m' : List Int) (z : Box) (d : D), C.run 11 [(encN m, true), (.int n, false), (.int 4, false), (.int 4, false)] = .ok (encB z) false [encN m', .none, .none, .none] → bodyG (.nm 25) (ev C (.con (.bool true))) (fun e0 => (ev C (.call 11 (.cons (.var 1) (.cons (.var 3) (.cons (.con (.int 4)) (.cons (.con (.int 4)) .nil))))) e0).bind fun x e1 => (O.of (tk e1 x) e1).bind fun y _ => .ok [y.1] y.2) [] d [e0, some (encN m, .ow), e2, some (.int n, .fz), e4, e5, e6, e7, e8, e9, e10, e11, e12, e13, e14, e15, e16, e17, e18, e19, e20, e21, e22, e23, e24, none, none] = .ok [encB z] [e0, some (encN m', .ow), e2, some (.int n, .fz), e4, e5, e6, e7, e8, e9, e10, e11, e12, e13, e14, e15, e16, e17, e18, e19, e20, e21, e22, e23, e24, some (d, .fz), none] := fun m m' z d h => by
        refine body_lcv (e3 := [e0, some (encN m, .ow), e2, some (.int n, .fz), e4, e5, e6, e7, e8, e9, e10, e11, e12, e13, e14, e15, e16, e17, e18, e19, e20, e21, e22, e23, e24, some (d, .fz), none]) rfl ?_
        simp only [H.t11, h, andq, orq, negq, lockE_v, lockE_o, lockE_nil, wipeE_cons, wipeE_nil, backE_cons, backE_nil, unlockE_nil, evq_var, evq_con, evq_tup, evq_lst, evq_op, evq_chain, evq_and, evq_or, evq_ite, evq_call, evq_mth, evq_nil, evq_cons, evq_star, evq_val, evq_rng, evq_zip, exq_set, exq_unp, exq_par, exq_expr, exq_ret, exq_iff, exq_nil, exq_cons, opq_add, opq_sub, opq_mul, opq_mod, opq_fdiv, opq_neg, opq_lt, opq_le, opq_gt, opq_ge, opq_eqI, opq_neI, opq_eqB, opq_neB, opq_isN, opq_isnN, opq_isT, opq_isnT, opq_isB, opq_isnB, opq_truB, opq_not, opq_asI, opq_i0, opq_i1, opq_l0, opq_l1, opq_max2, opq_min2, opq_lenL, opq_lenT, opq_tupL, opq_tupT, opq_lstL, opq_lstT, opq_revL, opq_abs, opq_int, opq_addT, opq_addL, opq_sum, opq_min1, opq_max1, opq_slT, opq_slD, opq_slTL, rdq_v, rdq_o, rdq_s, rdsq_nil, rdsq_cons, tkq_v, tkq_o, tkq_s, tksq_nil, tksq_cons, itq_l, itq_t, setRq_v, setRq_o, setRq_s, retq_v, retq_o, retq_s, boolq, zipq, arg1q_v, arg1q_o, arg1q_s, callq, parKq_v, parKq_o, parKq_s, setRsq, isSq_v, isSq_o, isSq_s, mthq_append, mthq_extend, mthq_pop, lsq, bindq_nm, bindq_t, bindq_l, bindsq_nil, bindsq_cons, O.bind_ok, O.of_some, argD, ioSlots, backIo, slotsR, borrows, parL, setL, List.getElem?_cons_succ, List.getElem?_cons_zero, List.set_cons_succ, List.set_cons_zero, reduceIte, if_true, if_false, Bool.false_eq_true, Bool.not_true, Bool.not_false, true_and, and_true, true_or, or_true, decide_true, decide_false, ne_eq, not_false_eq_true, not_true_eq_false, Int.reduceAdd, Int.reduceSub, Int.reduceMul, List.append_nil, List.nil_append, List.cons_append, reduceCtorEq, List.length_cons, List.length_nil, Nat.reduceAdd, Nat.reduceLT, Nat.reduceLeDiff, sz0, sz1, sz2, sz3, sz4, sz5, slt0, Bool.and_true, Bool.true_and, Nat.reduceBEq, List.nodup_cons, List.not_mem_nil, List.nodup_nil, false_or, Bool.or_false, Bool.false_or, and_self, Int.reduceEq, Int.reduceNe, itB, itT, itL, i0, i1]
      show turnsG [] [25] _ [PyData.int 0, PyData.int 1, PyData.int 2] _ = _
      have lk : ∀ e : En, lkd e [] = true := fun _ => rfl
      simp only [turnsG, lk, if_true, lockE_nil, wipeE_cons, wipeE_nil, List.set_cons_succ, List.set_cons_zero, st _ _ _ _ a1, st _ _ _ _ b1, st _ _ _ _ c1, O.bind_ok, List.append_nil, List.cons_append, List.nil_append]
    simp only [s_law_1_1, hx, andq, orq, negq, lockE_v, lockE_o, lockE_nil, wipeE_cons, wipeE_nil, backE_cons, backE_nil, unlockE_nil, evq_var, evq_con, evq_tup, evq_lst, evq_op, evq_chain, evq_and, evq_or, evq_ite, evq_call, evq_mth, evq_nil, evq_cons, evq_star, evq_val, evq_rng, evq_zip, exq_set, exq_unp, exq_par, exq_expr, exq_ret, exq_iff, exq_nil, exq_cons, opq_add, opq_sub, opq_mul, opq_mod, opq_fdiv, opq_neg, opq_lt, opq_le, opq_gt, opq_ge, opq_eqI, opq_neI, opq_eqB, opq_neB, opq_isN, opq_isnN, opq_isT, opq_isnT, opq_isB, opq_isnB, opq_truB, opq_not, opq_asI, opq_i0, opq_i1, opq_l0, opq_l1, opq_max2, opq_min2, opq_lenL, opq_lenT, opq_tupL, opq_tupT, opq_lstL, opq_lstT, opq_revL, opq_abs, opq_int, opq_addT, opq_addL, opq_sum, opq_min1, opq_max1, opq_slT, opq_slD, opq_slTL, rdq_v, rdq_o, rdq_s, rdsq_nil, rdsq_cons, tkq_v, tkq_o, tkq_s, tksq_nil, tksq_cons, itq_l, itq_t, setRq_v, setRq_o, setRq_s, retq_v, retq_o, retq_s, boolq, zipq, arg1q_v, arg1q_o, arg1q_s, callq, parKq_v, parKq_o, parKq_s, setRsq, isSq_v, isSq_o, isSq_s, mthq_append, mthq_extend, mthq_pop, lsq, bindq_nm, bindq_t, bindq_l, bindsq_nil, bindsq_cons, O.bind_ok, O.of_some, argD, ioSlots, backIo, slotsR, borrows, parL, setL, List.getElem?_cons_succ, List.getElem?_cons_zero, List.set_cons_succ, List.set_cons_zero, reduceIte, if_true, if_false, Bool.false_eq_true, Bool.not_true, Bool.not_false, true_and, and_true, true_or, or_true, decide_true, decide_false, ne_eq, not_false_eq_true, not_true_eq_false, Int.reduceAdd, Int.reduceSub, Int.reduceMul, List.append_nil, List.nil_append, List.cons_append, reduceCtorEq, List.length_cons, List.length_nil, Nat.reduceAdd, Nat.reduceLT, Nat.reduceLeDiff, sz0, sz1, sz2, sz3, sz4, sz5, slt0, Bool.and_true, Bool.true_and, Nat.reduceBEq, List.nodup_cons, List.not_mem_nil, List.nodup_nil, false_or, Bool.or_false, Bool.false_or, and_self, Int.reduceEq, Int.reduceNe, itB, itT, itL, i0, i1]
  · rcases List.mem_cons.mp hz with rfl | hz
    · exact ⟨a3, sub_uni a2 (hw a4)⟩
    · rcases List.mem_cons.mp hz with rfl | hz
      · exact ⟨b3, sub_uni b2 (hw b4)⟩
      · rw [List.mem_singleton.mp hz]
        exact ⟨c3, sub_uni c2 (hw c4)⟩
theorem wide {n : Nat} (hn : n ≤ 3) {z : Box} (h1 : Proper z) (h2 : Sub z (uni n)) : ∀ p ∈ z, -(2 ^ 64) < p.2 - p.1 ∧ p.2 - p.1 < 2 ^ 64 := sub_wide h1 h2 (uni_fit hn).2.2
theorem roomU (H : Has C) {n : Nat} (hn : n ≤ 3) {z : Box} (h1 : Proper z) (h2 : Sub z (uni n)) : C.run 3 [(encB z, false)] = .ok (.int (vol z)) false [.none] := H.r3 z (wide hn h1 h2)
theorem volU (H : Has C) {n : Nat} (hn : n ≤ 3) {x : D} {bs : List Box} (hx : BoxesD x bs) (hb : Ok (uni n) bs) : C.run 6 [(x, false)] = .ok (.int (volume bs)) false [.none] := H.r6 _ (uni_fit hn) x bs hx hb
theorem lenU {n : Nat} {z : Box} (h : Sub z (uni n)) : z.length = n := by rw [h.len, uni_len]
theorem s2 (H : Has C) {n : Nat} (hn : n ≤ 3) (a b : Box) (ha : Proper a) (hb : Proper b) (sa : Sub a (uni n)) (sb : Sub b (uni n)) : exS C s_law_1_2 [e0, e1, e2, e3, some (encB a, .fz), some (encB b, .fz), e6, e7, e8, e9, e10, e11, e12, e13, e14, e15, e16, e17, e18, e19, e20, e21, e22, e23, e24, none, none] = .ok .nx [e0, e1, e2, e3, some (encB a, .fz), some (encB b, .fz), e6, some (sharedD a b, .fz), some (encL (Bx.without a b), .fz), e9, e10, e11, e12, e13, e14, e15, e16, e17, e18, e19, e20, e21, e22, e23, e24, none, none] := by
  have la := lenU sa
  have lb := lenU sb
  have r1 := H.r1 a b (by omega)
  have r5 := H.r5 a b (by omega) (by omega)
  simp only [s_law_1_2, r1, r5, List.length_cons, List.all_cons, List.all_nil, List.map_cons, List.map_nil, andq, orq, negq, lockE_v, lockE_o, lockE_nil, wipeE_cons, wipeE_nil, backE_cons, backE_nil, unlockE_nil, evq_var, evq_con, evq_tup, evq_lst, evq_op, evq_chain, evq_and, evq_or, evq_ite, evq_call, evq_mth, evq_nil, evq_cons, evq_star, evq_val, evq_rng, evq_zip, exq_set, exq_unp, exq_par, exq_expr, exq_ret, exq_iff, exq_nil, exq_cons, opq_add, opq_sub, opq_mul, opq_mod, opq_fdiv, opq_neg, opq_lt, opq_le, opq_gt, opq_ge, opq_eqI, opq_neI, opq_eqB, opq_neB, opq_isN, opq_isnN, opq_isT, opq_isnT, opq_isB, opq_isnB, opq_truB, opq_not, opq_asI, opq_i0, opq_i1, opq_l0, opq_l1, opq_max2, opq_min2, opq_lenL, opq_lenT, opq_tupL, opq_tupT, opq_lstL, opq_lstT, opq_revL, opq_abs, opq_int, opq_addT, opq_addL, opq_sum, opq_min1, opq_max1, opq_slT, opq_slD, opq_slTL, rdq_v, rdq_o, rdq_s, rdsq_nil, rdsq_cons, tkq_v, tkq_o, tkq_s, tksq_nil, tksq_cons, itq_l, itq_t, setRq_v, setRq_o, setRq_s, retq_v, retq_o, retq_s, boolq, zipq, arg1q_v, arg1q_o, arg1q_s, callq, parKq_v, parKq_o, parKq_s, setRsq, isSq_v, isSq_o, isSq_s, mthq_append, mthq_extend, mthq_pop, lsq, bindq_nm, bindq_t, bindq_l, bindsq_nil, bindsq_cons, O.bind_ok, O.of_some, argD, ioSlots, backIo, slotsR, borrows, parL, setL, List.getElem?_cons_succ, List.getElem?_cons_zero, List.set_cons_succ, List.set_cons_zero, reduceIte, if_true, if_false, Bool.false_eq_true, Bool.not_true, Bool.not_false, true_and, and_true, true_or, or_true, decide_true, decide_false, ne_eq, not_false_eq_true, not_true_eq_false, Int.reduceAdd, Int.reduceSub, Int.reduceMul, List.append_nil, List.nil_append, List.cons_append, reduceCtorEq, List.length_cons, List.length_nil, Nat.reduceAdd, Nat.reduceLT, Nat.reduceLeDiff, sz0, sz1, sz2, sz3, sz4, sz5, slt0, Bool.and_true, Bool.true_and, Nat.reduceBEq, List.nodup_cons, List.not_mem_nil, List.nodup_nil, false_or, Bool.or_false, Bool.false_or, and_self, Int.reduceEq, Int.reduceNe, itB, itT, itL, i0, i1]
theorem s3 (H : Has C) {n : Nat} (hn : n ≤ 3) (a b : Box) (ha : Proper a) (hb : Proper b) (sa : Sub a (uni n)) (sb : Sub b (uni n)) : exS C s_law_1_3 [e0, e1, e2, e3, e4, e5, e6, some (sharedD a b, .fz), e8, e9, e10, e11, e12, e13, e14, e15, e16, e17, e18, e19, e20, e21, e22, e23, e24, none, none] = .ok .nx [e0, e1, e2, e3, e4, e5, e6, some (sharedD a b, .fz), e8, some (.int (common a b), .fz), e10, e11, e12, e13, e14, e15, e16, e17, e18, e19, e20, e21, e22, e23, e24, none, none] := by
  have hl : a.length = b.length := by rw [lenU sa, lenU sb]
  have hi := isnS a b
  unfold common
  cases hc : clashB a b with
  | true =>
    have e : sharedD a b = encB (meet a b) := by unfold sharedD; rw [hc]; rfl
    have r3 := roomU H hn (meet_proper ha hb hc) ((meet_sub hl).trans sa)
    rw [hc] at hi
    rw [e] at hi ⊢
    simp only [s_law_1_3, hi, r3, andq, orq, negq, lockE_v, lockE_o, lockE_nil, wipeE_cons, wipeE_nil, backE_cons, backE_nil, unlockE_nil, evq_var, evq_con, evq_tup, evq_lst, evq_op, evq_chain, evq_and, evq_or, evq_ite, evq_call, evq_mth, evq_nil, evq_cons, evq_star, evq_val, evq_rng, evq_zip, exq_set, exq_unp, exq_par, exq_expr, exq_ret, exq_iff, exq_nil, exq_cons, opq_add, opq_sub, opq_mul, opq_mod, opq_fdiv, opq_neg, opq_lt, opq_le, opq_gt, opq_ge, opq_eqI, opq_neI, opq_eqB, opq_neB, opq_isN, opq_isnN, opq_isT, opq_isnT, opq_isB, opq_isnB, opq_truB, opq_not, opq_asI, opq_i0, opq_i1, opq_l0, opq_l1, opq_max2, opq_min2, opq_lenL, opq_lenT, opq_tupL, opq_tupT, opq_lstL, opq_lstT, opq_revL, opq_abs, opq_int, opq_addT, opq_addL, opq_sum, opq_min1, opq_max1, opq_slT, opq_slD, opq_slTL, rdq_v, rdq_o, rdq_s, rdsq_nil, rdsq_cons, tkq_v, tkq_o, tkq_s, tksq_nil, tksq_cons, itq_l, itq_t, setRq_v, setRq_o, setRq_s, retq_v, retq_o, retq_s, boolq, zipq, arg1q_v, arg1q_o, arg1q_s, callq, parKq_v, parKq_o, parKq_s, setRsq, isSq_v, isSq_o, isSq_s, mthq_append, mthq_extend, mthq_pop, lsq, bindq_nm, bindq_t, bindq_l, bindsq_nil, bindsq_cons, O.bind_ok, O.of_some, argD, ioSlots, backIo, slotsR, borrows, parL, setL, List.getElem?_cons_succ, List.getElem?_cons_zero, List.set_cons_succ, List.set_cons_zero, reduceIte, if_true, if_false, Bool.false_eq_true, Bool.not_true, Bool.not_false, true_and, and_true, true_or, or_true, decide_true, decide_false, ne_eq, not_false_eq_true, not_true_eq_false, Int.reduceAdd, Int.reduceSub, Int.reduceMul, List.append_nil, List.nil_append, List.cons_append, reduceCtorEq, List.length_cons, List.length_nil, Nat.reduceAdd, Nat.reduceLT, Nat.reduceLeDiff, sz0, sz1, sz2, sz3, sz4, sz5, slt0, Bool.and_true, Bool.true_and, Nat.reduceBEq, List.nodup_cons, List.not_mem_nil, List.nodup_nil, false_or, Bool.or_false, Bool.false_or, and_self, Int.reduceEq, Int.reduceNe, itB, itT, itL, i0, i1]
  | false =>
    rw [hc] at hi
    simp only [s_law_1_3, hi, andq, orq, negq, lockE_v, lockE_o, lockE_nil, wipeE_cons, wipeE_nil, backE_cons, backE_nil, unlockE_nil, evq_var, evq_con, evq_tup, evq_lst, evq_op, evq_chain, evq_and, evq_or, evq_ite, evq_call, evq_mth, evq_nil, evq_cons, evq_star, evq_val, evq_rng, evq_zip, exq_set, exq_unp, exq_par, exq_expr, exq_ret, exq_iff, exq_nil, exq_cons, opq_add, opq_sub, opq_mul, opq_mod, opq_fdiv, opq_neg, opq_lt, opq_le, opq_gt, opq_ge, opq_eqI, opq_neI, opq_eqB, opq_neB, opq_isN, opq_isnN, opq_isT, opq_isnT, opq_isB, opq_isnB, opq_truB, opq_not, opq_asI, opq_i0, opq_i1, opq_l0, opq_l1, opq_max2, opq_min2, opq_lenL, opq_lenT, opq_tupL, opq_tupT, opq_lstL, opq_lstT, opq_revL, opq_abs, opq_int, opq_addT, opq_addL, opq_sum, opq_min1, opq_max1, opq_slT, opq_slD, opq_slTL, rdq_v, rdq_o, rdq_s, rdsq_nil, rdsq_cons, tkq_v, tkq_o, tkq_s, tksq_nil, tksq_cons, itq_l, itq_t, setRq_v, setRq_o, setRq_s, retq_v, retq_o, retq_s, boolq, zipq, arg1q_v, arg1q_o, arg1q_s, callq, parKq_v, parKq_o, parKq_s, setRsq, isSq_v, isSq_o, isSq_s, mthq_append, mthq_extend, mthq_pop, lsq, bindq_nm, bindq_t, bindq_l, bindsq_nil, bindsq_cons, O.bind_ok, O.of_some, argD, ioSlots, backIo, slotsR, borrows, parL, setL, List.getElem?_cons_succ, List.getElem?_cons_zero, List.set_cons_succ, List.set_cons_zero, reduceIte, if_true, if_false, Bool.false_eq_true, Bool.not_true, Bool.not_false, true_and, and_true, true_or, or_true, decide_true, decide_false, ne_eq, not_false_eq_true, not_true_eq_false, Int.reduceAdd, Int.reduceSub, Int.reduceMul, List.append_nil, List.nil_append, List.cons_append, reduceCtorEq, List.length_cons, List.length_nil, Nat.reduceAdd, Nat.reduceLT, Nat.reduceLeDiff, sz0, sz1, sz2, sz3, sz4, sz5, slt0, Bool.and_true, Bool.true_and, Nat.reduceBEq, List.nodup_cons, List.not_mem_nil, List.nodup_nil, false_or, Bool.or_false, Bool.false_or, and_self, Int.reduceEq, Int.reduceNe, itB, itT, itL, i0, i1]
theorem x_law1 (H : Has C) {n : Nat} (hn : n ≤ 3) (bs : List Box) (hb : Ok (uni n) bs) (hl : bs.length ≤ sizeLine) : ev C x_law_1 [e0, e1, e2, e3, e4, e5, e6, e7, some (encL bs, .fz), e9, e10, e11, e12, e13, e14, e15, e16, e17, e18, e19, e20, e21, e22, e23, e24, none, none] = .ok (.o (.list ((bs.map vol).map .int))) [e0, e1, e2, e3, e4, e5, e6, e7, some (encL bs, .fz), e9, e10, e11, e12, e13, e14, e15, e16, e17, e18, e19, e20, e21, e22, e23, e24, none, none] := by
  refine (ev_lc (e2 := [e0, e1, e2, e3, e4, e5, e6, e7, some (encL bs, .fz), e9, e10, e11, e12, e13, e14, e15, e16, e17, e18, e19, e20, e21, e22, e23, e24, none, none]) (ws := [.v (encL bs)]) (ds := bs.map encB) (y := (bs.map vol).map .int) (e1 := [e0, e1, e2, e3, e4, e5, e6, e7, some (encL bs, .fz), e9, e10, e11, e12, e13, e14, e15, e16, e17, e18, e19, e20, e21, e22, e23, e24, none, none]) rfl (by simp only [andq, orq, negq, lockE_v, lockE_o, lockE_nil, wipeE_cons, wipeE_nil, backE_cons, backE_nil, unlockE_nil, evq_var, evq_con, evq_tup, evq_lst, evq_op, evq_chain, evq_and, evq_or, evq_ite, evq_call, evq_mth, evq_nil, evq_cons, evq_star, evq_val, evq_rng, evq_zip, exq_set, exq_unp, exq_par, exq_expr, exq_ret, exq_iff, exq_nil, exq_cons, opq_add, opq_sub, opq_mul, opq_mod, opq_fdiv, opq_neg, opq_lt, opq_le, opq_gt, opq_ge, opq_eqI, opq_neI, opq_eqB, opq_neB, opq_isN, opq_isnN, opq_isT, opq_isnT, opq_isB, opq_isnB, opq_truB, opq_not, opq_asI, opq_i0, opq_i1, opq_l0, opq_l1, opq_max2, opq_min2, opq_lenL, opq_lenT, opq_tupL, opq_tupT, opq_lstL, opq_lstT, opq_revL, opq_abs, opq_int, opq_addT, opq_addL, opq_sum, opq_min1, opq_max1, opq_slT, opq_slD, opq_slTL, rdq_v, rdq_o, rdq_s, rdsq_nil, rdsq_cons, tkq_v, tkq_o, tkq_s, tksq_nil, tksq_cons, itq_l, itq_t, setRq_v, setRq_o, setRq_s, retq_v, retq_o, retq_s, boolq, zipq, arg1q_v, arg1q_o, arg1q_s, callq, parKq_v, parKq_o, parKq_s, setRsq, isSq_v, isSq_o, isSq_s, mthq_append, mthq_extend, mthq_pop, lsq, bindq_nm, bindq_t, bindq_l, bindsq_nil, bindsq_cons, O.bind_ok, O.of_some, argD, ioSlots, backIo, slotsR, borrows, parL, setL, List.getElem?_cons_succ, List.getElem?_cons_zero, List.set_cons_succ, List.set_cons_zero, reduceIte, if_true, if_false, Bool.false_eq_true, Bool.not_true, Bool.not_false, true_and, and_true, true_or, or_true, decide_true, decide_false, ne_eq, not_false_eq_true, not_true_eq_false, Int.reduceAdd, Int.reduceSub, Int.reduceMul, List.append_nil, List.nil_append, List.cons_append, reduceCtorEq, List.length_cons, List.length_nil, Nat.reduceAdd, Nat.reduceLT, Nat.reduceLeDiff, sz0, sz1, sz2, sz3, sz4, sz5, slt0, Bool.and_true, Bool.true_and, Nat.reduceBEq, List.nodup_cons, List.not_mem_nil, List.nodup_nil, false_or, Bool.or_false, Bool.false_or, and_self, Int.reduceEq, Int.reduceNe, itB, itT, itL, i0, i1]) ?_ (by simp; exact hl)).trans rfl
  rw [List.map_map]
  refine turnsG_map _ _ rfl fun b h => ⟨_, body_lcv (e3 := [e0, e1, e2, e3, e4, e5, e6, e7, some (encL bs, .fz), e9, e10, e11, e12, e13, e14, e15, e16, e17, e18, e19, e20, e21, e22, e23, e24, none, some (encB b, .fz)]) rfl (?_ : _ = O.ok _ [e0, e1, e2, e3, e4, e5, e6, e7, some (encL bs, .fz), e9, e10, e11, e12, e13, e14, e15, e16, e17, e18, e19, e20, e21, e22, e23, e24, none, some (encB b, .fz)]), rfl⟩
  have r3 := roomU H hn (hb b h).1 (hb b h).2
  simp only [r3, andq, orq, negq, lockE_v, lockE_o, lockE_nil, wipeE_cons, wipeE_nil, backE_cons, backE_nil, unlockE_nil, evq_var, evq_con, evq_tup, evq_lst, evq_op, evq_chain, evq_and, evq_or, evq_ite, evq_call, evq_mth, evq_nil, evq_cons, evq_star, evq_val, evq_rng, evq_zip, exq_set, exq_unp, exq_par, exq_expr, exq_ret, exq_iff, exq_nil, exq_cons, opq_add, opq_sub, opq_mul, opq_mod, opq_fdiv, opq_neg, opq_lt, opq_le, opq_gt, opq_ge, opq_eqI, opq_neI, opq_eqB, opq_neB, opq_isN, opq_isnN, opq_isT, opq_isnT, opq_isB, opq_isnB, opq_truB, opq_not, opq_asI, opq_i0, opq_i1, opq_l0, opq_l1, opq_max2, opq_min2, opq_lenL, opq_lenT, opq_tupL, opq_tupT, opq_lstL, opq_lstT, opq_revL, opq_abs, opq_int, opq_addT, opq_addL, opq_sum, opq_min1, opq_max1, opq_slT, opq_slD, opq_slTL, rdq_v, rdq_o, rdq_s, rdsq_nil, rdsq_cons, tkq_v, tkq_o, tkq_s, tksq_nil, tksq_cons, itq_l, itq_t, setRq_v, setRq_o, setRq_s, retq_v, retq_o, retq_s, boolq, zipq, arg1q_v, arg1q_o, arg1q_s, callq, parKq_v, parKq_o, parKq_s, setRsq, isSq_v, isSq_o, isSq_s, mthq_append, mthq_extend, mthq_pop, lsq, bindq_nm, bindq_t, bindq_l, bindsq_nil, bindsq_cons, O.bind_ok, O.of_some, argD, ioSlots, backIo, slotsR, borrows, parL, setL, List.getElem?_cons_succ, List.getElem?_cons_zero, List.set_cons_succ, List.set_cons_zero, reduceIte, if_true, if_false, Bool.false_eq_true, Bool.not_true, Bool.not_false, true_and, and_true, true_or, or_true, decide_true, decide_false, ne_eq, not_false_eq_true, not_true_eq_false, Int.reduceAdd, Int.reduceSub, Int.reduceMul, List.append_nil, List.nil_append, List.cons_append, reduceCtorEq, List.length_cons, List.length_nil, Nat.reduceAdd, Nat.reduceLT, Nat.reduceLeDiff, sz0, sz1, sz2, sz3, sz4, sz5, slt0, Bool.and_true, Bool.true_and, Nat.reduceBEq, List.nodup_cons, List.not_mem_nil, List.nodup_nil, false_or, Bool.or_false, Bool.false_or, and_self, Int.reduceEq, Int.reduceNe, itB, itT, itL, i0, i1]
  rfl
theorem s4 (H : Has C) {n : Nat} (hn : n ≤ 3) (a b : Box) (ha : Proper a) (hb : Proper b) (sa : Sub a (uni n)) (sb : Sub b (uni n)) : exS C s_law_1_4 [e0, e1, e2, e3, some (encB a, .fz), some (encB b, .fz), e6, e7, some (encL (Bx.without a b), .fz), some (.int (common a b), .fz), e10, e11, e12, e13, e14, e15, e16, e17, e18, e19, e20, e21, e22, e23, e24, none, none] = .ok .nx [e0, e1, e2, e3, some (encB a, .fz), some (encB b, .fz), e6, e7, some (encL (Bx.without a b), .fz), some (.int (common a b), .fz), e10, e11, e12, e13, e14, e15, e16, e17, e18, e19, e20, e21, e22, e23, e24, none, none] := by
  have v := volU H hn (x := .tuple [encB a, encB b]) (bs := [a, b]) rfl (Ok.cons ha sa (Ok.one hb sb))
  have ra := roomU H hn ha sa
  have rb := roomU H hn hb sb
  have la := lenU sa
  have lb := lenU sb
  have wl := without_len (b := a) (o := b)
  have x1 := x_law1 H hn (e0 := e0) (e1 := e1) (e2 := e2) (e3 := e3) (e4 := some (encB a, .fz)) (e5 := some (encB b, .fz)) (e6 := e6) (e7 := e7) (e9 := some (.int (common a b), .fz)) (e10 := e10) (e11 := e11) (e12 := e12) (e13 := e13) (e14 := e14) (e15 := e15) (e16 := e16) (e17 := e17) (e18 := e18) (e19 := e19) (e20 := e20) (e21 := e21) (e22 := e22) (e23 := e23) (e24 := e24) (Bx.without a b) (Ok.without ha sa hb sb.len) (by unfold sizeLine; omega)
  have t := two ha hb sa sb
  have l := left_sum ha hb sa sb
  unfold sumV at l
  simp only [s_law_1_4, v, ra, rb, x1, t, l, andq, orq, negq, lockE_v, lockE_o, lockE_nil, wipeE_cons, wipeE_nil, backE_cons, backE_nil, unlockE_nil, evq_var, evq_con, evq_tup, evq_lst, evq_op, evq_chain, evq_and, evq_or, evq_ite, evq_call, evq_mth, evq_nil, evq_cons, evq_star, evq_val, evq_rng, evq_zip, exq_set, exq_unp, exq_par, exq_expr, exq_ret, exq_iff, exq_nil, exq_cons, opq_add, opq_sub, opq_mul, opq_mod, opq_fdiv, opq_neg, opq_lt, opq_le, opq_gt, opq_ge, opq_eqI, opq_neI, opq_eqB, opq_neB, opq_isN, opq_isnN, opq_isT, opq_isnT, opq_isB, opq_isnB, opq_truB, opq_not, opq_asI, opq_i0, opq_i1, opq_l0, opq_l1, opq_max2, opq_min2, opq_lenL, opq_lenT, opq_tupL, opq_tupT, opq_lstL, opq_lstT, opq_revL, opq_abs, opq_int, opq_addT, opq_addL, opq_sum, opq_min1, opq_max1, opq_slT, opq_slD, opq_slTL, rdq_v, rdq_o, rdq_s, rdsq_nil, rdsq_cons, tkq_v, tkq_o, tkq_s, tksq_nil, tksq_cons, itq_l, itq_t, setRq_v, setRq_o, setRq_s, retq_v, retq_o, retq_s, boolq, zipq, arg1q_v, arg1q_o, arg1q_s, callq, parKq_v, parKq_o, parKq_s, setRsq, isSq_v, isSq_o, isSq_s, mthq_append, mthq_extend, mthq_pop, lsq, bindq_nm, bindq_t, bindq_l, bindsq_nil, bindsq_cons, O.bind_ok, O.of_some, argD, ioSlots, backIo, slotsR, borrows, parL, setL, List.getElem?_cons_succ, List.getElem?_cons_zero, List.set_cons_succ, List.set_cons_zero, reduceIte, if_true, if_false, Bool.false_eq_true, Bool.not_true, Bool.not_false, true_and, and_true, true_or, or_true, decide_true, decide_false, ne_eq, not_false_eq_true, not_true_eq_false, Int.reduceAdd, Int.reduceSub, Int.reduceMul, List.append_nil, List.nil_append, List.cons_append, reduceCtorEq, List.length_cons, List.length_nil, Nat.reduceAdd, Nat.reduceLT, Nat.reduceLeDiff, sz0, sz1, sz2, sz3, sz4, sz5, slt0, Bool.and_true, Bool.true_and, Nat.reduceBEq, List.nodup_cons, List.not_mem_nil, List.nodup_nil, false_or, Bool.or_false, Bool.false_or, and_self, Int.reduceEq, Int.reduceNe, itB, itT, itL, i0, i1]
def partsD (a b : Box) : D := encL (parts a b)
theorem s5 (a b : Box) (hl : a.length ≤ 1000) : exS C s_law_1_5 [e0, e1, e2, e3, e4, e5, e6, some (sharedD a b, .fz), some (encL (Bx.without a b), .fz), e9, e10, e11, e12, e13, e14, e15, e16, e17, e18, e19, e20, e21, e22, e23, e24, none, none] = .ok .nx [e0, e1, e2, e3, e4, e5, e6, some (sharedD a b, .fz), some (encL (Bx.without a b), .fz), e9, some (encL (parts a b), .fz), e11, e12, e13, e14, e15, e16, e17, e18, e19, e20, e21, e22, e23, e24, none, none] := by
  have hi := isnS a b
  have wl := without_len (b := a) (o := b)
  have hlen : ((Bx.without a b).map encB).length + 1 ≤ sizeLine := by rw [List.length_map]; unfold sizeLine; omega
  have hlen0 : ((Bx.without a b).map encB).length ≤ sizeLine := by rw [List.length_map]; unfold sizeLine; omega
  unfold parts
  cases hc : clashB a b with
  | true =>
    have e : sharedD a b = encB (meet a b) := by unfold sharedD; rw [hc]; rfl
    rw [hc] at hi
    rw [e] at hi ⊢
    rw [if_pos rfl, encL, encL, List.map_append]
    generalize (Bx.without a b).map encB = L at *
    simp only [s_law_1_5, hi, hlen, andq, orq, negq, lockE_v, lockE_o, lockE_nil, wipeE_cons, wipeE_nil, backE_cons, backE_nil, unlockE_nil, evq_var, evq_con, evq_tup, evq_lst, evq_op, evq_chain, evq_and, evq_or, evq_ite, evq_call, evq_mth, evq_nil, evq_cons, evq_star, evq_val, evq_rng, evq_zip, exq_set, exq_unp, exq_par, exq_expr, exq_ret, exq_iff, exq_nil, exq_cons, opq_add, opq_sub, opq_mul, opq_mod, opq_fdiv, opq_neg, opq_lt, opq_le, opq_gt, opq_ge, opq_eqI, opq_neI, opq_eqB, opq_neB, opq_isN, opq_isnN, opq_isT, opq_isnT, opq_isB, opq_isnB, opq_truB, opq_not, opq_asI, opq_i0, opq_i1, opq_l0, opq_l1, opq_max2, opq_min2, opq_lenL, opq_lenT, opq_tupL, opq_tupT, opq_lstL, opq_lstT, opq_revL, opq_abs, opq_int, opq_addT, opq_addL, opq_sum, opq_min1, opq_max1, opq_slT, opq_slD, opq_slTL, rdq_v, rdq_o, rdq_s, rdsq_nil, rdsq_cons, tkq_v, tkq_o, tkq_s, tksq_nil, tksq_cons, itq_l, itq_t, setRq_v, setRq_o, setRq_s, retq_v, retq_o, retq_s, boolq, zipq, arg1q_v, arg1q_o, arg1q_s, callq, parKq_v, parKq_o, parKq_s, setRsq, isSq_v, isSq_o, isSq_s, mthq_append, mthq_extend, mthq_pop, lsq, bindq_nm, bindq_t, bindq_l, bindsq_nil, bindsq_cons, O.bind_ok, O.of_some, argD, ioSlots, backIo, slotsR, borrows, parL, setL, List.getElem?_cons_succ, List.getElem?_cons_zero, List.set_cons_succ, List.set_cons_zero, reduceIte, if_true, if_false, Bool.false_eq_true, Bool.not_true, Bool.not_false, true_and, and_true, true_or, or_true, decide_true, decide_false, ne_eq, not_false_eq_true, not_true_eq_false, Int.reduceAdd, Int.reduceSub, Int.reduceMul, List.append_nil, List.nil_append, List.cons_append, reduceCtorEq, List.length_cons, List.length_nil, Nat.reduceAdd, Nat.reduceLT, Nat.reduceLeDiff, sz0, sz1, sz2, sz3, sz4, sz5, slt0, Bool.and_true, Bool.true_and, Nat.reduceBEq, List.nodup_cons, List.not_mem_nil, List.nodup_nil, false_or, Bool.or_false, Bool.false_or, and_self, Int.reduceEq, Int.reduceNe, itB, itT, itL, i0, i1]
    rfl
  | false =>
    rw [hc] at hi
    rw [if_neg (by decide), encL, encL, List.map_append]
    generalize (Bx.without a b).map encB = L at *
    simp only [s_law_1_5, hi, hlen0, Nat.add_zero, List.map_nil, andq, orq, negq, lockE_v, lockE_o, lockE_nil, wipeE_cons, wipeE_nil, backE_cons, backE_nil, unlockE_nil, evq_var, evq_con, evq_tup, evq_lst, evq_op, evq_chain, evq_and, evq_or, evq_ite, evq_call, evq_mth, evq_nil, evq_cons, evq_star, evq_val, evq_rng, evq_zip, exq_set, exq_unp, exq_par, exq_expr, exq_ret, exq_iff, exq_nil, exq_cons, opq_add, opq_sub, opq_mul, opq_mod, opq_fdiv, opq_neg, opq_lt, opq_le, opq_gt, opq_ge, opq_eqI, opq_neI, opq_eqB, opq_neB, opq_isN, opq_isnN, opq_isT, opq_isnT, opq_isB, opq_isnB, opq_truB, opq_not, opq_asI, opq_i0, opq_i1, opq_l0, opq_l1, opq_max2, opq_min2, opq_lenL, opq_lenT, opq_tupL, opq_tupT, opq_lstL, opq_lstT, opq_revL, opq_abs, opq_int, opq_addT, opq_addL, opq_sum, opq_min1, opq_max1, opq_slT, opq_slD, opq_slTL, rdq_v, rdq_o, rdq_s, rdsq_nil, rdsq_cons, tkq_v, tkq_o, tkq_s, tksq_nil, tksq_cons, itq_l, itq_t, setRq_v, setRq_o, setRq_s, retq_v, retq_o, retq_s, boolq, zipq, arg1q_v, arg1q_o, arg1q_s, callq, parKq_v, parKq_o, parKq_s, setRsq, isSq_v, isSq_o, isSq_s, mthq_append, mthq_extend, mthq_pop, lsq, bindq_nm, bindq_t, bindq_l, bindsq_nil, bindsq_cons, O.bind_ok, O.of_some, argD, ioSlots, backIo, slotsR, borrows, parL, setL, List.getElem?_cons_succ, List.getElem?_cons_zero, List.set_cons_succ, List.set_cons_zero, reduceIte, if_true, if_false, Bool.false_eq_true, Bool.not_true, Bool.not_false, true_and, and_true, true_or, or_true, decide_true, decide_false, ne_eq, not_false_eq_true, not_true_eq_false, Int.reduceAdd, Int.reduceSub, Int.reduceMul, List.append_nil, List.nil_append, List.cons_append, reduceCtorEq, List.length_cons, List.length_nil, Nat.reduceAdd, Nat.reduceLT, Nat.reduceLeDiff, sz0, sz1, sz2, sz3, sz4, sz5, slt0, Bool.and_true, Bool.true_and, Nat.reduceBEq, List.nodup_cons, List.not_mem_nil, List.nodup_nil, false_or, Bool.or_false, Bool.false_or, and_self, Int.reduceEq, Int.reduceNe, itB, itT, itL, i0, i1]
theorem parts_len {a b : Box} : (parts a b).length ≤ 2 * a.length + 2 := by
  have wl := without_len (b := a) (o := b)
  unfold parts
  rw [List.length_append]
  split <;> simp <;> omega
theorem shapedI (p : Int × Int) : SeqAt.shaped (encI p) = true := by
  show (true && decide ((encI p).depth ≤ 64)) = true
  have e : (encI p).depth = 1 := by simp [encI, PyData.depth, PyData.depthAll]
  rw [e]
  rfl
theorem canLayB : ∀ b : Box, PyData.canLayAll0 (b.map encI) = true
  | [] => rfl
  | p :: b => by
    rw [List.map_cons, PyData.canLayAll0, canLayB b]
    rfl
theorem shapedB (b : Box) : SeqAt.shaped (encB b) = true := by
  have h := depthB b
  unfold SeqAt.shaped
  rw [encB, PyData.canLay0, canLayB b, decide_eq_true (by rw [← encB]; exact h)]
  rfl
theorem eqvB (b : Box) : PyData.eqv (encB b) (encB b) = true := W.eqv_refl_alike _ (alikeB b b)
theorem neB (b : Box) : opO (.cmp .ne) [encB b, encB b] = some (.v (.bool false)) := by
  show (cmpO .ne (encB b) (encB b)).map _ = _
  rw [show cmpO .ne (encB b) (encB b) = if SeqAt.shaped (encB b) ∧ SeqAt.shaped (encB b) then some (!PyData.eqv (encB b) (encB b)) else none from rfl, if_pos ⟨shapedB b, shapedB b⟩, eqvB]
  rfl
theorem s6 (H : Has C) {n : Nat} (hn : n ≤ 3) (a b : Box) (ha : Proper a) (hb : Proper b) (sa : Sub a (uni n)) (sb : Sub b (uni n)) : exS C s_law_1_6 [e0, e1, e2, e3, some (encB a, .fz), some (encB b, .fz), e6, some (sharedD a b, .fz), e8, e9, some (encL (parts a b), .fz), e11, e12, e13, e14, e15, e16, e17, e18, e19, e20, e21, e22, e23, e24, none, none] = .ok .nx [e0, e1, e2, e3, some (encB a, .fz), some (encB b, .fz), e6, some (sharedD a b, .fz), e8, e9, some (encL (parts a b), .fz), e11, e12, e13, e14, e15, e16, e17, e18, e19, e20, e21, e22, e23, e24, none, none] := by
  obtain ⟨p1, p2⟩ := parts_ok ha hb sa sb
  have la := lenU sa
  have lb := lenU sb
  have v := volU H hn (x := encL (parts a b)) (bs := parts a b) rfl p1
  have ra := roomU H hn ha sa
  have e1 := volume_one ha sa p1 p2
  have hr := H.r7 _ (uni_fit hn) (encL (parts a b)) (.tuple [encB a]) (parts a b) [a] rfl rfl p1 (Ok.one ha sa) (by
    have := parts_len (a := a) (b := b)
    simp only [List.length_cons, List.length_nil]
    unfold sizeLine
    omega)
  rw [sameRoom_true p1 (Ok.one ha sa) fun c => by rw [p2, un_one]] at hr
  have rs := H.r1 b a (by omega)
  have hi := isnS a b
  have hsc : sharedD b a = sharedD a b := by unfold sharedD; rw [clash_comm, meet_comm]
  rw [hsc] at rs
  cases hc : clashB a b with
  | true =>
    have e : sharedD a b = encB (meet a b) := by unfold sharedD; rw [hc]; rfl
    rw [hc] at hi
    rw [e] at hi rs ⊢
    simp only [s_law_1_6, v, ra, e1, hr, hi, rs, neB, beq_self_eq_true, andq, orq, negq, lockE_v, lockE_o, lockE_nil, wipeE_cons, wipeE_nil, backE_cons, backE_nil, unlockE_nil, evq_var, evq_con, evq_tup, evq_lst, evq_op, evq_chain, evq_and, evq_or, evq_ite, evq_call, evq_mth, evq_nil, evq_cons, evq_star, evq_val, evq_rng, evq_zip, exq_set, exq_unp, exq_par, exq_expr, exq_ret, exq_iff, exq_nil, exq_cons, opq_add, opq_sub, opq_mul, opq_mod, opq_fdiv, opq_neg, opq_lt, opq_le, opq_gt, opq_ge, opq_eqI, opq_neI, opq_eqB, opq_neB, opq_isN, opq_isnN, opq_isT, opq_isnT, opq_isB, opq_isnB, opq_truB, opq_not, opq_asI, opq_i0, opq_i1, opq_l0, opq_l1, opq_max2, opq_min2, opq_lenL, opq_lenT, opq_tupL, opq_tupT, opq_lstL, opq_lstT, opq_revL, opq_abs, opq_int, opq_addT, opq_addL, opq_sum, opq_min1, opq_max1, opq_slT, opq_slD, opq_slTL, rdq_v, rdq_o, rdq_s, rdsq_nil, rdsq_cons, tkq_v, tkq_o, tkq_s, tksq_nil, tksq_cons, itq_l, itq_t, setRq_v, setRq_o, setRq_s, retq_v, retq_o, retq_s, boolq, zipq, arg1q_v, arg1q_o, arg1q_s, callq, parKq_v, parKq_o, parKq_s, setRsq, isSq_v, isSq_o, isSq_s, mthq_append, mthq_extend, mthq_pop, lsq, bindq_nm, bindq_t, bindq_l, bindsq_nil, bindsq_cons, O.bind_ok, O.of_some, argD, ioSlots, backIo, slotsR, borrows, parL, setL, List.getElem?_cons_succ, List.getElem?_cons_zero, List.set_cons_succ, List.set_cons_zero, reduceIte, if_true, if_false, Bool.false_eq_true, Bool.not_true, Bool.not_false, true_and, and_true, true_or, or_true, decide_true, decide_false, ne_eq, not_false_eq_true, not_true_eq_false, Int.reduceAdd, Int.reduceSub, Int.reduceMul, List.append_nil, List.nil_append, List.cons_append, reduceCtorEq, List.length_cons, List.length_nil, Nat.reduceAdd, Nat.reduceLT, Nat.reduceLeDiff, sz0, sz1, sz2, sz3, sz4, sz5, slt0, Bool.and_true, Bool.true_and, Nat.reduceBEq, List.nodup_cons, List.not_mem_nil, List.nodup_nil, false_or, Bool.or_false, Bool.false_or, and_self, Int.reduceEq, Int.reduceNe, itB, itT, itL, i0, i1]
  | false =>
    rw [hc] at hi
    simp only [s_law_1_6, v, ra, e1, hr, hi, beq_self_eq_true, andq, orq, negq, lockE_v, lockE_o, lockE_nil, wipeE_cons, wipeE_nil, backE_cons, backE_nil, unlockE_nil, evq_var, evq_con, evq_tup, evq_lst, evq_op, evq_chain, evq_and, evq_or, evq_ite, evq_call, evq_mth, evq_nil, evq_cons, evq_star, evq_val, evq_rng, evq_zip, exq_set, exq_unp, exq_par, exq_expr, exq_ret, exq_iff, exq_nil, exq_cons, opq_add, opq_sub, opq_mul, opq_mod, opq_fdiv, opq_neg, opq_lt, opq_le, opq_gt, opq_ge, opq_eqI, opq_neI, opq_eqB, opq_neB, opq_isN, opq_isnN, opq_isT, opq_isnT, opq_isB, opq_isnB, opq_truB, opq_not, opq_asI, opq_i0, opq_i1, opq_l0, opq_l1, opq_max2, opq_min2, opq_lenL, opq_lenT, opq_tupL, opq_tupT, opq_lstL, opq_lstT, opq_revL, opq_abs, opq_int, opq_addT, opq_addL, opq_sum, opq_min1, opq_max1, opq_slT, opq_slD, opq_slTL, rdq_v, rdq_o, rdq_s, rdsq_nil, rdsq_cons, tkq_v, tkq_o, tkq_s, tksq_nil, tksq_cons, itq_l, itq_t, setRq_v, setRq_o, setRq_s, retq_v, retq_o, retq_s, boolq, zipq, arg1q_v, arg1q_o, arg1q_s, callq, parKq_v, parKq_o, parKq_s, setRsq, isSq_v, isSq_o, isSq_s, mthq_append, mthq_extend, mthq_pop, lsq, bindq_nm, bindq_t, bindq_l, bindsq_nil, bindsq_cons, O.bind_ok, O.of_some, argD, ioSlots, backIo, slotsR, borrows, parL, setL, List.getElem?_cons_succ, List.getElem?_cons_zero, List.set_cons_succ, List.set_cons_zero, reduceIte, if_true, if_false, Bool.false_eq_true, Bool.not_true, Bool.not_false, true_and, and_true, true_or, or_true, decide_true, decide_false, ne_eq, not_false_eq_true, not_true_eq_false, Int.reduceAdd, Int.reduceSub, Int.reduceMul, List.append_nil, List.nil_append, List.cons_append, reduceCtorEq, List.length_cons, List.length_nil, Nat.reduceAdd, Nat.reduceLT, Nat.reduceLeDiff, sz0, sz1, sz2, sz3, sz4, sz5, slt0, Bool.and_true, Bool.true_and, Nat.reduceBEq, List.nodup_cons, List.not_mem_nil, List.nodup_nil, false_or, Bool.or_false, Bool.false_or, and_self, Int.reduceEq, Int.reduceNe, itB, itT, itL, i0, i1]
theorem s7 : exS C s_law_1_7 [e0, e1, e2, e3, e4, e5, e6, e7, e8, e9, e10, e11, e12, e13, e14, e15, e16, e17, e18, e19, e20, e21, e22, e23, e24, none, none] = .ok .nx [e0, e1, e2, e3, e4, e5, e6, e7, e8, e9, e10, some (.int 0, .fz), some (.int 0, .fz), e13, e14, e15, e16, e17, e18, e19, e20, e21, e22, e23, e24, none, none] := by
  simp only [s_law_1_7, andq, orq, negq, lockE_v, lockE_o, lockE_nil, wipeE_cons, wipeE_nil, backE_cons, backE_nil, unlockE_nil, evq_var, evq_con, evq_tup, evq_lst, evq_op, evq_chain, evq_and, evq_or, evq_ite, evq_call, evq_mth, evq_nil, evq_cons, evq_star, evq_val, evq_rng, evq_zip, exq_set, exq_unp, exq_par, exq_expr, exq_ret, exq_iff, exq_nil, exq_cons, opq_add, opq_sub, opq_mul, opq_mod, opq_fdiv, opq_neg, opq_lt, opq_le, opq_gt, opq_ge, opq_eqI, opq_neI, opq_eqB, opq_neB, opq_isN, opq_isnN, opq_isT, opq_isnT, opq_isB, opq_isnB, opq_truB, opq_not, opq_asI, opq_i0, opq_i1, opq_l0, opq_l1, opq_max2, opq_min2, opq_lenL, opq_lenT, opq_tupL, opq_tupT, opq_lstL, opq_lstT, opq_revL, opq_abs, opq_int, opq_addT, opq_addL, opq_sum, opq_min1, opq_max1, opq_slT, opq_slD, opq_slTL, rdq_v, rdq_o, rdq_s, rdsq_nil, rdsq_cons, tkq_v, tkq_o, tkq_s, tksq_nil, tksq_cons, itq_l, itq_t, setRq_v, setRq_o, setRq_s, retq_v, retq_o, retq_s, boolq, zipq, arg1q_v, arg1q_o, arg1q_s, callq, parKq_v, parKq_o, parKq_s, setRsq, isSq_v, isSq_o, isSq_s, mthq_append, mthq_extend, mthq_pop, lsq, bindq_nm, bindq_t, bindq_l, bindsq_nil, bindsq_cons, O.bind_ok, O.of_some, argD, ioSlots, backIo, slotsR, borrows, parL, setL, List.getElem?_cons_succ, List.getElem?_cons_zero, List.set_cons_succ, List.set_cons_zero, reduceIte, if_true, if_false, Bool.false_eq_true, Bool.not_true, Bool.not_false, true_and, and_true, true_or, or_true, decide_true, decide_false, ne_eq, not_false_eq_true, not_true_eq_false, Int.reduceAdd, Int.reduceSub, Int.reduceMul, List.append_nil, List.nil_append, List.cons_append, reduceCtorEq, List.length_cons, List.length_nil, Nat.reduceAdd, Nat.reduceLT, Nat.reduceLeDiff, sz0, sz1, sz2, sz3, sz4, sz5, slt0, Bool.and_true, Bool.true_and, Nat.reduceBEq, List.nodup_cons, List.not_mem_nil, List.nodup_nil, false_or, Bool.or_false, Bool.false_or, and_self, Int.reduceEq, Int.reduceNe, itB, itT, itL, i0, i1]
/-- one pair's turn -/
theorem s8b (H : Has C) {n : Nat} (hn : n ≤ 3) (a b : Box) (ha : Proper a) (hb : Proper b) (sa : Sub a (uni n)) (sb : Sub b (uni n)) (x : Int) : exSs C fb_law_0 [e0, e1, e2, e3, e4, e5, e6, e7, e8, e9, e10, some (.int x, .fz), e12, some (encB a, .fz), some (encB b, .fz), e15, e16, e17, e18, e19, e20, e21, e22, e23, e24, none, none] = .ok .nx [e0, e1, e2, e3, e4, e5, e6, e7, e8, e9, e10, some (.int (x + common a b), .fz), e12, some (encB a, .fz), some (encB b, .fz), some (sharedD a b, .fz), e16, e17, e18, e19, e20, e21, e22, e23, e24, none, none] := by
  have la := lenU sa
  have lb := lenU sb
  have hl : a.length = b.length := by rw [la, lb]
  have rs := H.r1 a b (by omega)
  have hi := isnS a b
  have c1 : exS C s_law_0_0 [e0, e1, e2, e3, e4, e5, e6, e7, e8, e9, e10, some (.int x, .fz), e12, some (encB a, .fz), some (encB b, .fz), e15, e16, e17, e18, e19, e20, e21, e22, e23, e24, none, none] = .ok .nx [e0, e1, e2, e3, e4, e5, e6, e7, e8, e9, e10, some (.int x, .fz), e12, some (encB a, .fz), some (encB b, .fz), some (sharedD a b, .fz), e16, e17, e18, e19, e20, e21, e22, e23, e24, none, none] := by
    simp only [s_law_0_0, rs, andq, orq, negq, lockE_v, lockE_o, lockE_nil, wipeE_cons, wipeE_nil, backE_cons, backE_nil, unlockE_nil, evq_var, evq_con, evq_tup, evq_lst, evq_op, evq_chain, evq_and, evq_or, evq_ite, evq_call, evq_mth, evq_nil, evq_cons, evq_star, evq_val, evq_rng, evq_zip, exq_set, exq_unp, exq_par, exq_expr, exq_ret, exq_iff, exq_nil, exq_cons, opq_add, opq_sub, opq_mul, opq_mod, opq_fdiv, opq_neg, opq_lt, opq_le, opq_gt, opq_ge, opq_eqI, opq_neI, opq_eqB, opq_neB, opq_isN, opq_isnN, opq_isT, opq_isnT, opq_isB, opq_isnB, opq_truB, opq_not, opq_asI, opq_i0, opq_i1, opq_l0, opq_l1, opq_max2, opq_min2, opq_lenL, opq_lenT, opq_tupL, opq_tupT, opq_lstL, opq_lstT, opq_revL, opq_abs, opq_int, opq_addT, opq_addL, opq_sum, opq_min1, opq_max1, opq_slT, opq_slD, opq_slTL, rdq_v, rdq_o, rdq_s, rdsq_nil, rdsq_cons, tkq_v, tkq_o, tkq_s, tksq_nil, tksq_cons, itq_l, itq_t, setRq_v, setRq_o, setRq_s, retq_v, retq_o, retq_s, boolq, zipq, arg1q_v, arg1q_o, arg1q_s, callq, parKq_v, parKq_o, parKq_s, setRsq, isSq_v, isSq_o, isSq_s, mthq_append, mthq_extend, mthq_pop, lsq, bindq_nm, bindq_t, bindq_l, bindsq_nil, bindsq_cons, O.bind_ok, O.of_some, argD, ioSlots, backIo, slotsR, borrows, parL, setL, List.getElem?_cons_succ, List.getElem?_cons_zero, List.set_cons_succ, List.set_cons_zero, reduceIte, if_true, if_false, Bool.false_eq_true, Bool.not_true, Bool.not_false, true_and, and_true, true_or, or_true, decide_true, decide_false, ne_eq, not_false_eq_true, not_true_eq_false, Int.reduceAdd, Int.reduceSub, Int.reduceMul, List.append_nil, List.nil_append, List.cons_append, reduceCtorEq, List.length_cons, List.length_nil, Nat.reduceAdd, Nat.reduceLT, Nat.reduceLeDiff, sz0, sz1, sz2, sz3, sz4, sz5, slt0, Bool.and_true, Bool.true_and, Nat.reduceBEq, List.nodup_cons, List.not_mem_nil, List.nodup_nil, false_or, Bool.or_false, Bool.false_or, and_self, Int.reduceEq, Int.reduceNe, itB, itT, itL, i0, i1]
  have c2 : exS C s_law_0_1 [e0, e1, e2, e3, e4, e5, e6, e7, e8, e9, e10, some (.int x, .fz), e12, some (encB a, .fz), some (encB b, .fz), some (sharedD a b, .fz), e16, e17, e18, e19, e20, e21, e22, e23, e24, none, none] = .ok .nx [e0, e1, e2, e3, e4, e5, e6, e7, e8, e9, e10, some (.int (x + common a b), .fz), e12, some (encB a, .fz), some (encB b, .fz), some (sharedD a b, .fz), e16, e17, e18, e19, e20, e21, e22, e23, e24, none, none] := by
    unfold common
    cases hc : clashB a b with
    | true =>
      have e : sharedD a b = encB (meet a b) := by unfold sharedD; rw [hc]; rfl
      have r3 := roomU H hn (meet_proper ha hb hc) ((meet_sub hl).trans sa)
      rw [hc] at hi
      rw [e] at hi ⊢
      simp only [s_law_0_1, hi, r3, andq, orq, negq, lockE_v, lockE_o, lockE_nil, wipeE_cons, wipeE_nil, backE_cons, backE_nil, unlockE_nil, evq_var, evq_con, evq_tup, evq_lst, evq_op, evq_chain, evq_and, evq_or, evq_ite, evq_call, evq_mth, evq_nil, evq_cons, evq_star, evq_val, evq_rng, evq_zip, exq_set, exq_unp, exq_par, exq_expr, exq_ret, exq_iff, exq_nil, exq_cons, opq_add, opq_sub, opq_mul, opq_mod, opq_fdiv, opq_neg, opq_lt, opq_le, opq_gt, opq_ge, opq_eqI, opq_neI, opq_eqB, opq_neB, opq_isN, opq_isnN, opq_isT, opq_isnT, opq_isB, opq_isnB, opq_truB, opq_not, opq_asI, opq_i0, opq_i1, opq_l0, opq_l1, opq_max2, opq_min2, opq_lenL, opq_lenT, opq_tupL, opq_tupT, opq_lstL, opq_lstT, opq_revL, opq_abs, opq_int, opq_addT, opq_addL, opq_sum, opq_min1, opq_max1, opq_slT, opq_slD, opq_slTL, rdq_v, rdq_o, rdq_s, rdsq_nil, rdsq_cons, tkq_v, tkq_o, tkq_s, tksq_nil, tksq_cons, itq_l, itq_t, setRq_v, setRq_o, setRq_s, retq_v, retq_o, retq_s, boolq, zipq, arg1q_v, arg1q_o, arg1q_s, callq, parKq_v, parKq_o, parKq_s, setRsq, isSq_v, isSq_o, isSq_s, mthq_append, mthq_extend, mthq_pop, lsq, bindq_nm, bindq_t, bindq_l, bindsq_nil, bindsq_cons, O.bind_ok, O.of_some, argD, ioSlots, backIo, slotsR, borrows, parL, setL, List.getElem?_cons_succ, List.getElem?_cons_zero, List.set_cons_succ, List.set_cons_zero, reduceIte, if_true, if_false, Bool.false_eq_true, Bool.not_true, Bool.not_false, true_and, and_true, true_or, or_true, decide_true, decide_false, ne_eq, not_false_eq_true, not_true_eq_false, Int.reduceAdd, Int.reduceSub, Int.reduceMul, List.append_nil, List.nil_append, List.cons_append, reduceCtorEq, List.length_cons, List.length_nil, Nat.reduceAdd, Nat.reduceLT, Nat.reduceLeDiff, sz0, sz1, sz2, sz3, sz4, sz5, slt0, Bool.and_true, Bool.true_and, Nat.reduceBEq, List.nodup_cons, List.not_mem_nil, List.nodup_nil, false_or, Bool.or_false, Bool.false_or, and_self, Int.reduceEq, Int.reduceNe, itB, itT, itL, i0, i1]
    | false =>
      rw [hc] at hi
      simp only [s_law_0_1, hi, andq, orq, negq, lockE_v, lockE_o, lockE_nil, wipeE_cons, wipeE_nil, backE_cons, backE_nil, unlockE_nil, evq_var, evq_con, evq_tup, evq_lst, evq_op, evq_chain, evq_and, evq_or, evq_ite, evq_call, evq_mth, evq_nil, evq_cons, evq_star, evq_val, evq_rng, evq_zip, exq_set, exq_unp, exq_par, exq_expr, exq_ret, exq_iff, exq_nil, exq_cons, opq_add, opq_sub, opq_mul, opq_mod, opq_fdiv, opq_neg, opq_lt, opq_le, opq_gt, opq_ge, opq_eqI, opq_neI, opq_eqB, opq_neB, opq_isN, opq_isnN, opq_isT, opq_isnT, opq_isB, opq_isnB, opq_truB, opq_not, opq_asI, opq_i0, opq_i1, opq_l0, opq_l1, opq_max2, opq_min2, opq_lenL, opq_lenT, opq_tupL, opq_tupT, opq_lstL, opq_lstT, opq_revL, opq_abs, opq_int, opq_addT, opq_addL, opq_sum, opq_min1, opq_max1, opq_slT, opq_slD, opq_slTL, rdq_v, rdq_o, rdq_s, rdsq_nil, rdsq_cons, tkq_v, tkq_o, tkq_s, tksq_nil, tksq_cons, itq_l, itq_t, setRq_v, setRq_o, setRq_s, retq_v, retq_o, retq_s, boolq, zipq, arg1q_v, arg1q_o, arg1q_s, callq, parKq_v, parKq_o, parKq_s, setRsq, isSq_v, isSq_o, isSq_s, mthq_append, mthq_extend, mthq_pop, lsq, bindq_nm, bindq_t, bindq_l, bindsq_nil, bindsq_cons, O.bind_ok, O.of_some, argD, ioSlots, backIo, slotsR, borrows, parL, setL, List.getElem?_cons_succ, List.getElem?_cons_zero, List.set_cons_succ, List.set_cons_zero, reduceIte, if_true, if_false, Bool.false_eq_true, Bool.not_true, Bool.not_false, true_and, and_true, true_or, or_true, decide_true, decide_false, ne_eq, not_false_eq_true, not_true_eq_false, Int.reduceAdd, Int.reduceSub, Int.reduceMul, List.append_nil, List.nil_append, List.cons_append, reduceCtorEq, List.length_cons, List.length_nil, Nat.reduceAdd, Nat.reduceLT, Nat.reduceLeDiff, sz0, sz1, sz2, sz3, sz4, sz5, slt0, Bool.and_true, Bool.true_and, Nat.reduceBEq, List.nodup_cons, List.not_mem_nil, List.nodup_nil, false_or, Bool.or_false, Bool.false_or, and_self, Int.reduceEq, Int.reduceNe, itB, itT, itL, i0, i1]
  exact (exSs_cons c1).trans ((exSs_cons c2).trans exSs_nil)
theorem s8 (H : Has C) {n : Nat} (hn : n ≤ 3) (a b c : Box) (ha : Proper a) (hb : Proper b) (hc : Proper c) (sa : Sub a (uni n)) (sb : Sub b (uni n)) (sc : Sub c (uni n)) : ∃ e13' e14' e15', exS C f_law_0 [e0, e1, e2, e3, some (encB a, .fz), some (encB b, .fz), some (encB c, .fz), e7, e8, e9, e10, some (.int 0, .fz), e12, e13, e14, e15, e16, e17, e18, e19, e20, e21, e22, e23, e24, none, none] = .ok .nx [e0, e1, e2, e3, some (encB a, .fz), some (encB b, .fz), some (encB c, .fz), e7, e8, e9, e10, some (.int (common a b + common a c + common b c), .fz), e12, e13', e14', e15', e16, e17, e18, e19, e20, e21, e22, e23, e24, none, none] := by
  refine ⟨some (encB b, .fz), some (encB c, .fz), some (sharedD b c, .fz), ?_⟩
  have q1 := s8b H hn a b ha hb sa sb 0 (e0 := e0) (e1 := e1) (e2 := e2) (e3 := e3) (e4 := some (encB a, .fz)) (e5 := some (encB b, .fz)) (e6 := some (encB c, .fz)) (e7 := e7) (e8 := e8) (e9 := e9) (e10 := e10) (e12 := e12) (e15 := e15) (e16 := e16) (e17 := e17) (e18 := e18) (e19 := e19) (e20 := e20) (e21 := e21) (e22 := e22) (e23 := e23) (e24 := e24)
  have q2 := s8b H hn a c ha hc sa sc (common a b) (e0 := e0) (e1 := e1) (e2 := e2) (e3 := e3) (e4 := some (encB a, .fz)) (e5 := some (encB b, .fz)) (e6 := some (encB c, .fz)) (e7 := e7) (e8 := e8) (e9 := e9) (e10 := e10) (e12 := e12) (e15 := some (sharedD a b, .fz)) (e16 := e16) (e17 := e17) (e18 := e18) (e19 := e19) (e20 := e20) (e21 := e21) (e22 := e22) (e23 := e23) (e24 := e24)
  have q3 := s8b H hn b c hb hc sb sc (common a b + common a c) (e0 := e0) (e1 := e1) (e2 := e2) (e3 := e3) (e4 := some (encB a, .fz)) (e5 := some (encB b, .fz)) (e6 := some (encB c, .fz)) (e7 := e7) (e8 := e8) (e9 := e9) (e10 := e10) (e12 := e12) (e15 := some (sharedD a c, .fz)) (e16 := e16) (e17 := e17) (e18 := e18) (e19 := e19) (e20 := e20) (e21 := e21) (e22 := e22) (e23 := e23) (e24 := e24)
  rw [Int.zero_add] at q1
  refine (exS_for (ds := [.tuple [encB a, encB b], .tuple [encB a, encB c], .tuple [encB b, encB c]]) (ws := [.o (.list [.tuple [encB a, encB b], .tuple [encB a, encB c], .tuple [encB b, encB c]])]) (e1 := [e0, e1, e2, e3, some (encB a, .fz), some (encB b, .fz), some (encB c, .fz), e7, e8, e9, e10, some (.int 0, .fz), e12, e13, e14, e15, e16, e17, e18, e19, e20, e21, e22, e23, e24, none, none]) ?_ ((loop_cons rfl rfl q1).trans ((loop_cons rfl rfl q2).trans ((loop_cons rfl rfl q3).trans (loop_nil rfl))))).trans rfl
  simp only [andq, orq, negq, lockE_v, lockE_o, lockE_nil, wipeE_cons, wipeE_nil, backE_cons, backE_nil, unlockE_nil, evq_var, evq_con, evq_tup, evq_lst, evq_op, evq_chain, evq_and, evq_or, evq_ite, evq_call, evq_mth, evq_nil, evq_cons, evq_star, evq_val, evq_rng, evq_zip, exq_set, exq_unp, exq_par, exq_expr, exq_ret, exq_iff, exq_nil, exq_cons, opq_add, opq_sub, opq_mul, opq_mod, opq_fdiv, opq_neg, opq_lt, opq_le, opq_gt, opq_ge, opq_eqI, opq_neI, opq_eqB, opq_neB, opq_isN, opq_isnN, opq_isT, opq_isnT, opq_isB, opq_isnB, opq_truB, opq_not, opq_asI, opq_i0, opq_i1, opq_l0, opq_l1, opq_max2, opq_min2, opq_lenL, opq_lenT, opq_tupL, opq_tupT, opq_lstL, opq_lstT, opq_revL, opq_abs, opq_int, opq_addT, opq_addL, opq_sum, opq_min1, opq_max1, opq_slT, opq_slD, opq_slTL, rdq_v, rdq_o, rdq_s, rdsq_nil, rdsq_cons, tkq_v, tkq_o, tkq_s, tksq_nil, tksq_cons, itq_l, itq_t, setRq_v, setRq_o, setRq_s, retq_v, retq_o, retq_s, boolq, zipq, arg1q_v, arg1q_o, arg1q_s, callq, parKq_v, parKq_o, parKq_s, setRsq, isSq_v, isSq_o, isSq_s, mthq_append, mthq_extend, mthq_pop, lsq, bindq_nm, bindq_t, bindq_l, bindsq_nil, bindsq_cons, O.bind_ok, O.of_some, argD, ioSlots, backIo, slotsR, borrows, parL, setL, List.getElem?_cons_succ, List.getElem?_cons_zero, List.set_cons_succ, List.set_cons_zero, reduceIte, if_true, if_false, Bool.false_eq_true, Bool.not_true, Bool.not_false, true_and, and_true, true_or, or_true, decide_true, decide_false, ne_eq, not_false_eq_true, not_true_eq_false, Int.reduceAdd, Int.reduceSub, Int.reduceMul, List.append_nil, List.nil_append, List.cons_append, reduceCtorEq, List.length_cons, List.length_nil, Nat.reduceAdd, Nat.reduceLT, Nat.reduceLeDiff, sz0, sz1, sz2, sz3, sz4, sz5, slt0, Bool.and_true, Bool.true_and, Nat.reduceBEq, List.nodup_cons, List.not_mem_nil, List.nodup_nil, false_or, Bool.or_false, Bool.false_or, and_self, Int.reduceEq, Int.reduceNe, itB, itT, itL, i0, i1]
theorem s9 (H : Has C) {n : Nat} (hn : n ≤ 3) (a b c : Box) (ha : Proper a) (hb : Proper b) (hc : Proper c) (sa : Sub a (uni n)) (sb : Sub b (uni n)) (sc : Sub c (uni n)) : ∃ e15', exS C s_law_1_9 [e0, e1, e2, e3, e4, e5, some (encB c, .fz), some (sharedD a b, .fz), e8, e9, e10, e11, some (.int 0, .fz), e13, e14, e15, e16, e17, e18, e19, e20, e21, e22, e23, e24, none, none] = .ok .nx [e0, e1, e2, e3, e4, e5, some (encB c, .fz), some (sharedD a b, .fz), e8, e9, e10, e11, some (.int (common3 a b c), .fz), e13, e14, e15', e16, e17, e18, e19, e20, e21, e22, e23, e24, none, none] := by
  have la := lenU sa
  have lb := lenU sb
  have lc := lenU sc
  have hl : a.length = b.length := by rw [la, lb]
  have hi := isnS a b
  unfold common3 common
  cases hab : clashB a b with
  | true =>
    have e : sharedD a b = encB (meet a b) := by unfold sharedD; rw [hab]; rfl
    have hm := meet_proper ha hb hab
    have sm := (meet_sub hl).trans sa
    have lm := lenU sm
    have rs := H.r1 (meet a b) c (by omega)
    have hi2 := isnS (meet a b) c
    rw [hab] at hi
    rw [e] at hi ⊢
    refine ⟨some (sharedD (meet a b) c, .fz), ?_⟩
    cases hmc : clashB (meet a b) c with
    | true =>
      have e2 : sharedD (meet a b) c = encB (meet (meet a b) c) := by unfold sharedD; rw [hmc]; rfl
      have r3 := roomU H hn (meet_proper hm hc hmc) ((meet_sub (by omega)).trans sm)
      rw [hmc] at hi2
      rw [e2] at hi2 rs ⊢
      simp only [s_law_1_9, hi, rs, hi2, r3, andq, orq, negq, lockE_v, lockE_o, lockE_nil, wipeE_cons, wipeE_nil, backE_cons, backE_nil, unlockE_nil, evq_var, evq_con, evq_tup, evq_lst, evq_op, evq_chain, evq_and, evq_or, evq_ite, evq_call, evq_mth, evq_nil, evq_cons, evq_star, evq_val, evq_rng, evq_zip, exq_set, exq_unp, exq_par, exq_expr, exq_ret, exq_iff, exq_nil, exq_cons, opq_add, opq_sub, opq_mul, opq_mod, opq_fdiv, opq_neg, opq_lt, opq_le, opq_gt, opq_ge, opq_eqI, opq_neI, opq_eqB, opq_neB, opq_isN, opq_isnN, opq_isT, opq_isnT, opq_isB, opq_isnB, opq_truB, opq_not, opq_asI, opq_i0, opq_i1, opq_l0, opq_l1, opq_max2, opq_min2, opq_lenL, opq_lenT, opq_tupL, opq_tupT, opq_lstL, opq_lstT, opq_revL, opq_abs, opq_int, opq_addT, opq_addL, opq_sum, opq_min1, opq_max1, opq_slT, opq_slD, opq_slTL, rdq_v, rdq_o, rdq_s, rdsq_nil, rdsq_cons, tkq_v, tkq_o, tkq_s, tksq_nil, tksq_cons, itq_l, itq_t, setRq_v, setRq_o, setRq_s, retq_v, retq_o, retq_s, boolq, zipq, arg1q_v, arg1q_o, arg1q_s, callq, parKq_v, parKq_o, parKq_s, setRsq, isSq_v, isSq_o, isSq_s, mthq_append, mthq_extend, mthq_pop, lsq, bindq_nm, bindq_t, bindq_l, bindsq_nil, bindsq_cons, O.bind_ok, O.of_some, argD, ioSlots, backIo, slotsR, borrows, parL, setL, List.getElem?_cons_succ, List.getElem?_cons_zero, List.set_cons_succ, List.set_cons_zero, reduceIte, if_true, if_false, Bool.false_eq_true, Bool.not_true, Bool.not_false, true_and, and_true, true_or, or_true, decide_true, decide_false, ne_eq, not_false_eq_true, not_true_eq_false, Int.reduceAdd, Int.reduceSub, Int.reduceMul, List.append_nil, List.nil_append, List.cons_append, reduceCtorEq, List.length_cons, List.length_nil, Nat.reduceAdd, Nat.reduceLT, Nat.reduceLeDiff, sz0, sz1, sz2, sz3, sz4, sz5, slt0, Bool.and_true, Bool.true_and, Nat.reduceBEq, List.nodup_cons, List.not_mem_nil, List.nodup_nil, false_or, Bool.or_false, Bool.false_or, and_self, Int.reduceEq, Int.reduceNe, itB, itT, itL, i0, i1]
    | false =>
      rw [hmc] at hi2
      simp only [s_law_1_9, hi, rs, hi2, andq, orq, negq, lockE_v, lockE_o, lockE_nil, wipeE_cons, wipeE_nil, backE_cons, backE_nil, unlockE_nil, evq_var, evq_con, evq_tup, evq_lst, evq_op, evq_chain, evq_and, evq_or, evq_ite, evq_call, evq_mth, evq_nil, evq_cons, evq_star, evq_val, evq_rng, evq_zip, exq_set, exq_unp, exq_par, exq_expr, exq_ret, exq_iff, exq_nil, exq_cons, opq_add, opq_sub, opq_mul, opq_mod, opq_fdiv, opq_neg, opq_lt, opq_le, opq_gt, opq_ge, opq_eqI, opq_neI, opq_eqB, opq_neB, opq_isN, opq_isnN, opq_isT, opq_isnT, opq_isB, opq_isnB, opq_truB, opq_not, opq_asI, opq_i0, opq_i1, opq_l0, opq_l1, opq_max2, opq_min2, opq_lenL, opq_lenT, opq_tupL, opq_tupT, opq_lstL, opq_lstT, opq_revL, opq_abs, opq_int, opq_addT, opq_addL, opq_sum, opq_min1, opq_max1, opq_slT, opq_slD, opq_slTL, rdq_v, rdq_o, rdq_s, rdsq_nil, rdsq_cons, tkq_v, tkq_o, tkq_s, tksq_nil, tksq_cons, itq_l, itq_t, setRq_v, setRq_o, setRq_s, retq_v, retq_o, retq_s, boolq, zipq, arg1q_v, arg1q_o, arg1q_s, callq, parKq_v, parKq_o, parKq_s, setRsq, isSq_v, isSq_o, isSq_s, mthq_append, mthq_extend, mthq_pop, lsq, bindq_nm, bindq_t, bindq_l, bindsq_nil, bindsq_cons, O.bind_ok, O.of_some, argD, ioSlots, backIo, slotsR, borrows, parL, setL, List.getElem?_cons_succ, List.getElem?_cons_zero, List.set_cons_succ, List.set_cons_zero, reduceIte, if_true, if_false, Bool.false_eq_true, Bool.not_true, Bool.not_false, true_and, and_true, true_or, or_true, decide_true, decide_false, ne_eq, not_false_eq_true, not_true_eq_false, Int.reduceAdd, Int.reduceSub, Int.reduceMul, List.append_nil, List.nil_append, List.cons_append, reduceCtorEq, List.length_cons, List.length_nil, Nat.reduceAdd, Nat.reduceLT, Nat.reduceLeDiff, sz0, sz1, sz2, sz3, sz4, sz5, slt0, Bool.and_true, Bool.true_and, Nat.reduceBEq, List.nodup_cons, List.not_mem_nil, List.nodup_nil, false_or, Bool.or_false, Bool.false_or, and_self, Int.reduceEq, Int.reduceNe, itB, itT, itL, i0, i1]
  | false =>
    rw [hab] at hi
    refine ⟨e15, ?_⟩
    simp only [s_law_1_9, hi, andq, orq, negq, lockE_v, lockE_o, lockE_nil, wipeE_cons, wipeE_nil, backE_cons, backE_nil, unlockE_nil, evq_var, evq_con, evq_tup, evq_lst, evq_op, evq_chain, evq_and, evq_or, evq_ite, evq_call, evq_mth, evq_nil, evq_cons, evq_star, evq_val, evq_rng, evq_zip, exq_set, exq_unp, exq_par, exq_expr, exq_ret, exq_iff, exq_nil, exq_cons, opq_add, opq_sub, opq_mul, opq_mod, opq_fdiv, opq_neg, opq_lt, opq_le, opq_gt, opq_ge, opq_eqI, opq_neI, opq_eqB, opq_neB, opq_isN, opq_isnN, opq_isT, opq_isnT, opq_isB, opq_isnB, opq_truB, opq_not, opq_asI, opq_i0, opq_i1, opq_l0, opq_l1, opq_max2, opq_min2, opq_lenL, opq_lenT, opq_tupL, opq_tupT, opq_lstL, opq_lstT, opq_revL, opq_abs, opq_int, opq_addT, opq_addL, opq_sum, opq_min1, opq_max1, opq_slT, opq_slD, opq_slTL, rdq_v, rdq_o, rdq_s, rdsq_nil, rdsq_cons, tkq_v, tkq_o, tkq_s, tksq_nil, tksq_cons, itq_l, itq_t, setRq_v, setRq_o, setRq_s, retq_v, retq_o, retq_s, boolq, zipq, arg1q_v, arg1q_o, arg1q_s, callq, parKq_v, parKq_o, parKq_s, setRsq, isSq_v, isSq_o, isSq_s, mthq_append, mthq_extend, mthq_pop, lsq, bindq_nm, bindq_t, bindq_l, bindsq_nil, bindsq_cons, O.bind_ok, O.of_some, argD, ioSlots, backIo, slotsR, borrows, parL, setL, List.getElem?_cons_succ, List.getElem?_cons_zero, List.set_cons_succ, List.set_cons_zero, reduceIte, if_true, if_false, Bool.false_eq_true, Bool.not_true, Bool.not_false, true_and, and_true, true_or, or_true, decide_true, decide_false, ne_eq, not_false_eq_true, not_true_eq_false, Int.reduceAdd, Int.reduceSub, Int.reduceMul, List.append_nil, List.nil_append, List.cons_append, reduceCtorEq, List.length_cons, List.length_nil, Nat.reduceAdd, Nat.reduceLT, Nat.reduceLeDiff, sz0, sz1, sz2, sz3, sz4, sz5, slt0, Bool.and_true, Bool.true_and, Nat.reduceBEq, List.nodup_cons, List.not_mem_nil, List.nodup_nil, false_or, Bool.or_false, Bool.false_or, and_self, Int.reduceEq, Int.reduceNe, itB, itT, itL, i0, i1]
theorem s10 (H : Has C) {n : Nat} (hn : n ≤ 3) (a b c : Box) (ha : Proper a) (hb : Proper b) (hc : Proper c) (sa : Sub a (uni n)) (sb : Sub b (uni n)) (sc : Sub c (uni n)) : exS C s_law_1_10 [e0, e1, e2, e3, some (encB a, .fz), some (encB b, .fz), some (encB c, .fz), e7, e8, e9, e10, some (.int (common a b + common a c + common b c), .fz), some (.int (common3 a b c), .fz), e13, e14, e15, e16, e17, e18, e19, e20, e21, e22, e23, e24, none, none] = .ok .nx [e0, e1, e2, e3, some (encB a, .fz), some (encB b, .fz), some (encB c, .fz), e7, e8, e9, e10, some (.int (common a b + common a c + common b c), .fz), some (.int (common3 a b c), .fz), e13, e14, e15, e16, e17, e18, e19, e20, e21, e22, e23, e24, none, none] := by
  have v := volU H hn (x := .tuple [encB a, encB b, encB c]) (bs := [a, b, c]) rfl (Ok.cons ha sa (Ok.cons hb sb (Ok.one hc sc)))
  have ra := roomU H hn ha sa
  have rb := roomU H hn hb sb
  have rc := roomU H hn hc sc
  have t := three ha hb hc sa sb sc
  simp only [s_law_1_10, v, ra, rb, rc, t, andq, orq, negq, lockE_v, lockE_o, lockE_nil, wipeE_cons, wipeE_nil, backE_cons, backE_nil, unlockE_nil, evq_var, evq_con, evq_tup, evq_lst, evq_op, evq_chain, evq_and, evq_or, evq_ite, evq_call, evq_mth, evq_nil, evq_cons, evq_star, evq_val, evq_rng, evq_zip, exq_set, exq_unp, exq_par, exq_expr, exq_ret, exq_iff, exq_nil, exq_cons, opq_add, opq_sub, opq_mul, opq_mod, opq_fdiv, opq_neg, opq_lt, opq_le, opq_gt, opq_ge, opq_eqI, opq_neI, opq_eqB, opq_neB, opq_isN, opq_isnN, opq_isT, opq_isnT, opq_isB, opq_isnB, opq_truB, opq_not, opq_asI, opq_i0, opq_i1, opq_l0, opq_l1, opq_max2, opq_min2, opq_lenL, opq_lenT, opq_tupL, opq_tupT, opq_lstL, opq_lstT, opq_revL, opq_abs, opq_int, opq_addT, opq_addL, opq_sum, opq_min1, opq_max1, opq_slT, opq_slD, opq_slTL, rdq_v, rdq_o, rdq_s, rdsq_nil, rdsq_cons, tkq_v, tkq_o, tkq_s, tksq_nil, tksq_cons, itq_l, itq_t, setRq_v, setRq_o, setRq_s, retq_v, retq_o, retq_s, boolq, zipq, arg1q_v, arg1q_o, arg1q_s, callq, parKq_v, parKq_o, parKq_s, setRsq, isSq_v, isSq_o, isSq_s, mthq_append, mthq_extend, mthq_pop, lsq, bindq_nm, bindq_t, bindq_l, bindsq_nil, bindsq_cons, O.bind_ok, O.of_some, argD, ioSlots, backIo, slotsR, borrows, parL, setL, List.getElem?_cons_succ, List.getElem?_cons_zero, List.set_cons_succ, List.set_cons_zero, reduceIte, if_true, if_false, Bool.false_eq_true, Bool.not_true, Bool.not_false, true_and, and_true, true_or, or_true, decide_true, decide_false, ne_eq, not_false_eq_true, not_true_eq_false, Int.reduceAdd, Int.reduceSub, Int.reduceMul, List.append_nil, List.nil_append, List.cons_append, reduceCtorEq, List.length_cons, List.length_nil, Nat.reduceAdd, Nat.reduceLT, Nat.reduceLeDiff, sz0, sz1, sz2, sz3, sz4, sz5, slt0, Bool.and_true, Bool.true_and, Nat.reduceBEq, List.nodup_cons, List.not_mem_nil, List.nodup_nil, false_or, Bool.or_false, Bool.false_or, and_self, Int.reduceEq, Int.reduceNe, itB, itT, itL, i0, i1]
theorem s11 (H : Has C) (ns : List Int) {n : Nat} (h0 : 0 < n) : ∃ (i : Nat), i < n ∧ exS C s_law_1_11 [e0, some (encN ns, .ow), e2, some (.int n, .fz), e4, e5, e6, e7, e8, e9, e10, e11, e12, e13, e14, e15, e16, e17, e18, e19, e20, e21, e22, e23, e24, none, none] = .ok .nx [e0, some (encN ns.dropLast, .ow), e2, some (.int n, .fz), e4, e5, e6, e7, e8, e9, e10, e11, e12, e13, e14, e15, some (.int i, .fz), e17, e18, e19, e20, e21, e22, e23, e24, none, none] := by
  have r := H.r10 ns n (by omega)
  have t := takeV_ok ns (m := n) (by omega)
  generalize takeV ns n = x at *
  obtain ⟨i, hi⟩ : ∃ i : Nat, x = (i : Int) := ⟨x.toNat, by omega⟩
  subst hi
  refine ⟨i, by omega, ?_⟩
  simp only [s_law_1_11, H.t10, r, andq, orq, negq, lockE_v, lockE_o, lockE_nil, wipeE_cons, wipeE_nil, backE_cons, backE_nil, unlockE_nil, evq_var, evq_con, evq_tup, evq_lst, evq_op, evq_chain, evq_and, evq_or, evq_ite, evq_call, evq_mth, evq_nil, evq_cons, evq_star, evq_val, evq_rng, evq_zip, exq_set, exq_unp, exq_par, exq_expr, exq_ret, exq_iff, exq_nil, exq_cons, opq_add, opq_sub, opq_mul, opq_mod, opq_fdiv, opq_neg, opq_lt, opq_le, opq_gt, opq_ge, opq_eqI, opq_neI, opq_eqB, opq_neB, opq_isN, opq_isnN, opq_isT, opq_isnT, opq_isB, opq_isnB, opq_truB, opq_not, opq_asI, opq_i0, opq_i1, opq_l0, opq_l1, opq_max2, opq_min2, opq_lenL, opq_lenT, opq_tupL, opq_tupT, opq_lstL, opq_lstT, opq_revL, opq_abs, opq_int, opq_addT, opq_addL, opq_sum, opq_min1, opq_max1, opq_slT, opq_slD, opq_slTL, rdq_v, rdq_o, rdq_s, rdsq_nil, rdsq_cons, tkq_v, tkq_o, tkq_s, tksq_nil, tksq_cons, itq_l, itq_t, setRq_v, setRq_o, setRq_s, retq_v, retq_o, retq_s, boolq, zipq, arg1q_v, arg1q_o, arg1q_s, callq, parKq_v, parKq_o, parKq_s, setRsq, isSq_v, isSq_o, isSq_s, mthq_append, mthq_extend, mthq_pop, lsq, bindq_nm, bindq_t, bindq_l, bindsq_nil, bindsq_cons, O.bind_ok, O.of_some, argD, ioSlots, backIo, slotsR, borrows, parL, setL, List.getElem?_cons_succ, List.getElem?_cons_zero, List.set_cons_succ, List.set_cons_zero, reduceIte, if_true, if_false, Bool.false_eq_true, Bool.not_true, Bool.not_false, true_and, and_true, true_or, or_true, decide_true, decide_false, ne_eq, not_false_eq_true, not_true_eq_false, Int.reduceAdd, Int.reduceSub, Int.reduceMul, List.append_nil, List.nil_append, List.cons_append, reduceCtorEq, List.length_cons, List.length_nil, Nat.reduceAdd, Nat.reduceLT, Nat.reduceLeDiff, sz0, sz1, sz2, sz3, sz4, sz5, slt0, Bool.and_true, Bool.true_and, Nat.reduceBEq, List.nodup_cons, List.not_mem_nil, List.nodup_nil, false_or, Bool.or_false, Bool.false_or, and_self, Int.reduceEq, Int.reduceNe, itB, itT, itL, i0, i1]
theorem s12 (a : Box) (i : Nat) (h : i < a.length) : exS C s_law_1_12 [e0, e1, e2, e3, some (encB a, .fz), e5, e6, e7, e8, e9, e10, e11, e12, e13, e14, e15, some (.int i, .fz), e17, e18, e19, e20, e21, e22, e23, e24, none, none] = .ok .nx [e0, e1, e2, e3, some (encB a, .fz), e5, e6, e7, e8, e9, e10, e11, e12, e13, e14, e15, some (.int i, .fz), some (.int a[i].1, .fz), some (.int a[i].2, .fz), e19, e20, e21, e22, e23, e24, none, none] := by
  simp only [s_law_1_12, ixB h, encI, andq, orq, negq, lockE_v, lockE_o, lockE_nil, wipeE_cons, wipeE_nil, backE_cons, backE_nil, unlockE_nil, evq_var, evq_con, evq_tup, evq_lst, evq_op, evq_chain, evq_and, evq_or, evq_ite, evq_call, evq_mth, evq_nil, evq_cons, evq_star, evq_val, evq_rng, evq_zip, exq_set, exq_unp, exq_par, exq_expr, exq_ret, exq_iff, exq_nil, exq_cons, opq_add, opq_sub, opq_mul, opq_mod, opq_fdiv, opq_neg, opq_lt, opq_le, opq_gt, opq_ge, opq_eqI, opq_neI, opq_eqB, opq_neB, opq_isN, opq_isnN, opq_isT, opq_isnT, opq_isB, opq_isnB, opq_truB, opq_not, opq_asI, opq_i0, opq_i1, opq_l0, opq_l1, opq_max2, opq_min2, opq_lenL, opq_lenT, opq_tupL, opq_tupT, opq_lstL, opq_lstT, opq_revL, opq_abs, opq_int, opq_addT, opq_addL, opq_sum, opq_min1, opq_max1, opq_slT, opq_slD, opq_slTL, rdq_v, rdq_o, rdq_s, rdsq_nil, rdsq_cons, tkq_v, tkq_o, tkq_s, tksq_nil, tksq_cons, itq_l, itq_t, setRq_v, setRq_o, setRq_s, retq_v, retq_o, retq_s, boolq, zipq, arg1q_v, arg1q_o, arg1q_s, callq, parKq_v, parKq_o, parKq_s, setRsq, isSq_v, isSq_o, isSq_s, mthq_append, mthq_extend, mthq_pop, lsq, bindq_nm, bindq_t, bindq_l, bindsq_nil, bindsq_cons, O.bind_ok, O.of_some, argD, ioSlots, backIo, slotsR, borrows, parL, setL, List.getElem?_cons_succ, List.getElem?_cons_zero, List.set_cons_succ, List.set_cons_zero, reduceIte, if_true, if_false, Bool.false_eq_true, Bool.not_true, Bool.not_false, true_and, and_true, true_or, or_true, decide_true, decide_false, ne_eq, not_false_eq_true, not_true_eq_false, Int.reduceAdd, Int.reduceSub, Int.reduceMul, List.append_nil, List.nil_append, List.cons_append, reduceCtorEq, List.length_cons, List.length_nil, Nat.reduceAdd, Nat.reduceLT, Nat.reduceLeDiff, sz0, sz1, sz2, sz3, sz4, sz5, slt0, Bool.and_true, Bool.true_and, Nat.reduceBEq, List.nodup_cons, List.not_mem_nil, List.nodup_nil, false_or, Bool.or_false, Bool.false_or, and_self, Int.reduceEq, Int.reduceNe, itB, itT, itL, i0, i1]
end
end K8
set_option maxRecDepth 100000
-- ex: itB, itT, itL, i0, i1
-- env: 27 none: 25,26
namespace K8
open Mi Bx PySem
theorem addB1 (x : Box) (p : Int × Int) (h : x.length ≤ 1000) : opO (.bin .add) [encB x, .tuple [encI p]] = some (.v (encB (x ++ [p]))) := by
  rw [encB, opq_addT, if_pos (by simp; unfold sizeLine; omega), encB, List.map_append]
  rfl
theorem addB2 (x y : Box) (h : x.length + y.length ≤ 2000) : opO (.bin .add) [encB x, encB y] = some (.v (encB (x ++ y))) := by
  rw [encB, encB, opq_addT, if_pos (by simp; unfold sizeLine; omega), encB, List.map_append]
theorem addT2 (x y : List Box) (h : x.length + y.length ≤ 2000) : opO (.bin .add) [encT x, encT y] = some (.v (encT (x ++ y))) := by
  rw [encT, encT, opq_addT, if_pos (by simp; unfold sizeLine; omega), encT, List.map_append]
theorem cut_app (a : Box) (i : Nat) (p : Int × Int) : a.take i ++ [p] ++ a.drop (i + 1) = cutAt a i p := by simp [cutAt]
section
variable {C : Den} {e0 e1 e2 e3 e4 e5 e6 e7 e8 e9 e10 e11 e12 e13 e14 e15 e16 e17 e18 e19 e20 e21 e22 e23 e24 : Slot}
theorem s13 (H : Has C) (ns : List Int) {n : Nat} (hn : n ≤ 3) (a b : Box) (ha : Proper a) (hb : Proper b) (sa : Sub a (uni n)) (sb : Sub b (uni n)) (i : Nat) (h : i < a.length) : ∃ (ns' : List Int) (e19' e20' : Slot), exS C s_law_1_13 [e0, some (encN ns, .ow), e2, e3, some (encB a, .fz), some (encB b, .fz), e6, e7, e8, e9, e10, e11, e12, e13, e14, e15, some (.int i, .fz), some (.int a[i].1, .fz), some (.int a[i].2, .fz), e19, e20, e21, e22, e23, e24, none, none] = .ok .nx [e0, some (encN ns', .ow), e2, e3, some (encB a, .fz), some (encB b, .fz), e6, e7, e8, e9, e10, e11, e12, e13, e14, e15, some (.int i, .fz), some (.int a[i].1, .fz), some (.int a[i].2, .fz), e19', e20', e21, e22, e23, e24, none, none] := by
  have la := lenU sa
  have lb := lenU sb
  by_cases hc : 1 < a[i].2 - a[i].1
  · have r := H.r10 ns (a[i].2 - a[i].1 - 1) (by omega)
    have t := takeV_ok ns (m := a[i].2 - a[i].1 - 1) (by omega)
    generalize takeV ns (a[i].2 - a[i].1 - 1) = x at *
    obtain ⟨m, hm⟩ : ∃ m, m = a[i].1 + 1 + x := ⟨_, rfl⟩
    have m1 : a[i].1 < m := by omega
    have m2 : m < a[i].2 := by omega
    obtain ⟨p, hp⟩ : ∃ p, p = cutAt a i (a[i].1, m) := ⟨_, rfl⟩
    obtain ⟨q, hq⟩ : ∃ q, q = cutAt a i (m, a[i].2) := ⟨_, rfl⟩
    have pp : Proper p := by rw [hp]; exact cut_proper ha m1
    have pq : Proper q := by rw [hq]; exact cut_proper ha m2
    have spa : Sub p a := by rw [hp]; exact cut_sub h (Sub.refl a) (Int.le_refl _) (Int.le_of_lt m2)
    have sqa : Sub q a := by rw [hq]; exact cut_sub h (Sub.refl a) (Int.le_of_lt m1) (Int.le_refl _)
    have sp := spa.trans sa
    have sq := sqa.trans sa
    have hv : vol p + vol q = vol a := by rw [hp, hq]; exact halves ha sa h m1 m2
    have ho : ∀ c, inB c a = (inB c p || inB c q) := fun c => by rw [hp, hq]; exact cut_or h (Int.le_of_lt m1) (Int.le_of_lt m2) c
    have oks : Ok (uni n) [p, q] := Ok.cons pp sp (Ok.one pq sq)
    refine ⟨ns.dropLast, some (.int m, .fz), some (.list [encB p, encB q], .fz), ?_⟩
    refine (exS_iffT (e1 := [e0, some (encN ns, .ow), e2, e3, some (encB a, .fz), some (encB b, .fz), e6, e7, e8, e9, e10, e11, e12, e13, e14, e15, some (.int i, .fz), some (.int a[i].1, .fz), some (.int a[i].2, .fz), e19, e20, e21, e22, e23, e24, none, none]) ?_).trans ?_
    · simp only [hc, andq, orq, negq, lockE_v, lockE_o, lockE_nil, wipeE_cons, wipeE_nil, backE_cons, backE_nil, unlockE_nil, evq_var, evq_con, evq_tup, evq_lst, evq_op, evq_chain, evq_and, evq_or, evq_ite, evq_call, evq_mth, evq_nil, evq_cons, evq_star, evq_val, evq_rng, evq_zip, exq_set, exq_unp, exq_par, exq_expr, exq_ret, exq_iff, exq_nil, exq_cons, opq_add, opq_sub, opq_mul, opq_mod, opq_fdiv, opq_neg, opq_lt, opq_le, opq_gt, opq_ge, opq_eqI, opq_neI, opq_eqB, opq_neB, opq_isN, opq_isnN, opq_isT, opq_isnT, opq_isB, opq_isnB, opq_truB, opq_not, opq_asI, opq_i0, opq_i1, opq_l0, opq_l1, opq_max2, opq_min2, opq_lenL, opq_lenT, opq_tupL, opq_tupT, opq_lstL, opq_lstT, opq_revL, opq_abs, opq_int, opq_addT, opq_addL, opq_sum, opq_min1, opq_max1, opq_slT, opq_slD, opq_slTL, rdq_v, rdq_o, rdq_s, rdsq_nil, rdsq_cons, tkq_v, tkq_o, tkq_s, tksq_nil, tksq_cons, itq_l, itq_t, setRq_v, setRq_o, setRq_s, retq_v, retq_o, retq_s, boolq, zipq, arg1q_v, arg1q_o, arg1q_s, callq, parKq_v, parKq_o, parKq_s, setRsq, isSq_v, isSq_o, isSq_s, mthq_append, mthq_extend, mthq_pop, lsq, bindq_nm, bindq_t, bindq_l, bindsq_nil, bindsq_cons, O.bind_ok, O.of_some, argD, ioSlots, backIo, slotsR, borrows, parL, setL, List.getElem?_cons_succ, List.getElem?_cons_zero, List.set_cons_succ, List.set_cons_zero, reduceIte, if_true, if_false, Bool.false_eq_true, Bool.not_true, Bool.not_false, true_and, and_true, true_or, or_true, decide_true, decide_false, ne_eq, not_false_eq_true, not_true_eq_false, Int.reduceAdd, Int.reduceSub, Int.reduceMul, List.append_nil, List.nil_append, List.cons_append, reduceCtorEq, List.length_cons, List.length_nil, Nat.reduceAdd, Nat.reduceLT, Nat.reduceLeDiff, sz0, sz1, sz2, sz3, sz4, sz5, slt0, Bool.and_true, Bool.true_and, Nat.reduceBEq, List.nodup_cons, List.not_mem_nil, List.nodup_nil, false_or, Bool.or_false, Bool.false_or, and_self, Int.reduceEq, Int.reduceNe, itB, itT, itL, i0, i1]
    refine (exSs_cons (e1 := [e0, some (encN ns.dropLast, .ow), e2, e3, some (encB a, .fz), some (encB b, .fz), e6, e7, e8, e9, e10, e11, e12, e13, e14, e15, some (.int i, .fz), some (.int a[i].1, .fz), some (.int a[i].2, .fz), some (.int m, .fz), e20, e21, e22, e23, e24, none, none]) ?_).trans ?_
    · simp only [H.t10, r, ← hm, andq, orq, negq, lockE_v, lockE_o, lockE_nil, wipeE_cons, wipeE_nil, backE_cons, backE_nil, unlockE_nil, evq_var, evq_con, evq_tup, evq_lst, evq_op, evq_chain, evq_and, evq_or, evq_ite, evq_call, evq_mth, evq_nil, evq_cons, evq_star, evq_val, evq_rng, evq_zip, exq_set, exq_unp, exq_par, exq_expr, exq_ret, exq_iff, exq_nil, exq_cons, opq_add, opq_sub, opq_mul, opq_mod, opq_fdiv, opq_neg, opq_lt, opq_le, opq_gt, opq_ge, opq_eqI, opq_neI, opq_eqB, opq_neB, opq_isN, opq_isnN, opq_isT, opq_isnT, opq_isB, opq_isnB, opq_truB, opq_not, opq_asI, opq_i0, opq_i1, opq_l0, opq_l1, opq_max2, opq_min2, opq_lenL, opq_lenT, opq_tupL, opq_tupT, opq_lstL, opq_lstT, opq_revL, opq_abs, opq_int, opq_addT, opq_addL, opq_sum, opq_min1, opq_max1, opq_slT, opq_slD, opq_slTL, rdq_v, rdq_o, rdq_s, rdsq_nil, rdsq_cons, tkq_v, tkq_o, tkq_s, tksq_nil, tksq_cons, itq_l, itq_t, setRq_v, setRq_o, setRq_s, retq_v, retq_o, retq_s, boolq, zipq, arg1q_v, arg1q_o, arg1q_s, callq, parKq_v, parKq_o, parKq_s, setRsq, isSq_v, isSq_o, isSq_s, mthq_append, mthq_extend, mthq_pop, lsq, bindq_nm, bindq_t, bindq_l, bindsq_nil, bindsq_cons, O.bind_ok, O.of_some, argD, ioSlots, backIo, slotsR, borrows, parL, setL, List.getElem?_cons_succ, List.getElem?_cons_zero, List.set_cons_succ, List.set_cons_zero, reduceIte, if_true, if_false, Bool.false_eq_true, Bool.not_true, Bool.not_false, true_and, and_true, true_or, or_true, decide_true, decide_false, ne_eq, not_false_eq_true, not_true_eq_false, Int.reduceAdd, Int.reduceSub, Int.reduceMul, List.append_nil, List.nil_append, List.cons_append, reduceCtorEq, List.length_cons, List.length_nil, Nat.reduceAdd, Nat.reduceLT, Nat.reduceLeDiff, sz0, sz1, sz2, sz3, sz4, sz5, slt0, Bool.and_true, Bool.true_and, Nat.reduceBEq, List.nodup_cons, List.not_mem_nil, List.nodup_nil, false_or, Bool.or_false, Bool.false_or, and_self, Int.reduceEq, Int.reduceNe, itB, itT, itL, i0, i1]
    refine (exSs_cons (e1 := [e0, some (encN ns.dropLast, .ow), e2, e3, some (encB a, .fz), some (encB b, .fz), e6, e7, e8, e9, e10, e11, e12, e13, e14, e15, some (.int i, .fz), some (.int a[i].1, .fz), some (.int a[i].2, .fz), some (.int m, .fz), some (.list [encB p, encB q], .fz), e21, e22, e23, e24, none, none]) ?_).trans ?_
    · have l1 : (a.take i).length ≤ 1000 := by rw [List.length_take]; omega
      have l2 : ∀ z : Int × Int, (a.take i ++ [z]).length + (a.drop (i + 1)).length ≤ 2000 := fun z => by simp; omega
      simp only [slT, slD, encI_eq, addB1 _ _ l1, addB2 _ _ (l2 _), cut_app, ← hp, ← hq, andq, orq, negq, lockE_v, lockE_o, lockE_nil, wipeE_cons, wipeE_nil, backE_cons, backE_nil, unlockE_nil, evq_var, evq_con, evq_tup, evq_lst, evq_op, evq_chain, evq_and, evq_or, evq_ite, evq_call, evq_mth, evq_nil, evq_cons, evq_star, evq_val, evq_rng, evq_zip, exq_set, exq_unp, exq_par, exq_expr, exq_ret, exq_iff, exq_nil, exq_cons, opq_add, opq_sub, opq_mul, opq_mod, opq_fdiv, opq_neg, opq_lt, opq_le, opq_gt, opq_ge, opq_eqI, opq_neI, opq_eqB, opq_neB, opq_isN, opq_isnN, opq_isT, opq_isnT, opq_isB, opq_isnB, opq_truB, opq_not, opq_asI, opq_i0, opq_i1, opq_l0, opq_l1, opq_max2, opq_min2, opq_lenL, opq_lenT, opq_tupL, opq_tupT, opq_lstL, opq_lstT, opq_revL, opq_abs, opq_int, opq_addT, opq_addL, opq_sum, opq_min1, opq_max1, opq_slT, opq_slD, opq_slTL, rdq_v, rdq_o, rdq_s, rdsq_nil, rdsq_cons, tkq_v, tkq_o, tkq_s, tksq_nil, tksq_cons, itq_l, itq_t, setRq_v, setRq_o, setRq_s, retq_v, retq_o, retq_s, boolq, zipq, arg1q_v, arg1q_o, arg1q_s, callq, parKq_v, parKq_o, parKq_s, setRsq, isSq_v, isSq_o, isSq_s, mthq_append, mthq_extend, mthq_pop, lsq, bindq_nm, bindq_t, bindq_l, bindsq_nil, bindsq_cons, O.bind_ok, O.of_some, argD, ioSlots, backIo, slotsR, borrows, parL, setL, List.getElem?_cons_succ, List.getElem?_cons_zero, List.set_cons_succ, List.set_cons_zero, reduceIte, if_true, if_false, Bool.false_eq_true, Bool.not_true, Bool.not_false, true_and, and_true, true_or, or_true, decide_true, decide_false, ne_eq, not_false_eq_true, not_true_eq_false, Int.reduceAdd, Int.reduceSub, Int.reduceMul, List.append_nil, List.nil_append, List.cons_append, reduceCtorEq, List.length_cons, List.length_nil, Nat.reduceAdd, Nat.reduceLT, Nat.reduceLeDiff, sz0, sz1, sz2, sz3, sz4, sz5, slt0, Bool.and_true, Bool.true_and, Nat.reduceBEq, List.nodup_cons, List.not_mem_nil, List.nodup_nil, false_or, Bool.or_false, Bool.false_or, and_self, Int.reduceEq, Int.reduceNe, itB, itT, itL, i0, i1]
    have rp := roomU H hn pp sp
    have rq := roomU H hn pq sq
    have ra := roomU H hn ha sa
    refine (exSs_cons (e1 := [e0, some (encN ns.dropLast, .ow), e2, e3, some (encB a, .fz), some (encB b, .fz), e6, e7, e8, e9, e10, e11, e12, e13, e14, e15, some (.int i, .fz), some (.int a[i].1, .fz), some (.int a[i].2, .fz), some (.int m, .fz), some (.list [encB p, encB q], .fz), e21, e22, e23, e24, none, none]) ?_).trans ?_
    · have h1 := H.r7 _ (uni_fit hn) (.list [encB p, encB q]) (.tuple [encB a]) [p, q] [a] rfl rfl oks (Ok.one ha sa) (by simp [sz3])
      rw [sameRoom_true oks (Ok.one ha sa) fun c => by rw [un_two, un_one, ho]] at h1
      have h2 := H.r7 _ (uni_fit hn) (.list [encB p, encB q, encB b]) (.tuple [encB a, encB b]) [p, q, b] [a, b] rfl rfl (Ok.cons pp sp (Ok.cons pq sq (Ok.one hb sb))) (Ok.cons ha sa (Ok.one hb sb)) (by simp [sz5])
      rw [sameRoom_true (Ok.cons pp sp (Ok.cons pq sq (Ok.one hb sb))) (Ok.cons ha sa (Ok.one hb sb)) fun c => by simp [un, ho, Bool.or_assoc]] at h2
      simp only [rp, rq, ra, hv, h1, h2, beq_self_eq_true, andq, orq, negq, lockE_v, lockE_o, lockE_nil, wipeE_cons, wipeE_nil, backE_cons, backE_nil, unlockE_nil, evq_var, evq_con, evq_tup, evq_lst, evq_op, evq_chain, evq_and, evq_or, evq_ite, evq_call, evq_mth, evq_nil, evq_cons, evq_star, evq_val, evq_rng, evq_zip, exq_set, exq_unp, exq_par, exq_expr, exq_ret, exq_iff, exq_nil, exq_cons, opq_add, opq_sub, opq_mul, opq_mod, opq_fdiv, opq_neg, opq_lt, opq_le, opq_gt, opq_ge, opq_eqI, opq_neI, opq_eqB, opq_neB, opq_isN, opq_isnN, opq_isT, opq_isnT, opq_isB, opq_isnB, opq_truB, opq_not, opq_asI, opq_i0, opq_i1, opq_l0, opq_l1, opq_max2, opq_min2, opq_lenL, opq_lenT, opq_tupL, opq_tupT, opq_lstL, opq_lstT, opq_revL, opq_abs, opq_int, opq_addT, opq_addL, opq_sum, opq_min1, opq_max1, opq_slT, opq_slD, opq_slTL, rdq_v, rdq_o, rdq_s, rdsq_nil, rdsq_cons, tkq_v, tkq_o, tkq_s, tksq_nil, tksq_cons, itq_l, itq_t, setRq_v, setRq_o, setRq_s, retq_v, retq_o, retq_s, boolq, zipq, arg1q_v, arg1q_o, arg1q_s, callq, parKq_v, parKq_o, parKq_s, setRsq, isSq_v, isSq_o, isSq_s, mthq_append, mthq_extend, mthq_pop, lsq, bindq_nm, bindq_t, bindq_l, bindsq_nil, bindsq_cons, O.bind_ok, O.of_some, argD, ioSlots, backIo, slotsR, borrows, parL, setL, List.getElem?_cons_succ, List.getElem?_cons_zero, List.set_cons_succ, List.set_cons_zero, reduceIte, if_true, if_false, Bool.false_eq_true, Bool.not_true, Bool.not_false, true_and, and_true, true_or, or_true, decide_true, decide_false, ne_eq, not_false_eq_true, not_true_eq_false, Int.reduceAdd, Int.reduceSub, Int.reduceMul, List.append_nil, List.nil_append, List.cons_append, reduceCtorEq, List.length_cons, List.length_nil, Nat.reduceAdd, Nat.reduceLT, Nat.reduceLeDiff, sz0, sz1, sz2, sz3, sz4, sz5, slt0, Bool.and_true, Bool.true_and, Nat.reduceBEq, List.nodup_cons, List.not_mem_nil, List.nodup_nil, false_or, Bool.or_false, Bool.false_or, and_self, Int.reduceEq, Int.reduceNe, itB, itT, itL, i0, i1]
    refine (exSs_cons (e1 := [e0, some (encN ns.dropLast, .ow), e2, e3, some (encB a, .fz), some (encB b, .fz), e6, e7, e8, e9, e10, e11, e12, e13, e14, e15, some (.int i, .fz), some (.int a[i].1, .fz), some (.int a[i].2, .fz), some (.int m, .fz), some (.list [encB p, encB q], .fz), e21, e22, e23, e24, none, none]) ?_).trans exSs_nil
    have h1 := H.r7 _ (uni_fit hn) (.list [encB p]) (.tuple [encB a]) [p] [a] rfl rfl (Ok.one pp sp) (Ok.one ha sa) (by simp [sz2])
    have hf : sameRoom [p] [a] = false := by
      have v1 := volume_one pp sp (Ok.one pp sp) (un_one p)
      have v2 := volume_one ha sa ((Ok.one pp sp).app (Ok.one ha sa)) (fun c => by
        rw [un_app, un_one, un_one, ho c]
        cases inB c p <;> rfl)
      have := vol_pos pq
      unfold sameRoom
      rw [v1, v2, decide_eq_false (by omega), Bool.false_and]
    rw [hf] at h1
    have ok3 : Ok (uni n) [p, q, a] := Ok.cons pp sp (Ok.cons pq sq (Ok.one ha sa))
    have h2 := volU H hn (x := .list [encB p, encB q, encB a]) (bs := [p, q, a]) rfl ok3
    rw [volume_one ha sa ok3 (fun c => by
      simp only [un, List.any_cons, List.any_nil, ho c]
      cases inB c p <;> cases inB c q <;> rfl)] at h2
    have h3 := H.r5 p a (by rw [lenU sp, la]) (by rw [lenU sp]; omega)
    rw [without_sub pp ha spa] at h3
    have h3 : C.run 5 [(encB p, false), (encB a, false)] = .ok (.list []) true [.none, .none] := h3
    have hsl : opO .sl [.list [encB p, encB q], .none, .int 1] = some (.o (.list [encB p])) := opq_slTL _ 1
    have hne : opO (.cmp .ne) [.list [], .list []] = some (.v (.bool false)) := rfl
    simp only [h1, h2, h3, ra, hsl, hne, beq_self_eq_true, andq, orq, negq, lockE_v, lockE_o, lockE_nil, wipeE_cons, wipeE_nil, backE_cons, backE_nil, unlockE_nil, evq_var, evq_con, evq_tup, evq_lst, evq_op, evq_chain, evq_and, evq_or, evq_ite, evq_call, evq_mth, evq_nil, evq_cons, evq_star, evq_val, evq_rng, evq_zip, exq_set, exq_unp, exq_par, exq_expr, exq_ret, exq_iff, exq_nil, exq_cons, opq_add, opq_sub, opq_mul, opq_mod, opq_fdiv, opq_neg, opq_lt, opq_le, opq_gt, opq_ge, opq_eqI, opq_neI, opq_eqB, opq_neB, opq_isN, opq_isnN, opq_isT, opq_isnT, opq_isB, opq_isnB, opq_truB, opq_not, opq_asI, opq_i0, opq_i1, opq_l0, opq_l1, opq_max2, opq_min2, opq_lenL, opq_lenT, opq_tupL, opq_tupT, opq_lstL, opq_lstT, opq_revL, opq_abs, opq_int, opq_addT, opq_addL, opq_sum, opq_min1, opq_max1, opq_slT, opq_slD, opq_slTL, rdq_v, rdq_o, rdq_s, rdsq_nil, rdsq_cons, tkq_v, tkq_o, tkq_s, tksq_nil, tksq_cons, itq_l, itq_t, setRq_v, setRq_o, setRq_s, retq_v, retq_o, retq_s, boolq, zipq, arg1q_v, arg1q_o, arg1q_s, callq, parKq_v, parKq_o, parKq_s, setRsq, isSq_v, isSq_o, isSq_s, mthq_append, mthq_extend, mthq_pop, lsq, bindq_nm, bindq_t, bindq_l, bindsq_nil, bindsq_cons, O.bind_ok, O.of_some, argD, ioSlots, backIo, slotsR, borrows, parL, setL, List.getElem?_cons_succ, List.getElem?_cons_zero, List.set_cons_succ, List.set_cons_zero, reduceIte, if_true, if_false, Bool.false_eq_true, Bool.not_true, Bool.not_false, true_and, and_true, true_or, or_true, decide_true, decide_false, ne_eq, not_false_eq_true, not_true_eq_false, Int.reduceAdd, Int.reduceSub, Int.reduceMul, List.append_nil, List.nil_append, List.cons_append, reduceCtorEq, List.length_cons, List.length_nil, Nat.reduceAdd, Nat.reduceLT, Nat.reduceLeDiff, sz0, sz1, sz2, sz3, sz4, sz5, slt0, Bool.and_true, Bool.true_and, Nat.reduceBEq, List.nodup_cons, List.not_mem_nil, List.nodup_nil, false_or, Bool.or_false, Bool.false_or, and_self, Int.reduceEq, Int.reduceNe, itB, itT, itL, i0, i1]
  · refine ⟨ns, e19, e20, ?_⟩
    simp only [s_law_1_13, hc, andq, orq, negq, lockE_v, lockE_o, lockE_nil, wipeE_cons, wipeE_nil, backE_cons, backE_nil, unlockE_nil, evq_var, evq_con, evq_tup, evq_lst, evq_op, evq_chain, evq_and, evq_or, evq_ite, evq_call, evq_mth, evq_nil, evq_cons, evq_star, evq_val, evq_rng, evq_zip, exq_set, exq_unp, exq_par, exq_expr, exq_ret, exq_iff, exq_nil, exq_cons, opq_add, opq_sub, opq_mul, opq_mod, opq_fdiv, opq_neg, opq_lt, opq_le, opq_gt, opq_ge, opq_eqI, opq_neI, opq_eqB, opq_neB, opq_isN, opq_isnN, opq_isT, opq_isnT, opq_isB, opq_isnB, opq_truB, opq_not, opq_asI, opq_i0, opq_i1, opq_l0, opq_l1, opq_max2, opq_min2, opq_lenL, opq_lenT, opq_tupL, opq_tupT, opq_lstL, opq_lstT, opq_revL, opq_abs, opq_int, opq_addT, opq_addL, opq_sum, opq_min1, opq_max1, opq_slT, opq_slD, opq_slTL, rdq_v, rdq_o, rdq_s, rdsq_nil, rdsq_cons, tkq_v, tkq_o, tkq_s, tksq_nil, tksq_cons, itq_l, itq_t, setRq_v, setRq_o, setRq_s, retq_v, retq_o, retq_s, boolq, zipq, arg1q_v, arg1q_o, arg1q_s, callq, parKq_v, parKq_o, parKq_s, setRsq, isSq_v, isSq_o, isSq_s, mthq_append, mthq_extend, mthq_pop, lsq, bindq_nm, bindq_t, bindq_l, bindsq_nil, bindsq_cons, O.bind_ok, O.of_some, argD, ioSlots, backIo, slotsR, borrows, parL, setL, List.getElem?_cons_succ, List.getElem?_cons_zero, List.set_cons_succ, List.set_cons_zero, reduceIte, if_true, if_false, Bool.false_eq_true, Bool.not_true, Bool.not_false, true_and, and_true, true_or, or_true, decide_true, decide_false, ne_eq, not_false_eq_true, not_true_eq_false, Int.reduceAdd, Int.reduceSub, Int.reduceMul, List.append_nil, List.nil_append, List.cons_append, reduceCtorEq, List.length_cons, List.length_nil, Nat.reduceAdd, Nat.reduceLT, Nat.reduceLeDiff, sz0, sz1, sz2, sz3, sz4, sz5, slt0, Bool.and_true, Bool.true_and, Nat.reduceBEq, List.nodup_cons, List.not_mem_nil, List.nodup_nil, false_or, Bool.or_false, Bool.false_or, and_self, Int.reduceEq, Int.reduceNe, itB, itT, itL, i0, i1]
end
end K8
set_option maxRecDepth 100000
-- ex: itB, itT, itL, i0, i1
-- env: 27 none: 25,26
namespace K8
open Mi Bx PySem
theorem shift_fit {n : Nat} (hn : n ≤ 3) {s : List Int} (hs : s.length = n) (hb : ∀ k ∈ s, -100 ≤ k ∧ k ≤ 100) : Fit (shiftB (uni n) s) := by
  obtain ⟨f1, f2, f3⟩ := uni_fit hn
  have hl : (uni n).length = s.length := by rw [uni_len, hs]
  refine ⟨by rw [cells_shift hl, List.length_map]; exact f1, by rw [shift_len hl]; exact f2, ?_⟩
  have : ∀ (b : Box) (s : List Int), (∀ k ∈ s, -100 ≤ k ∧ k ≤ 100) → (∀ p ∈ b, p = ((-20 : Int), (20 : Int))) → ∀ p ∈ shiftB b s, -(2 ^ 60) < p.1 ∧ p.2 < 2 ^ 60 := by
    intro b
    induction b with
    | nil => intro s _ _ p hp; simp [shiftB] at hp
    | cons q b ih =>
      intro s hs hb p hp
      cases s with
      | nil => simp [shiftB] at hp
      | cons k s =>
        have hq := hb q List.mem_cons_self
        have hk := hs k List.mem_cons_self
        subst hq
        rcases List.mem_cons.mp (show p ∈ ((-20 : Int) + k, (20 : Int) + k) :: shiftB b s from hp) with rfl | hp
        · exact ⟨by show -(2 ^ 60) < (-20 : Int) + k; omega, by show (20 : Int) + k < 2 ^ 60; omega⟩
        · exact ih s (fun z hz => hs z (List.mem_cons_of_mem _ hz)) (fun z hz => hb z (List.mem_cons_of_mem _ hz)) p hp
  exact this _ _ hb fun p hp => List.eq_of_mem_replicate hp
theorem union_le {u : Box} {a b : List Box} (ha : Ok u a) (hb : Ok u b) : volume (a ++ b) ≤ volume a + volume b := by
  rw [volume_eq (ha.app hb), volume_eq ha, volume_eq hb, cnt_congr (un_app a b)]
  have := cnt_add u (un a) (un b)
  omega
theorem left_le {u : Box} {a b : List Box} (ha : Ok u a) (hb : Ok u b) : volume a ≤ volume (a ++ b) := volume_mono ha (ha.app hb) fun c h => by rw [un_app, h]; rfl
theorem right_le {u : Box} {a b : List Box} (ha : Ok u a) (hb : Ok u b) : volume b ≤ volume (a ++ b) := volume_mono hb (ha.app hb) fun c h => by rw [un_app, h, Bool.or_true]
section
variable {C : Den} {e0 e1 e2 e3 e4 e5 e6 e7 e8 e9 e10 e11 e12 e13 e14 e15 e16 e17 e18 e19 e20 e21 e22 e23 e24 : Slot}
theorem s14 (H : Has C) (ns : List Int) {n : Nat} (h0 : 0 < n) (hn : n ≤ 3) : ∃ (ns' : List Int) (T M : List Box), exS C s_law_1_14 [e0, some (encN ns, .ow), e2, some (.int n, .fz), e4, e5, e6, e7, e8, e9, e10, e11, e12, e13, e14, e15, e16, e17, e18, e19, e20, e21, e22, e23, e24, none, none] = .ok .nx [e0, some (encN ns', .ow), e2, some (.int n, .fz), e4, e5, e6, e7, e8, e9, e10, e11, e12, e13, e14, e15, e16, e17, e18, e19, e20, some (encT T, .fz), some (encT M, .fz), e23, e24, none, none] ∧ T ≠ [] ∧ M ≠ [] ∧ T.length ≤ 4 ∧ M.length ≤ 4 ∧ Ok (uni n) T ∧ Ok (uni n) M := by
  obtain ⟨n1, T, a1, a2, a3, a4⟩ := H.r12 ns n 4 3 3 (by decide) (by decide) (by decide) (by decide) h0 (by omega) (by decide)
  obtain ⟨n2, M, b1, b2, b3, b4⟩ := H.r12 n1 n 3 3 3 (by decide) (by decide) (by decide) (by decide) h0 (by omega) (by decide)
  have hw : ∀ {z : Box}, (∀ p ∈ z, -3 ≤ p.1 ∧ p.2 ≤ (3 : Int) + 3) → ∀ p ∈ z, -20 ≤ p.1 ∧ p.2 ≤ 20 := fun h p hp => by have := h p hp; omega
  refine ⟨n2, T, M, ?_, a2, b2, by omega, by omega, fun z hz => ⟨(a4 z hz).2.1, sub_uni (a4 z hz).1 (hw (a4 z hz).2.2)⟩, fun z hz => ⟨(b4 z hz).2.1, sub_uni (b4 z hz).1 (hw (b4 z hz).2.2)⟩⟩
  simp only [s_law_1_14, H.t12, a1, b1, List.length_cons, List.all_cons, List.all_nil, List.map_cons, List.map_nil, andq, orq, negq, lockE_v, lockE_o, lockE_nil, wipeE_cons, wipeE_nil, backE_cons, backE_nil, unlockE_nil, evq_var, evq_con, evq_tup, evq_lst, evq_op, evq_chain, evq_and, evq_or, evq_ite, evq_call, evq_mth, evq_nil, evq_cons, evq_star, evq_val, evq_rng, evq_zip, exq_set, exq_unp, exq_par, exq_expr, exq_ret, exq_iff, exq_nil, exq_cons, opq_add, opq_sub, opq_mul, opq_mod, opq_fdiv, opq_neg, opq_lt, opq_le, opq_gt, opq_ge, opq_eqI, opq_neI, opq_eqB, opq_neB, opq_isN, opq_isnN, opq_isT, opq_isnT, opq_isB, opq_isnB, opq_truB, opq_not, opq_asI, opq_i0, opq_i1, opq_l0, opq_l1, opq_max2, opq_min2, opq_lenL, opq_lenT, opq_tupL, opq_tupT, opq_lstL, opq_lstT, opq_revL, opq_abs, opq_int, opq_addT, opq_addL, opq_sum, opq_min1, opq_max1, opq_slT, opq_slD, opq_slTL, rdq_v, rdq_o, rdq_s, rdsq_nil, rdsq_cons, tkq_v, tkq_o, tkq_s, tksq_nil, tksq_cons, itq_l, itq_t, setRq_v, setRq_o, setRq_s, retq_v, retq_o, retq_s, boolq, zipq, arg1q_v, arg1q_o, arg1q_s, callq, parKq_v, parKq_o, parKq_s, setRsq, isSq_v, isSq_o, isSq_s, mthq_append, mthq_extend, mthq_pop, lsq, bindq_nm, bindq_t, bindq_l, bindsq_nil, bindsq_cons, O.bind_ok, O.of_some, argD, ioSlots, backIo, slotsR, borrows, parL, setL, List.getElem?_cons_succ, List.getElem?_cons_zero, List.set_cons_succ, List.set_cons_zero, reduceIte, if_true, if_false, Bool.false_eq_true, Bool.not_true, Bool.not_false, true_and, and_true, true_or, or_true, decide_true, decide_false, ne_eq, not_false_eq_true, not_true_eq_false, Int.reduceAdd, Int.reduceSub, Int.reduceMul, List.append_nil, List.nil_append, List.cons_append, reduceCtorEq, List.length_cons, List.length_nil, Nat.reduceAdd, Nat.reduceLT, Nat.reduceLeDiff, sz0, sz1, sz2, sz3, sz4, sz5, slt0, Bool.and_true, Bool.true_and, Nat.reduceBEq, List.nodup_cons, List.not_mem_nil, List.nodup_nil, false_or, Bool.or_false, Bool.false_or, and_self, Int.reduceEq, Int.reduceNe, itB, itT, itL, i0, i1]
theorem s15 (H : Has C) (ns : List Int) {n : Nat} (hn : n ≤ 3) (i : Nat) : ∃ (ns' s : List Int), exS C s_law_1_15 [e0, some (encN ns, .ow), e2, some (.int n, .fz), e4, e5, e6, e7, e8, e9, e10, e11, e12, e13, e14, e15, some (.int i, .fz), e17, e18, e19, e20, e21, e22, e23, e24, none, none] = .ok .nx [e0, some (encN ns', .ow), e2, some (.int n, .fz), e4, e5, e6, e7, e8, e9, e10, e11, e12, e13, e14, e15, some (.int i, .fz), e17, e18, e19, e20, e21, e22, some (encP s, .fz), e24, none, none] ∧ s.length = n ∧ ∀ k ∈ s, -100 ≤ k ∧ k ≤ 100 := by
  have hi := evIt_rng1 (C := C) (a := .var 3) (env := [e0, some (encN ns, .ow), e2, some (.int n, .fz), e4, e5, e6, e7, e8, e9, e10, e11, e12, e13, e14, e15, some (.int i, .fz), e17, e18, e19, e20, e21, e22, e23, e24, none, none]) (e1 := [e0, some (encN ns, .ow), e2, some (.int n, .fz), e4, e5, e6, e7, e8, e9, e10, e11, e12, e13, e14, e15, some (.int i, .fz), e17, e18, e19, e20, e21, e22, e23, e24, none, none]) (n := n) (r := .v (.int n)) (by simp only [andq, orq, negq, lockE_v, lockE_o, lockE_nil, wipeE_cons, wipeE_nil, backE_cons, backE_nil, unlockE_nil, evq_var, evq_con, evq_tup, evq_lst, evq_op, evq_chain, evq_and, evq_or, evq_ite, evq_call, evq_mth, evq_nil, evq_cons, evq_star, evq_val, evq_rng, evq_zip, exq_set, exq_unp, exq_par, exq_expr, exq_ret, exq_iff, exq_nil, exq_cons, opq_add, opq_sub, opq_mul, opq_mod, opq_fdiv, opq_neg, opq_lt, opq_le, opq_gt, opq_ge, opq_eqI, opq_neI, opq_eqB, opq_neB, opq_isN, opq_isnN, opq_isT, opq_isnT, opq_isB, opq_isnB, opq_truB, opq_not, opq_asI, opq_i0, opq_i1, opq_l0, opq_l1, opq_max2, opq_min2, opq_lenL, opq_lenT, opq_tupL, opq_tupT, opq_lstL, opq_lstT, opq_revL, opq_abs, opq_int, opq_addT, opq_addL, opq_sum, opq_min1, opq_max1, opq_slT, opq_slD, opq_slTL, rdq_v, rdq_o, rdq_s, rdsq_nil, rdsq_cons, tkq_v, tkq_o, tkq_s, tksq_nil, tksq_cons, itq_l, itq_t, setRq_v, setRq_o, setRq_s, retq_v, retq_o, retq_s, boolq, zipq, arg1q_v, arg1q_o, arg1q_s, callq, parKq_v, parKq_o, parKq_s, setRsq, isSq_v, isSq_o, isSq_s, mthq_append, mthq_extend, mthq_pop, lsq, bindq_nm, bindq_t, bindq_l, bindsq_nil, bindsq_cons, O.bind_ok, O.of_some, argD, ioSlots, backIo, slotsR, borrows, parL, setL, List.getElem?_cons_succ, List.getElem?_cons_zero, List.set_cons_succ, List.set_cons_zero, reduceIte, if_true, if_false, Bool.false_eq_true, Bool.not_true, Bool.not_false, true_and, and_true, true_or, or_true, decide_true, decide_false, ne_eq, not_false_eq_true, not_true_eq_false, Int.reduceAdd, Int.reduceSub, Int.reduceMul, List.append_nil, List.nil_append, List.cons_append, reduceCtorEq, List.length_cons, List.length_nil, Nat.reduceAdd, Nat.reduceLT, Nat.reduceLeDiff, sz0, sz1, sz2, sz3, sz4, sz5, slt0, Bool.and_true, Bool.true_and, Nat.reduceBEq, List.nodup_cons, List.not_mem_nil, List.nodup_nil, false_or, Bool.or_false, Bool.false_or, and_self, Int.reduceEq, Int.reduceNe, itB, itT, itL, i0, i1]) rfl (by omega)
  obtain ⟨y, e2', k1, k2, ns', s, k3, k4, rfl⟩ := turnsG_inv (ws := []) (own := [16]) (f := bodyG (.nm 16) (ev C (.con (.bool true))) (fun e0 => (ev C (.op (.bin .sub) (.cons (.call 10 (.cons (.var 1) (.cons (.con (.int 31)) .nil))) (.cons (.con (.int 15)) .nil))) e0).bind fun x e1 => (O.of (tk e1 x) e1).bind fun y _ => .ok [y.1] y.2) [])
    (fun ds out e => ds.length + out.length = n ∧ ∃ (ns' s : List Int), out = s.map .int ∧ (∀ k ∈ s, -100 ≤ k ∧ k ≤ 100) ∧ e = [e0, some (encN ns', .ow), e2, some (.int n, .fz), e4, e5, e6, e7, e8, e9, e10, e11, e12, e13, e14, e15, none, e17, e18, e19, e20, e21, e22, e23, e24, none, none])
    (fun _ _ _ _ => rfl) (fun d ds out e h => by
      obtain ⟨k2, ns', s, rfl, k4, rfl⟩ := h
      have r := H.r10 ns' 31 (by decide)
      have t := takeV_ok ns' (m := 31) (by decide)
      generalize takeV ns' 31 = x at *
      refine ⟨[.int (x - 15)], [e0, some (encN ns'.dropLast, .ow), e2, some (.int n, .fz), e4, e5, e6, e7, e8, e9, e10, e11, e12, e13, e14, e15, some (d, .fz), e17, e18, e19, e20, e21, e22, e23, e24, none, none], body_lcv (e3 := [e0, some (encN ns', .ow), e2, some (.int n, .fz), e4, e5, e6, e7, e8, e9, e10, e11, e12, e13, e14, e15, some (d, .fz), e17, e18, e19, e20, e21, e22, e23, e24, none, none]) rfl ?_, ?_, ns'.dropLast, s ++ [x - 15], by simp, ?_, rfl⟩
      · simp only [H.t10, r, andq, orq, negq, lockE_v, lockE_o, lockE_nil, wipeE_cons, wipeE_nil, backE_cons, backE_nil, unlockE_nil, evq_var, evq_con, evq_tup, evq_lst, evq_op, evq_chain, evq_and, evq_or, evq_ite, evq_call, evq_mth, evq_nil, evq_cons, evq_star, evq_val, evq_rng, evq_zip, exq_set, exq_unp, exq_par, exq_expr, exq_ret, exq_iff, exq_nil, exq_cons, opq_add, opq_sub, opq_mul, opq_mod, opq_fdiv, opq_neg, opq_lt, opq_le, opq_gt, opq_ge, opq_eqI, opq_neI, opq_eqB, opq_neB, opq_isN, opq_isnN, opq_isT, opq_isnT, opq_isB, opq_isnB, opq_truB, opq_not, opq_asI, opq_i0, opq_i1, opq_l0, opq_l1, opq_max2, opq_min2, opq_lenL, opq_lenT, opq_tupL, opq_tupT, opq_lstL, opq_lstT, opq_revL, opq_abs, opq_int, opq_addT, opq_addL, opq_sum, opq_min1, opq_max1, opq_slT, opq_slD, opq_slTL, rdq_v, rdq_o, rdq_s, rdsq_nil, rdsq_cons, tkq_v, tkq_o, tkq_s, tksq_nil, tksq_cons, itq_l, itq_t, setRq_v, setRq_o, setRq_s, retq_v, retq_o, retq_s, boolq, zipq, arg1q_v, arg1q_o, arg1q_s, callq, parKq_v, parKq_o, parKq_s, setRsq, isSq_v, isSq_o, isSq_s, mthq_append, mthq_extend, mthq_pop, lsq, bindq_nm, bindq_t, bindq_l, bindsq_nil, bindsq_cons, O.bind_ok, O.of_some, argD, ioSlots, backIo, slotsR, borrows, parL, setL, List.getElem?_cons_succ, List.getElem?_cons_zero, List.set_cons_succ, List.set_cons_zero, reduceIte, if_true, if_false, Bool.false_eq_true, Bool.not_true, Bool.not_false, true_and, and_true, true_or, or_true, decide_true, decide_false, ne_eq, not_false_eq_true, not_true_eq_false, Int.reduceAdd, Int.reduceSub, Int.reduceMul, List.append_nil, List.nil_append, List.cons_append, reduceCtorEq, List.length_cons, List.length_nil, Nat.reduceAdd, Nat.reduceLT, Nat.reduceLeDiff, sz0, sz1, sz2, sz3, sz4, sz5, slt0, Bool.and_true, Bool.true_and, Nat.reduceBEq, List.nodup_cons, List.not_mem_nil, List.nodup_nil, false_or, Bool.or_false, Bool.false_or, and_self, Int.reduceEq, Int.reduceNe, itB, itT, itL, i0, i1]
      · simp only [List.length_cons, List.length_append, List.length_nil, List.length_map] at k2 ⊢
        omega
      · intro z hz
        rcases List.mem_append.mp hz with hz | hz
        · exact k4 z hz
        · rw [List.mem_singleton.mp hz]
          omega) (ds := (List.range n).map fun (i : Nat) => PyData.int i) (out := []) (e := [e0, some (encN ns, .ow), e2, some (.int n, .fz), e4, e5, e6, e7, e8, e9, e10, e11, e12, e13, e14, e15, none, e17, e18, e19, e20, e21, e22, e23, e24, none, none]) ⟨by simp, ns, [], rfl, fun b hb => by simp at hb, rfl⟩
  simp only [List.length_nil, List.nil_append, Nat.zero_add] at k2 k3
  subst k3
  rw [List.length_map] at k2
  have hx : ev C x_law_2 [e0, some (encN ns, .ow), e2, some (.int n, .fz), e4, e5, e6, e7, e8, e9, e10, e11, e12, e13, e14, e15, some (.int i, .fz), e17, e18, e19, e20, e21, e22, e23, e24, none, none] = .ok (.o (.list (s.map .int))) [e0, some (encN ns', .ow), e2, some (.int n, .fz), e4, e5, e6, e7, e8, e9, e10, e11, e12, e13, e14, e15, some (.int i, .fz), e17, e18, e19, e20, e21, e22, e23, e24, none, none] := (ev_lc (ws := []) rfl hi k1 (by rw [List.length_map]; unfold sizeLine; omega)).trans rfl
  exact ⟨ns', s, exS_set (ev_op1 hx rfl (opq_tupL _)) rfl, k2, k4⟩
theorem x_law3 (H : Has C) {n : Nat} (hn : n ≤ 3) (T : List Box) (s : List Int) (hT : Ok (uni n) T) (hl : T.length ≤ 4) : ev C x_law_3 [e0, e1, e2, e3, e4, e5, e6, e7, e8, e9, e10, e11, e12, e13, e14, e15, e16, e17, e18, e19, e20, some (encT T, .fz), e22, some (encP s, .fz), e24, none, none] = .ok (.o (encL (T.map (shiftB · s)))) [e0, e1, e2, e3, e4, e5, e6, e7, e8, e9, e10, e11, e12, e13, e14, e15, e16, e17, e18, e19, e20, some (encT T, .fz), e22, some (encP s, .fz), e24, none, none] := by
  refine (ev_lc (e2 := [e0, e1, e2, e3, e4, e5, e6, e7, e8, e9, e10, e11, e12, e13, e14, e15, e16, e17, e18, e19, e20, some (encT T, .fz), e22, some (encP s, .fz), e24, none, none]) (ws := [.v (encT T)]) (ds := T.map encB) (y := (T.map (shiftB · s)).map encB) (e1 := [e0, e1, e2, e3, e4, e5, e6, e7, e8, e9, e10, e11, e12, e13, e14, e15, e16, e17, e18, e19, e20, some (encT T, .fz), e22, some (encP s, .fz), e24, none, none]) rfl (by simp only [andq, orq, negq, lockE_v, lockE_o, lockE_nil, wipeE_cons, wipeE_nil, backE_cons, backE_nil, unlockE_nil, evq_var, evq_con, evq_tup, evq_lst, evq_op, evq_chain, evq_and, evq_or, evq_ite, evq_call, evq_mth, evq_nil, evq_cons, evq_star, evq_val, evq_rng, evq_zip, exq_set, exq_unp, exq_par, exq_expr, exq_ret, exq_iff, exq_nil, exq_cons, opq_add, opq_sub, opq_mul, opq_mod, opq_fdiv, opq_neg, opq_lt, opq_le, opq_gt, opq_ge, opq_eqI, opq_neI, opq_eqB, opq_neB, opq_isN, opq_isnN, opq_isT, opq_isnT, opq_isB, opq_isnB, opq_truB, opq_not, opq_asI, opq_i0, opq_i1, opq_l0, opq_l1, opq_max2, opq_min2, opq_lenL, opq_lenT, opq_tupL, opq_tupT, opq_lstL, opq_lstT, opq_revL, opq_abs, opq_int, opq_addT, opq_addL, opq_sum, opq_min1, opq_max1, opq_slT, opq_slD, opq_slTL, rdq_v, rdq_o, rdq_s, rdsq_nil, rdsq_cons, tkq_v, tkq_o, tkq_s, tksq_nil, tksq_cons, itq_l, itq_t, setRq_v, setRq_o, setRq_s, retq_v, retq_o, retq_s, boolq, zipq, arg1q_v, arg1q_o, arg1q_s, callq, parKq_v, parKq_o, parKq_s, setRsq, isSq_v, isSq_o, isSq_s, mthq_append, mthq_extend, mthq_pop, lsq, bindq_nm, bindq_t, bindq_l, bindsq_nil, bindsq_cons, O.bind_ok, O.of_some, argD, ioSlots, backIo, slotsR, borrows, parL, setL, List.getElem?_cons_succ, List.getElem?_cons_zero, List.set_cons_succ, List.set_cons_zero, reduceIte, if_true, if_false, Bool.false_eq_true, Bool.not_true, Bool.not_false, true_and, and_true, true_or, or_true, decide_true, decide_false, ne_eq, not_false_eq_true, not_true_eq_false, Int.reduceAdd, Int.reduceSub, Int.reduceMul, List.append_nil, List.nil_append, List.cons_append, reduceCtorEq, List.length_cons, List.length_nil, Nat.reduceAdd, Nat.reduceLT, Nat.reduceLeDiff, sz0, sz1, sz2, sz3, sz4, sz5, slt0, Bool.and_true, Bool.true_and, Nat.reduceBEq, List.nodup_cons, List.not_mem_nil, List.nodup_nil, false_or, Bool.or_false, Bool.false_or, and_self, Int.reduceEq, Int.reduceNe, itB, itT, itL, i0, i1]) ?_ (by simp; unfold sizeLine; omega)).trans rfl
  rw [List.map_map]
  refine turnsG_map _ _ rfl fun b h => ⟨_, body_lcv (e3 := [e0, e1, e2, e3, e4, e5, e6, e7, e8, e9, e10, e11, e12, e13, e14, e15, e16, e17, e18, e19, e20, some (encT T, .fz), e22, some (encP s, .fz), e24, none, some (encB b, .fz)]) rfl (?_ : _ = O.ok _ [e0, e1, e2, e3, e4, e5, e6, e7, e8, e9, e10, e11, e12, e13, e14, e15, e16, e17, e18, e19, e20, some (encT T, .fz), e22, some (encP s, .fz), e24, none, some (encB b, .fz)]), rfl⟩
  have r2 := H.r2 b s (by have := lenU (hT b h).2; omega)
  simp only [r2, andq, orq, negq, lockE_v, lockE_o, lockE_nil, wipeE_cons, wipeE_nil, backE_cons, backE_nil, unlockE_nil, evq_var, evq_con, evq_tup, evq_lst, evq_op, evq_chain, evq_and, evq_or, evq_ite, evq_call, evq_mth, evq_nil, evq_cons, evq_star, evq_val, evq_rng, evq_zip, exq_set, exq_unp, exq_par, exq_expr, exq_ret, exq_iff, exq_nil, exq_cons, opq_add, opq_sub, opq_mul, opq_mod, opq_fdiv, opq_neg, opq_lt, opq_le, opq_gt, opq_ge, opq_eqI, opq_neI, opq_eqB, opq_neB, opq_isN, opq_isnN, opq_isT, opq_isnT, opq_isB, opq_isnB, opq_truB, opq_not, opq_asI, opq_i0, opq_i1, opq_l0, opq_l1, opq_max2, opq_min2, opq_lenL, opq_lenT, opq_tupL, opq_tupT, opq_lstL, opq_lstT, opq_revL, opq_abs, opq_int, opq_addT, opq_addL, opq_sum, opq_min1, opq_max1, opq_slT, opq_slD, opq_slTL, rdq_v, rdq_o, rdq_s, rdsq_nil, rdsq_cons, tkq_v, tkq_o, tkq_s, tksq_nil, tksq_cons, itq_l, itq_t, setRq_v, setRq_o, setRq_s, retq_v, retq_o, retq_s, boolq, zipq, arg1q_v, arg1q_o, arg1q_s, callq, parKq_v, parKq_o, parKq_s, setRsq, isSq_v, isSq_o, isSq_s, mthq_append, mthq_extend, mthq_pop, lsq, bindq_nm, bindq_t, bindq_l, bindsq_nil, bindsq_cons, O.bind_ok, O.of_some, argD, ioSlots, backIo, slotsR, borrows, parL, setL, List.getElem?_cons_succ, List.getElem?_cons_zero, List.set_cons_succ, List.set_cons_zero, reduceIte, if_true, if_false, Bool.false_eq_true, Bool.not_true, Bool.not_false, true_and, and_true, true_or, or_true, decide_true, decide_false, ne_eq, not_false_eq_true, not_true_eq_false, Int.reduceAdd, Int.reduceSub, Int.reduceMul, List.append_nil, List.nil_append, List.cons_append, reduceCtorEq, List.length_cons, List.length_nil, Nat.reduceAdd, Nat.reduceLT, Nat.reduceLeDiff, sz0, sz1, sz2, sz3, sz4, sz5, slt0, Bool.and_true, Bool.true_and, Nat.reduceBEq, List.nodup_cons, List.not_mem_nil, List.nodup_nil, false_or, Bool.or_false, Bool.false_or, and_self, Int.reduceEq, Int.reduceNe, itB, itT, itL, i0, i1]
  rfl
theorem s16 (H : Has C) {n : Nat} (hn : n ≤ 3) (T M : List Box) (s : List Int) (hT : Ok (uni n) T) (hM : Ok (uni n) M) (lT : T.length ≤ 4) (lM : M.length ≤ 4) (hs : s.length = n) (hb : ∀ k ∈ s, -100 ≤ k ∧ k ≤ 100) : exS C s_law_1_16 [e0, e1, e2, e3, e4, e5, e6, e7, e8, e9, e10, e11, e12, e13, e14, e15, e16, e17, e18, e19, e20, some (encT T, .fz), some (encT M, .fz), some (encP s, .fz), e24, none, none] = .ok .nx [e0, e1, e2, e3, e4, e5, e6, e7, e8, e9, e10, e11, e12, e13, e14, e15, e16, e17, e18, e19, e20, some (encT T, .fz), some (encT M, .fz), some (encP s, .fz), e24, none, none] := by
  have x3 := x_law3 H hn (e0 := e0) (e1 := e1) (e2 := e2) (e3 := e3) (e4 := e4) (e5 := e5) (e6 := e6) (e7 := e7) (e8 := e8) (e9 := e9) (e10 := e10) (e11 := e11) (e12 := e12) (e13 := e13) (e14 := e14) (e15 := e15) (e16 := e16) (e17 := e17) (e18 := e18) (e19 := e19) (e20 := e20) (e22 := some (encT M, .fz)) (e24 := e24) T s hT lT
  have hl : (uni n).length = s.length := by rw [uni_len, hs]
  have v0 := H.r6 _ (shift_fit hn hs hb) (encL (T.map (shiftB · s))) (T.map (shiftB · s)) rfl (shift_ok hT)
  rw [volume_shift hl hT] at v0
  have v1 := volU H hn (x := encT T) (bs := T) rfl hT
  have v2 := volU H hn (x := encT M) (bs := M) rfl hM
  have v3 := volU H hn (x := encT (T ++ M)) (bs := T ++ M) rfl (hT.app hM)
  have ad := addT2 T M (by omega)
  have i1 := left_le hT hM
  have i2 := right_le hT hM
  have i3 := union_le hT hM
  generalize volume T = vT at *
  generalize volume M = vM at *
  generalize volume (T ++ M) = vA at *
  have d1 : decide ((if vM > vT then vM else vT) ≤ vA) = true := decide_eq_true (by split <;> omega)
  have d2 : decide (vA ≤ vT + vM) = true := decide_eq_true i3
  simp only [s_law_1_16, x3, v0, v1, v2, v3, ad, d1, d2, andq, orq, negq, lockE_v, lockE_o, lockE_nil, wipeE_cons, wipeE_nil, backE_cons, backE_nil, unlockE_nil, evq_var, evq_con, evq_tup, evq_lst, evq_op, evq_chain, evq_and, evq_or, evq_ite, evq_call, evq_mth, evq_nil, evq_cons, evq_star, evq_val, evq_rng, evq_zip, exq_set, exq_unp, exq_par, exq_expr, exq_ret, exq_iff, exq_nil, exq_cons, opq_add, opq_sub, opq_mul, opq_mod, opq_fdiv, opq_neg, opq_lt, opq_le, opq_gt, opq_ge, opq_eqI, opq_neI, opq_eqB, opq_neB, opq_isN, opq_isnN, opq_isT, opq_isnT, opq_isB, opq_isnB, opq_truB, opq_not, opq_asI, opq_i0, opq_i1, opq_l0, opq_l1, opq_max2, opq_min2, opq_lenL, opq_lenT, opq_tupL, opq_tupT, opq_lstL, opq_lstT, opq_revL, opq_abs, opq_int, opq_addT, opq_addL, opq_sum, opq_min1, opq_max1, opq_slT, opq_slD, opq_slTL, rdq_v, rdq_o, rdq_s, rdsq_nil, rdsq_cons, tkq_v, tkq_o, tkq_s, tksq_nil, tksq_cons, itq_l, itq_t, setRq_v, setRq_o, setRq_s, retq_v, retq_o, retq_s, boolq, zipq, arg1q_v, arg1q_o, arg1q_s, callq, parKq_v, parKq_o, parKq_s, setRsq, isSq_v, isSq_o, isSq_s, mthq_append, mthq_extend, mthq_pop, lsq, bindq_nm, bindq_t, bindq_l, bindsq_nil, bindsq_cons, O.bind_ok, O.of_some, argD, ioSlots, backIo, slotsR, borrows, parL, setL, List.getElem?_cons_succ, List.getElem?_cons_zero, List.set_cons_succ, List.set_cons_zero, reduceIte, if_true, if_false, Bool.false_eq_true, Bool.not_true, Bool.not_false, true_and, and_true, true_or, or_true, decide_true, decide_false, ne_eq, not_false_eq_true, not_true_eq_false, Int.reduceAdd, Int.reduceSub, Int.reduceMul, List.append_nil, List.nil_append, List.cons_append, reduceCtorEq, List.length_cons, List.length_nil, Nat.reduceAdd, Nat.reduceLT, Nat.reduceLeDiff, sz0, sz1, sz2, sz3, sz4, sz5, slt0, Bool.and_true, Bool.true_and, Nat.reduceBEq, List.nodup_cons, List.not_mem_nil, List.nodup_nil, false_or, Bool.or_false, Bool.false_or, and_self, Int.reduceEq, Int.reduceNe, itB, itT, itL, i0, i1]
theorem s17 (H : Has C) {n : Nat} (hn : n ≤ 3) (T M : List Box) (nT : T ≠ []) (hT : Ok (uni n) T) (hM : Ok (uni n) M) (lT : T.length ≤ 4) (lM : M.length ≤ 4) : exS C s_law_1_17 [e0, e1, e2, e3, e4, e5, e6, e7, e8, e9, e10, e11, e12, e13, e14, e15, e16, e17, e18, e19, e20, some (encT T, .fz), some (encT M, .fz), e23, e24, none, none] = .ok .nx [e0, e1, e2, e3, e4, e5, e6, e7, e8, e9, e10, e11, e12, e13, e14, e15, e16, e17, e18, e19, e20, some (encT T, .fz), some (encT M, .fz), e23, some (encB (hullB n (T ++ M)), .fz), none, none] := by
  have ad := addT2 T M (by omega)
  have h := H.r8 (T ++ M) n (by simp [nT]) (fun b hb => by rw [(hT.app hM).len hb, uni_len]) (by simp; unfold sizeLine; omega) (by omega)
  simp only [s_law_1_17, ad, h, andq, orq, negq, lockE_v, lockE_o, lockE_nil, wipeE_cons, wipeE_nil, backE_cons, backE_nil, unlockE_nil, evq_var, evq_con, evq_tup, evq_lst, evq_op, evq_chain, evq_and, evq_or, evq_ite, evq_call, evq_mth, evq_nil, evq_cons, evq_star, evq_val, evq_rng, evq_zip, exq_set, exq_unp, exq_par, exq_expr, exq_ret, exq_iff, exq_nil, exq_cons, opq_add, opq_sub, opq_mul, opq_mod, opq_fdiv, opq_neg, opq_lt, opq_le, opq_gt, opq_ge, opq_eqI, opq_neI, opq_eqB, opq_neB, opq_isN, opq_isnN, opq_isT, opq_isnT, opq_isB, opq_isnB, opq_truB, opq_not, opq_asI, opq_i0, opq_i1, opq_l0, opq_l1, opq_max2, opq_min2, opq_lenL, opq_lenT, opq_tupL, opq_tupT, opq_lstL, opq_lstT, opq_revL, opq_abs, opq_int, opq_addT, opq_addL, opq_sum, opq_min1, opq_max1, opq_slT, opq_slD, opq_slTL, rdq_v, rdq_o, rdq_s, rdsq_nil, rdsq_cons, tkq_v, tkq_o, tkq_s, tksq_nil, tksq_cons, itq_l, itq_t, setRq_v, setRq_o, setRq_s, retq_v, retq_o, retq_s, boolq, zipq, arg1q_v, arg1q_o, arg1q_s, callq, parKq_v, parKq_o, parKq_s, setRsq, isSq_v, isSq_o, isSq_s, mthq_append, mthq_extend, mthq_pop, lsq, bindq_nm, bindq_t, bindq_l, bindsq_nil, bindsq_cons, O.bind_ok, O.of_some, argD, ioSlots, backIo, slotsR, borrows, parL, setL, List.getElem?_cons_succ, List.getElem?_cons_zero, List.set_cons_succ, List.set_cons_zero, reduceIte, if_true, if_false, Bool.false_eq_true, Bool.not_true, Bool.not_false, true_and, and_true, true_or, or_true, decide_true, decide_false, ne_eq, not_false_eq_true, not_true_eq_false, Int.reduceAdd, Int.reduceSub, Int.reduceMul, List.append_nil, List.nil_append, List.cons_append, reduceCtorEq, List.length_cons, List.length_nil, Nat.reduceAdd, Nat.reduceLT, Nat.reduceLeDiff, sz0, sz1, sz2, sz3, sz4, sz5, slt0, Bool.and_true, Bool.true_and, Nat.reduceBEq, List.nodup_cons, List.not_mem_nil, List.nodup_nil, false_or, Bool.or_false, Bool.false_or, and_self, Int.reduceEq, Int.reduceNe, itB, itT, itL, i0, i1]
theorem s18 (H : Has C) {n : Nat} (hn : n ≤ 3) (T M : List Box) (nT : T ≠ []) (nM : M ≠ []) (hT : Ok (uni n) T) (hM : Ok (uni n) M) (lT : T.length ≤ 4) (lM : M.length ≤ 4) : exS C s_law_1_18 [e0, e1, e2, e3, e4, e5, e6, e7, e8, e9, e10, e11, e12, e13, e14, e15, e16, e17, e18, e19, e20, some (encT T, .fz), some (encT M, .fz), e23, some (encB (hullB n (T ++ M)), .fz), none, none] = .ok .nx [e0, e1, e2, e3, e4, e5, e6, e7, e8, e9, e10, e11, e12, e13, e14, e15, e16, e17, e18, e19, e20, some (encT T, .fz), some (encT M, .fz), e23, some (encB (hullB n (T ++ M)), .fz), none, none] := by
  have hA := hT.app hM
  have nA : T ++ M ≠ [] := by simp [nT]
  have ad := addT2 T M (by omega)
  have v3 := volU H hn (x := encT (T ++ M)) (bs := T ++ M) rfl hA
  obtain ⟨W, hW⟩ : ∃ W, W = hullB n (T ++ M) := ⟨_, rfl⟩
  have pW : Proper W := by rw [hW]; exact hull_proper hA (uni_len n) nA
  have sW : Sub W (uni n) := by rw [hW]; exact hull_in hA (uni_len n) nA
  have rW := roomU H hn pW sW
  have le1 : volume (T ++ M) ≤ vol W := by
    rw [← volume_one pW sW (Ok.one pW sW) (un_one W)]
    exact volume_mono hA (Ok.one pW sW) fun c h => by
      rw [un_one, hW]
      exact un_hull hA (uni_len n) c h
  have d1 : decide (vol W < volume (T ++ M)) = false := decide_eq_false (by omega)
  have ad2 := addT2 T [W] (by simp; omega)
  have ad2 : opO (.bin .add) [encT T, .tuple [encB W]] = some (.v (encT (T ++ [W]))) := ad2
  have oT := hT.app (Ok.one pW sW)
  have hull1 := H.r8 (T ++ [W]) n (by simp) (fun b hb => by rw [oT.len hb, uni_len]) (by simp; unfold sizeLine; omega) (by omega)
  have q1 : hullB n (T ++ [W]) = W := by
    rw [hW, hull_hull nA, hull_same (cs := T ++ M) (by simp [nT]) fun b => by
      simp only [List.mem_append]
      exact ⟨fun h => h.elim .inl id, .inr⟩]
  rw [q1] at hull1
  have hullT := H.r8 T n nT (fun b hb => by rw [hT.len hb, uni_len]) (by unfold sizeLine; omega) (by omega)
  have hullM := H.r8 M n nM (fun b hb => by rw [hM.len hb, uni_len]) (by unfold sizeLine; omega) (by omega)
  have hull2 := H.r8 [hullB n T, hullB n M] n (by simp) (fun b hb => by
    rcases List.mem_cons.mp hb with rfl | hb
    · exact hull_len _ _
    · rw [List.mem_singleton.mp hb]; exact hull_len _ _) (by simp [sz2]) (by omega)
  rw [hull_two nT nM, ← hW] at hull2
  have hull2 : C.run 8 [(.tuple [encB (hullB n T), encB (hullB n M)], false)] = .ok (encB W) false [.none] := hull2
  have v4 := volU H hn (x := encT (T ++ [W])) (bs := T ++ [W]) rfl oT
  rw [volume_one pW sW oT fun c => by
    rw [un_app, un_one]
    cases h : un T c with
    | false => rfl
    | true =>
      rw [hW, un_hull hA (uni_len n) c (by rw [un_app, h]; rfl)]
      rfl] at v4
  rw [← hW]
  simp only [s_law_1_18, ad, v3, rW, d1, ad2, hull1, hullT, hullM, hull2, v4, neB, andq, orq, negq, lockE_v, lockE_o, lockE_nil, wipeE_cons, wipeE_nil, backE_cons, backE_nil, unlockE_nil, evq_var, evq_con, evq_tup, evq_lst, evq_op, evq_chain, evq_and, evq_or, evq_ite, evq_call, evq_mth, evq_nil, evq_cons, evq_star, evq_val, evq_rng, evq_zip, exq_set, exq_unp, exq_par, exq_expr, exq_ret, exq_iff, exq_nil, exq_cons, opq_add, opq_sub, opq_mul, opq_mod, opq_fdiv, opq_neg, opq_lt, opq_le, opq_gt, opq_ge, opq_eqI, opq_neI, opq_eqB, opq_neB, opq_isN, opq_isnN, opq_isT, opq_isnT, opq_isB, opq_isnB, opq_truB, opq_not, opq_asI, opq_i0, opq_i1, opq_l0, opq_l1, opq_max2, opq_min2, opq_lenL, opq_lenT, opq_tupL, opq_tupT, opq_lstL, opq_lstT, opq_revL, opq_abs, opq_int, opq_addT, opq_addL, opq_sum, opq_min1, opq_max1, opq_slT, opq_slD, opq_slTL, rdq_v, rdq_o, rdq_s, rdsq_nil, rdsq_cons, tkq_v, tkq_o, tkq_s, tksq_nil, tksq_cons, itq_l, itq_t, setRq_v, setRq_o, setRq_s, retq_v, retq_o, retq_s, boolq, zipq, arg1q_v, arg1q_o, arg1q_s, callq, parKq_v, parKq_o, parKq_s, setRsq, isSq_v, isSq_o, isSq_s, mthq_append, mthq_extend, mthq_pop, lsq, bindq_nm, bindq_t, bindq_l, bindsq_nil, bindsq_cons, O.bind_ok, O.of_some, argD, ioSlots, backIo, slotsR, borrows, parL, setL, List.getElem?_cons_succ, List.getElem?_cons_zero, List.set_cons_succ, List.set_cons_zero, reduceIte, if_true, if_false, Bool.false_eq_true, Bool.not_true, Bool.not_false, true_and, and_true, true_or, or_true, decide_true, decide_false, ne_eq, not_false_eq_true, not_true_eq_false, Int.reduceAdd, Int.reduceSub, Int.reduceMul, List.append_nil, List.nil_append, List.cons_append, reduceCtorEq, List.length_cons, List.length_nil, Nat.reduceAdd, Nat.reduceLT, Nat.reduceLeDiff, sz0, sz1, sz2, sz3, sz4, sz5, slt0, Bool.and_true, Bool.true_and, Nat.reduceBEq, List.nodup_cons, List.not_mem_nil, List.nodup_nil, false_or, Bool.or_false, Bool.false_or, and_self, Int.reduceEq, Int.reduceNe, itB, itT, itL, i0, i1]
theorem s19 (H : Has C) {n : Nat} (hn : n ≤ 3) (T M : List Box) (hT : Ok (uni n) T) (hM : Ok (uni n) M) (lT : T.length ≤ 4) (lM : M.length ≤ 4) : exS C s_law_1_19 [e0, e1, e2, e3, e4, e5, e6, e7, e8, e9, e10, e11, e12, e13, e14, e15, e16, e17, e18, e19, e20, some (encT T, .fz), some (encT M, .fz), e23, e24, none, none] = .ok .nx [e0, e1, e2, e3, e4, e5, e6, e7, e8, e9, e10, e11, e12, e13, e14, e15, e16, e17, e18, e19, e20, some (encT T, .fz), some (encT M, .fz), e23, e24, none, none] := by
  have hA := hT.app hM
  have ad := addT2 T M (by omega)
  have ad' := addT2 M T (by omega)
  have v1 := volU H hn (x := encT T) (bs := T) rfl hT
  have v2 := volU H hn (x := encT M) (bs := M) rfl hM
  have v3 := volU H hn (x := encT (T ++ M)) (bs := T ++ M) rfl hA
  have h1 := H.r7 _ (uni_fit hn) (encT T) (encT M) T M rfl rfl hT hM (by unfold sizeLine; omega)
  have h2 := H.r7 _ (uni_fit hn) (encT (T ++ M)) (encT (M ++ T)) (T ++ M) (M ++ T) rfl rfl hA (hM.app hT) (by simp; unfold sizeLine; omega)
  rw [sameRoom_true hA (hM.app hT) fun c => by rw [un_app, un_app, Bool.or_comm]] at h2
  have es : sameRoom T M = (decide (volume T = volume (T ++ M)) && decide (volume (T ++ M) = volume M)) := by
    unfold sameRoom
    congr 2
    exact propext eq_comm
  rw [es] at h1
  simp only [s_law_1_19, ad, ad', v1, v2, v3, h1, h2, bne_self_eq_false, beq_self_eq_true, andq, orq, negq, lockE_v, lockE_o, lockE_nil, wipeE_cons, wipeE_nil, backE_cons, backE_nil, unlockE_nil, evq_var, evq_con, evq_tup, evq_lst, evq_op, evq_chain, evq_and, evq_or, evq_ite, evq_call, evq_mth, evq_nil, evq_cons, evq_star, evq_val, evq_rng, evq_zip, exq_set, exq_unp, exq_par, exq_expr, exq_ret, exq_iff, exq_nil, exq_cons, opq_add, opq_sub, opq_mul, opq_mod, opq_fdiv, opq_neg, opq_lt, opq_le, opq_gt, opq_ge, opq_eqI, opq_neI, opq_eqB, opq_neB, opq_isN, opq_isnN, opq_isT, opq_isnT, opq_isB, opq_isnB, opq_truB, opq_not, opq_asI, opq_i0, opq_i1, opq_l0, opq_l1, opq_max2, opq_min2, opq_lenL, opq_lenT, opq_tupL, opq_tupT, opq_lstL, opq_lstT, opq_revL, opq_abs, opq_int, opq_addT, opq_addL, opq_sum, opq_min1, opq_max1, opq_slT, opq_slD, opq_slTL, rdq_v, rdq_o, rdq_s, rdsq_nil, rdsq_cons, tkq_v, tkq_o, tkq_s, tksq_nil, tksq_cons, itq_l, itq_t, setRq_v, setRq_o, setRq_s, retq_v, retq_o, retq_s, boolq, zipq, arg1q_v, arg1q_o, arg1q_s, callq, parKq_v, parKq_o, parKq_s, setRsq, isSq_v, isSq_o, isSq_s, mthq_append, mthq_extend, mthq_pop, lsq, bindq_nm, bindq_t, bindq_l, bindsq_nil, bindsq_cons, O.bind_ok, O.of_some, argD, ioSlots, backIo, slotsR, borrows, parL, setL, List.getElem?_cons_succ, List.getElem?_cons_zero, List.set_cons_succ, List.set_cons_zero, reduceIte, if_true, if_false, Bool.false_eq_true, Bool.not_true, Bool.not_false, true_and, and_true, true_or, or_true, decide_true, decide_false, ne_eq, not_false_eq_true, not_true_eq_false, Int.reduceAdd, Int.reduceSub, Int.reduceMul, List.append_nil, List.nil_append, List.cons_append, reduceCtorEq, List.length_cons, List.length_nil, Nat.reduceAdd, Nat.reduceLT, Nat.reduceLeDiff, sz0, sz1, sz2, sz3, sz4, sz5, slt0, Bool.and_true, Bool.true_and, Nat.reduceBEq, List.nodup_cons, List.not_mem_nil, List.nodup_nil, false_or, Bool.or_false, Bool.false_or, and_self, Int.reduceEq, Int.reduceNe, itB, itT, itL, i0, i1]
end
end K8
set_option maxRecDepth 100000
-- ex: itB, itT, itL, i0, i1
-- env: 27 none: 25,26
namespace K8
open Mi Bx PySem
section
variable {C : Den}
theorem turn_ok (H : Has C) (ns : List Int) (e0 e2 e3 e4 e5 e6 e7 e8 e9 e10 e11 e12 e13 e14 e15 e16 e17 e18 e19 e20 e21 e22 e23 e24 : Slot) : ∃ (ns' : List Int) (f3 f4 f5 f6 f7 f8 f9 f10 f11 f12 f13 f14 f15 f16 f17 f18 f19 f20 f21 f22 f23 f24 : Slot), exSs C fb_law_1 [e0, some (encN ns, .ow), e2, e3, e4, e5, e6, e7, e8, e9, e10, e11, e12, e13, e14, e15, e16, e17, e18, e19, e20, e21, e22, e23, e24, none, none] = .ok .nx [e0, some (encN ns', .ow), e2, f3, f4, f5, f6, f7, f8, f9, f10, f11, f12, f13, f14, f15, f16, f17, f18, f19, f20, f21, f22, f23, f24, none, none] := by
  obtain ⟨n0, n, q0, h0, hn⟩ := s0 H ns (e0 := e0) (e2 := e2) (e3 := e3) (e4 := e4) (e5 := e5) (e6 := e6) (e7 := e7) (e8 := e8) (e9 := e9) (e10 := e10) (e11 := e11) (e12 := e12) (e13 := e13) (e14 := e14) (e15 := e15) (e16 := e16) (e17 := e17) (e18 := e18) (e19 := e19) (e20 := e20) (e21 := e21) (e22 := e22) (e23 := e23) (e24 := e24)
  obtain ⟨n1, a, b, c, q1, hz⟩ := s1 H n0 n hn (e0 := e0) (e2 := e2) (e4 := e4) (e5 := e5) (e6 := e6) (e7 := e7) (e8 := e8) (e9 := e9) (e10 := e10) (e11 := e11) (e12 := e12) (e13 := e13) (e14 := e14) (e15 := e15) (e16 := e16) (e17 := e17) (e18 := e18) (e19 := e19) (e20 := e20) (e21 := e21) (e22 := e22) (e23 := e23) (e24 := e24)
  obtain ⟨ha, sa⟩ := hz a (by simp)
  obtain ⟨hb, sb⟩ := hz b (by simp)
  obtain ⟨hc, sc⟩ := hz c (by simp)
  have la := lenU sa
  refine Exists.imp (fun ns' h => h) ?_
  obtain ⟨f13, f14, f15, q8⟩ := s8 H hn a b c ha hb hc sa sb sc (e0 := e0) (e1 := some (encN n1, .ow)) (e2 := e2) (e3 := some (.int n, .fz)) (e7 := some (sharedD a b, .fz)) (e8 := some (encL (Bx.without a b), .fz)) (e9 := some (.int (common a b), .fz)) (e10 := some (encL (parts a b), .fz)) (e12 := some (.int 0, .fz)) (e13 := e13) (e14 := e14) (e15 := e15) (e16 := e16) (e17 := e17) (e18 := e18) (e19 := e19) (e20 := e20) (e21 := e21) (e22 := e22) (e23 := e23) (e24 := e24)
  obtain ⟨f15', q9⟩ := s9 H hn a b c ha hb hc sa sb sc (e0 := e0) (e1 := some (encN n1, .ow)) (e2 := e2) (e3 := some (.int n, .fz)) (e4 := some (encB a, .fz)) (e5 := some (encB b, .fz)) (e8 := some (encL (Bx.without a b), .fz)) (e9 := some (.int (common a b), .fz)) (e10 := some (encL (parts a b), .fz)) (e11 := some (.int (common a b + common a c + common b c), .fz)) (e13 := f13) (e14 := f14) (e15 := f15) (e16 := e16) (e17 := e17) (e18 := e18) (e19 := e19) (e20 := e20) (e21 := e21) (e22 := e22) (e23 := e23) (e24 := e24)
  obtain ⟨i, hi, q11⟩ := s11 H n1 h0 (e0 := e0) (e2 := e2) (e4 := some (encB a, .fz)) (e5 := some (encB b, .fz)) (e6 := some (encB c, .fz)) (e7 := some (sharedD a b, .fz)) (e8 := some (encL (Bx.without a b), .fz)) (e9 := some (.int (common a b), .fz)) (e10 := some (encL (parts a b), .fz)) (e11 := some (.int (common a b + common a c + common b c), .fz)) (e12 := some (.int (common3 a b c), .fz)) (e13 := f13) (e14 := f14) (e15 := f15') (e16 := e16) (e17 := e17) (e18 := e18) (e19 := e19) (e20 := e20) (e21 := e21) (e22 := e22) (e23 := e23) (e24 := e24)
  obtain ⟨n3, f19, f20, q13⟩ := s13 H n1.dropLast hn a b ha hb sa sb i (by omega) (e0 := e0) (e2 := e2) (e3 := some (.int n, .fz)) (e6 := some (encB c, .fz)) (e7 := some (sharedD a b, .fz)) (e8 := some (encL (Bx.without a b), .fz)) (e9 := some (.int (common a b), .fz)) (e10 := some (encL (parts a b), .fz)) (e11 := some (.int (common a b + common a c + common b c), .fz)) (e12 := some (.int (common3 a b c), .fz)) (e13 := f13) (e14 := f14) (e15 := f15') (e19 := e19) (e20 := e20) (e21 := e21) (e22 := e22) (e23 := e23) (e24 := e24)
  obtain ⟨n4, T, M, q14, nT, nM, lT, lM, oT, oM⟩ := s14 H n3 h0 hn (e0 := e0) (e2 := e2) (e4 := some (encB a, .fz)) (e5 := some (encB b, .fz)) (e6 := some (encB c, .fz)) (e7 := some (sharedD a b, .fz)) (e8 := some (encL (Bx.without a b), .fz)) (e9 := some (.int (common a b), .fz)) (e10 := some (encL (parts a b), .fz)) (e11 := some (.int (common a b + common a c + common b c), .fz)) (e12 := some (.int (common3 a b c), .fz)) (e13 := f13) (e14 := f14) (e15 := f15') (e16 := some (.int i, .fz)) (e17 := some (.int a[i].1, .fz)) (e18 := some (.int a[i].2, .fz)) (e19 := f19) (e20 := f20) (e21 := e21) (e22 := e22) (e23 := e23) (e24 := e24)
  obtain ⟨n5, s, q15, ls, hs⟩ := s15 H n4 hn i (e0 := e0) (e2 := e2) (e4 := some (encB a, .fz)) (e5 := some (encB b, .fz)) (e6 := some (encB c, .fz)) (e7 := some (sharedD a b, .fz)) (e8 := some (encL (Bx.without a b), .fz)) (e9 := some (.int (common a b), .fz)) (e10 := some (encL (parts a b), .fz)) (e11 := some (.int (common a b + common a c + common b c), .fz)) (e12 := some (.int (common3 a b c), .fz)) (e13 := f13) (e14 := f14) (e15 := f15') (e17 := some (.int a[i].1, .fz)) (e18 := some (.int a[i].2, .fz)) (e19 := f19) (e20 := f20) (e21 := some (encT T, .fz)) (e22 := some (encT M, .fz)) (e23 := e23) (e24 := e24)
  exact ⟨n5, _, _, _, _, _, _, _, _, _, _, _, _, _, _, _, _, _, _, _, _, _, _, (exSs_cons q0).trans ((exSs_cons q1).trans ((exSs_cons (s2 H hn a b ha hb sa sb)).trans ((exSs_cons (s3 H hn a b ha hb sa sb)).trans ((exSs_cons (s4 H hn a b ha hb sa sb)).trans ((exSs_cons (s5 a b (by omega))).trans ((exSs_cons (s6 H hn a b ha hb sa sb)).trans ((exSs_cons s7).trans ((exSs_cons q8).trans ((exSs_cons q9).trans ((exSs_cons (s10 H hn a b c ha hb hc sa sb sc)).trans ((exSs_cons q11).trans ((exSs_cons (s12 a i (by omega))).trans ((exSs_cons q13).trans ((exSs_cons q14).trans ((exSs_cons q15).trans ((exSs_cons (s16 H hn T M s oT oM lT lM ls hs)).trans ((exSs_cons (s17 H hn T M nT oT oM lT lM)).trans ((exSs_cons (s18 H hn T M nT nM oT oM lT lM)).trans ((exSs_cons (s19 H hn T M oT oM lT lM)).trans exSs_nil)))))))))))))))))))⟩
theorem run_law (H : Has C) (zs : List Int) (hz : zs.length ≤ 1000) : runFn C ⟨1, 27, b_law⟩ [(encN zs, false)] = .ok (.bool true) false [.none] := by
  obtain ⟨ds, hd⟩ := H.r9 zs hz
  obtain ⟨e, k1, ns, e2, e3, e4, e5, e6, e7, e8, e9, e10, e11, e12, e13, e14, e15, e16, e17, e18, e19, e20, e21, e22, e23, e24, rfl⟩ := for_rng (C := C) (p := .nm 2) (it := .rng (.cons (.con (.int 6)) .nil)) (b := fb_law_1) (n := 6) (ws := []) (env := some (encN zs, .fz) :: some (encN ds, .ow) :: List.replicate 25 none) (e1 := some (encN zs, .fz) :: some (encN ds, .ow) :: List.replicate 25 none) (evIt_rng1 (n := 6) (r := .v (.int 6)) (by simp only [andq, orq, negq, lockE_v, lockE_o, lockE_nil, wipeE_cons, wipeE_nil, backE_cons, backE_nil, unlockE_nil, evq_var, evq_con, evq_tup, evq_lst, evq_op, evq_chain, evq_and, evq_or, evq_ite, evq_call, evq_mth, evq_nil, evq_cons, evq_star, evq_val, evq_rng, evq_zip, exq_set, exq_unp, exq_par, exq_expr, exq_ret, exq_iff, exq_nil, exq_cons, opq_add, opq_sub, opq_mul, opq_mod, opq_fdiv, opq_neg, opq_lt, opq_le, opq_gt, opq_ge, opq_eqI, opq_neI, opq_eqB, opq_neB, opq_isN, opq_isnN, opq_isT, opq_isnT, opq_isB, opq_isnB, opq_truB, opq_not, opq_asI, opq_i0, opq_i1, opq_l0, opq_l1, opq_max2, opq_min2, opq_lenL, opq_lenT, opq_tupL, opq_tupT, opq_lstL, opq_lstT, opq_revL, opq_abs, opq_int, opq_addT, opq_addL, opq_sum, opq_min1, opq_max1, opq_slT, opq_slD, opq_slTL, rdq_v, rdq_o, rdq_s, rdsq_nil, rdsq_cons, tkq_v, tkq_o, tkq_s, tksq_nil, tksq_cons, itq_l, itq_t, setRq_v, setRq_o, setRq_s, retq_v, retq_o, retq_s, boolq, zipq, arg1q_v, arg1q_o, arg1q_s, callq, parKq_v, parKq_o, parKq_s, setRsq, isSq_v, isSq_o, isSq_s, mthq_append, mthq_extend, mthq_pop, lsq, bindq_nm, bindq_t, bindq_l, bindsq_nil, bindsq_cons, O.bind_ok, O.of_some, argD, ioSlots, backIo, slotsR, borrows, parL, setL, List.getElem?_cons_succ, List.getElem?_cons_zero, List.set_cons_succ, List.set_cons_zero, reduceIte, if_true, if_false, Bool.false_eq_true, Bool.not_true, Bool.not_false, true_and, and_true, true_or, or_true, decide_true, decide_false, ne_eq, not_false_eq_true, not_true_eq_false, Int.reduceAdd, Int.reduceSub, Int.reduceMul, List.append_nil, List.nil_append, List.cons_append, reduceCtorEq, List.length_cons, List.length_nil, Nat.reduceAdd, Nat.reduceLT, Nat.reduceLeDiff, sz0, sz1, sz2, sz3, sz4, sz5, slt0, Bool.and_true, Bool.true_and, Nat.reduceBEq, List.nodup_cons, List.not_mem_nil, List.nodup_nil, false_or, Bool.or_false, Bool.false_or, and_self, Int.reduceEq, Int.reduceNe, itB, itT, itL, i0, i1]) rfl (by decide)) (fun i e => ∃ (ns : List Int) (e2 e3 e4 e5 e6 e7 e8 e9 e10 e11 e12 e13 e14 e15 e16 e17 e18 e19 e20 e21 e22 e23 e24 : Slot), e = [some (encN zs, .fz), some (encN ns, .ow), e2, e3, e4, e5, e6, e7, e8, e9, e10, e11, e12, e13, e14, e15, e16, e17, e18, e19, e20, e21, e22, e23, e24, none, none])
    ⟨ds, none, none, none, none, none, none, none, none, none, none, none, none, none, none, none, none, none, none, none, none, none, none, none, rfl⟩ (fun _ _ _ => rfl) (fun i e hi h => by
      obtain ⟨ns, e2, e3, e4, e5, e6, e7, e8, e9, e10, e11, e12, e13, e14, e15, e16, e17, e18, e19, e20, e21, e22, e23, e24, rfl⟩ := h
      obtain ⟨ns', f3, f4, f5, f6, f7, f8, f9, f10, f11, f12, f13, f14, f15, f16, f17, f18, f19, f20, f21, f22, f23, f24, q⟩ := turn_ok H ns (some (encN zs, .fz)) (some (.int i, .fz)) e3 e4 e5 e6 e7 e8 e9 e10 e11 e12 e13 e14 e15 e16 e17 e18 e19 e20 e21 e22 e23 e24
      exact ⟨_, _, rfl, q, ns', _, f3, f4, f5, f6, f7, f8, f9, f10, f11, f12, f13, f14, f15, f16, f17, f18, f19, f20, f21, f22, f23, f24, rfl⟩)
  refine runFn_ret (some (encN zs, .fz) :: List.replicate 26 none) (env := [some (encN zs, .fz), some (encN ns, .ow), e2, e3, e4, e5, e6, e7, e8, e9, e10, e11, e12, e13, e14, e15, e16, e17, e18, e19, e20, e21, e22, e23, e24, none, none]) rfl (by decide) rfl ((exSs_cons (e1 := some (encN zs, .fz) :: some (encN ds, .ow) :: List.replicate 25 none) ?_).trans ((exSs_cons k1).trans (exSs_ret (exS_ret rfl rfl)))) rfl
  simp only [s_law_0, hd, List.replicate, andq, orq, negq, lockE_v, lockE_o, lockE_nil, wipeE_cons, wipeE_nil, backE_cons, backE_nil, unlockE_nil, evq_var, evq_con, evq_tup, evq_lst, evq_op, evq_chain, evq_and, evq_or, evq_ite, evq_call, evq_mth, evq_nil, evq_cons, evq_star, evq_val, evq_rng, evq_zip, exq_set, exq_unp, exq_par, exq_expr, exq_ret, exq_iff, exq_nil, exq_cons, opq_add, opq_sub, opq_mul, opq_mod, opq_fdiv, opq_neg, opq_lt, opq_le, opq_gt, opq_ge, opq_eqI, opq_neI, opq_eqB, opq_neB, opq_isN, opq_isnN, opq_isT, opq_isnT, opq_isB, opq_isnB, opq_truB, opq_not, opq_asI, opq_i0, opq_i1, opq_l0, opq_l1, opq_max2, opq_min2, opq_lenL, opq_lenT, opq_tupL, opq_tupT, opq_lstL, opq_lstT, opq_revL, opq_abs, opq_int, opq_addT, opq_addL, opq_sum, opq_min1, opq_max1, opq_slT, opq_slD, opq_slTL, rdq_v, rdq_o, rdq_s, rdsq_nil, rdsq_cons, tkq_v, tkq_o, tkq_s, tksq_nil, tksq_cons, itq_l, itq_t, setRq_v, setRq_o, setRq_s, retq_v, retq_o, retq_s, boolq, zipq, arg1q_v, arg1q_o, arg1q_s, callq, parKq_v, parKq_o, parKq_s, setRsq, isSq_v, isSq_o, isSq_s, mthq_append, mthq_extend, mthq_pop, lsq, bindq_nm, bindq_t, bindq_l, bindsq_nil, bindsq_cons, O.bind_ok, O.of_some, argD, ioSlots, backIo, slotsR, borrows, parL, setL, List.getElem?_cons_succ, List.getElem?_cons_zero, List.set_cons_succ, List.set_cons_zero, reduceIte, if_true, if_false, Bool.false_eq_true, Bool.not_true, Bool.not_false, true_and, and_true, true_or, or_true, decide_true, decide_false, ne_eq, not_false_eq_true, not_true_eq_false, Int.reduceAdd, Int.reduceSub, Int.reduceMul, List.append_nil, List.nil_append, List.cons_append, reduceCtorEq, List.length_cons, List.length_nil, Nat.reduceAdd, Nat.reduceLT, Nat.reduceLeDiff, sz0, sz1, sz2, sz3, sz4, sz5, slt0, Bool.and_true, Bool.true_and, Nat.reduceBEq, List.nodup_cons, List.not_mem_nil, List.nodup_nil, false_or, Bool.or_false, Bool.false_or, and_self, Int.reduceEq, Int.reduceNe, itB, itT, itL, i0, i1]
end
end K8
set_option maxRecDepth 100000
namespace K8
open PySem PySem.Spec PyProof.Rows L2 Mi
def bl : List Str := ["all", "any", "zip", "len", "range", "sum", "max", "min", "tuple", "list", "reversed", "sorted", "dict", "abs", "int"]
def topS (i : Nat) : Stmt := PySem.Challenge.pw_slideclear_k08_whole_room_counted_by_pie.main.body.getD i (.Pass ⟨0, 0, 0, 0⟩)
def d_clash : FD := ⟨"clash", "clash", topS 1, ["one", "other", "first", "second"], ["one", "other"], [], 1, ⟨2, 4, b_clash⟩⟩
def d_shared : FD := ⟨"shared", "shared", topS 2, ["one", "other", "first", "second"], ["one", "other"], [], 0, ⟨2, 4, b_shared⟩⟩
def d_shifted : FD := ⟨"shifted", "shifted", topS 3, ["box", "place", "low", "high", "step"], ["box", "place"], [], 0, ⟨2, 5, b_shifted⟩⟩
def d_room_of : FD := ⟨"room_of", "room_of", topS 4, ["box", "found", "low", "high"], ["box"], [], 0, ⟨1, 4, b_room_of⟩⟩
def d_apart : FD := ⟨"apart", "apart", topS 6, ["boxes", "found", "box", "pieces", "other", "piece", "part"], ["boxes"], ["found", "pieces"], 0, ⟨1, 7, b_apart⟩⟩
def d_without : FD := ⟨"without", "without", topS 7, ["box", "other", "middle", "found", "left", "axis", "low", "high"], ["box", "other"], ["found"], 0, ⟨2, 8, b_without⟩⟩
def d_volume : FD := ⟨"volume", "volume", topS 8, ["boxes", "box"], ["boxes"], [], 0, ⟨1, 2, b_volume⟩⟩
def d_same_room : FD := ⟨"same_room", "same_room", topS 9, ["one", "other", "both"], ["one", "other"], [], 0, ⟨2, 3, b_same_room⟩⟩
def d_hull : FD := ⟨"hull", "hull", topS 10, ["boxes", "found", "axis", "box"], ["boxes"], ["found"], 0, ⟨1, 4, b_hull⟩⟩
def d_law_draws : FD := ⟨"_law_draws", "_law_draws", topS 12, ["script", "draws", "cell", "number", "first", "k", "seed"], ["script"], ["draws"], 0, ⟨1, 7, b_law_draws⟩⟩
def d_law_take : FD := ⟨"_law_take", "_law_take", topS 13, ["draws", "bound"], ["draws", "bound"], [], 0, ⟨2, 2, b_law_take⟩⟩
def d_law_box : FD := ⟨"_law_box", "_law_box", topS 15, ["draws", "many", "far", "long", "found", "axis", "low"], ["draws", "many", "far", "long"], ["found"], 0, ⟨4, 7, b_law_box⟩⟩
def d_law_thing : FD := ⟨"_law_thing", "_law_thing", topS 16, ["draws", "many", "boxes", "far", "long", "rows", "k", "box"], ["draws", "many", "boxes", "far", "long"], [], 0, ⟨5, 8, b_law_thing⟩⟩
def d_law : FD := ⟨"law", "law", topS 17, ["script", "draws", "turn", "many", "one", "other", "third", "both", "left", "common", "parts", "pairs", "every", "first", "second", "meet", "axis", "low", "high", "middle", "halves", "thing", "more", "place", "whole", "k", "box"], ["script"], ["draws"], 0, ⟨1, 27, b_law⟩⟩
def tb : List FD := [d_clash, d_shared, d_shifted, d_room_of, d_apart, d_without, d_volume, d_same_room, d_hull, d_law_draws, d_law_take, d_law_box, d_law_thing, d_law]
theorem ok_clash : FD.Ok tb bl 60 d_clash := ⟨⟨rfl, rfl, rfl, by decide +kernel, rfl, by decide +kernel, by decide +kernel⟩, rfl, rfl, by decide, by kernel_rfl⟩
theorem bd_clash : FD.binds d_clash := fun _ _ _ _ _ _ us hl => match us, hl with | [_, _], _ => rfl
theorem ok_shared : FD.Ok tb bl 60 d_shared := ⟨⟨rfl, rfl, rfl, by decide +kernel, rfl, by decide +kernel, by decide +kernel⟩, rfl, rfl, by decide, by kernel_rfl⟩
theorem bd_shared : FD.binds d_shared := fun _ _ _ _ _ _ us hl => match us, hl with | [_, _], _ => rfl
theorem ok_shifted : FD.Ok tb bl 60 d_shifted := ⟨⟨rfl, rfl, rfl, by decide +kernel, rfl, by decide +kernel, by decide +kernel⟩, rfl, rfl, by decide, by kernel_rfl⟩
theorem bd_shifted : FD.binds d_shifted := fun _ _ _ _ _ _ us hl => match us, hl with | [_, _], _ => rfl
theorem ok_room_of : FD.Ok tb bl 60 d_room_of := ⟨⟨rfl, rfl, rfl, by decide +kernel, rfl, by decide +kernel, by decide +kernel⟩, rfl, rfl, by decide, by kernel_rfl⟩
theorem bd_room_of : FD.binds d_room_of := fun _ _ _ _ _ _ us hl => match us, hl with | [_], _ => rfl
theorem ok_apart : FD.Ok tb bl 60 d_apart := ⟨⟨rfl, rfl, rfl, by decide +kernel, rfl, by decide +kernel, by decide +kernel⟩, rfl, rfl, by decide, by kernel_rfl⟩
theorem bd_apart : FD.binds d_apart := fun _ _ _ _ _ _ us hl => match us, hl with | [_], _ => rfl
theorem ok_without : FD.Ok tb bl 60 d_without := ⟨⟨rfl, rfl, rfl, by decide +kernel, rfl, by decide +kernel, by decide +kernel⟩, rfl, rfl, by decide, by kernel_rfl⟩
theorem bd_without : FD.binds d_without := fun _ _ _ _ _ _ us hl => match us, hl with | [_, _], _ => rfl
theorem ok_volume : FD.Ok tb bl 60 d_volume := ⟨⟨rfl, rfl, rfl, by decide +kernel, rfl, by decide +kernel, by decide +kernel⟩, rfl, rfl, by decide, by kernel_rfl⟩
theorem bd_volume : FD.binds d_volume := fun _ _ _ _ _ _ us hl => match us, hl with | [_], _ => rfl
theorem ok_same_room : FD.Ok tb bl 60 d_same_room := ⟨⟨rfl, rfl, rfl, by decide +kernel, rfl, by decide +kernel, by decide +kernel⟩, rfl, rfl, by decide, by kernel_rfl⟩
theorem bd_same_room : FD.binds d_same_room := fun _ _ _ _ _ _ us hl => match us, hl with | [_, _], _ => rfl
theorem ok_hull : FD.Ok tb bl 60 d_hull := ⟨⟨rfl, rfl, rfl, by decide +kernel, rfl, by decide +kernel, by decide +kernel⟩, rfl, rfl, by decide, by kernel_rfl⟩
theorem bd_hull : FD.binds d_hull := fun _ _ _ _ _ _ us hl => match us, hl with | [_], _ => rfl
theorem ok_law_draws : FD.Ok tb bl 60 d_law_draws := ⟨⟨rfl, rfl, rfl, by decide +kernel, rfl, by decide +kernel, by decide +kernel⟩, rfl, rfl, by decide, by kernel_rfl⟩
theorem bd_law_draws : FD.binds d_law_draws := fun _ _ _ _ _ _ us hl => match us, hl with | [_], _ => rfl
theorem ok_law_take : FD.Ok tb bl 60 d_law_take := ⟨⟨rfl, rfl, rfl, by decide +kernel, rfl, by decide +kernel, by decide +kernel⟩, rfl, rfl, by decide, by kernel_rfl⟩
theorem bd_law_take : FD.binds d_law_take := fun _ _ _ _ _ _ us hl => match us, hl with | [_, _], _ => rfl
theorem ok_law_box : FD.Ok tb bl 60 d_law_box := ⟨⟨rfl, rfl, rfl, by decide +kernel, rfl, by decide +kernel, by decide +kernel⟩, rfl, rfl, by decide, by kernel_rfl⟩
theorem bd_law_box : FD.binds d_law_box := fun _ _ _ _ _ _ us hl => match us, hl with | [_, _, _, _], _ => rfl
theorem ok_law_thing : FD.Ok tb bl 60 d_law_thing := ⟨⟨rfl, rfl, rfl, by decide +kernel, rfl, by decide +kernel, by decide +kernel⟩, rfl, rfl, by decide, by kernel_rfl⟩
theorem bd_law_thing : FD.binds d_law_thing := fun _ _ _ _ _ _ us hl => match us, hl with | [_, _, _, _, _], _ => rfl
theorem ok_law : FD.Ok tb bl 60 d_law := ⟨⟨rfl, rfl, rfl, by decide +kernel, rfl, by decide +kernel, by decide +kernel⟩, rfl, rfl, by decide, by kernel_rfl⟩
theorem bd_law : FD.binds d_law := fun _ _ _ _ _ _ us hl => match us, hl with | [_], _ => rfl
theorem tb_ok : ∀ d ∈ tb, FD.Ok tb bl 60 d ∧ d.binds := by
  intro d hd
  simp only [tb, List.mem_cons, List.not_mem_nil, or_false] at hd
  rcases hd with rfl | rfl | rfl | rfl | rfl | rfl | rfl | rfl | rfl | rfl | rfl | rfl | rfl | rfl
  · exact ⟨ok_clash, bd_clash⟩
  · exact ⟨ok_shared, bd_shared⟩
  · exact ⟨ok_shifted, bd_shifted⟩
  · exact ⟨ok_room_of, bd_room_of⟩
  · exact ⟨ok_apart, bd_apart⟩
  · exact ⟨ok_without, bd_without⟩
  · exact ⟨ok_volume, bd_volume⟩
  · exact ⟨ok_same_room, bd_same_room⟩
  · exact ⟨ok_hull, bd_hull⟩
  · exact ⟨ok_law_draws, bd_law_draws⟩
  · exact ⟨ok_law_take, bd_law_take⟩
  · exact ⟨ok_law_box, bd_law_box⟩
  · exact ⟨ok_law_thing, bd_law_thing⟩
  · exact ⟨ok_law, bd_law⟩
end K8
set_option maxRecDepth 100000
namespace K8
open PySem PySem.Spec PyProof.Rows L2 Mi Bx
def mt : Nat → Nat → Bool := fun f j => (f == 10 || (f == 11 || f == 12)) && decide (j = 0)
theorem mt10 : mt 10 = fun j => decide (j = 0) := by funext j; simp [mt]
theorem mt11 : mt 11 = fun j => decide (j = 0) := by funext j; simp [mt]
theorem mt12 : mt 12 = fun j => decide (j = 0) := by funext j; simp [mt]
noncomputable abbrev dn (k : Nat) : Nat → List (D × Bool) → DO := den (PF tb) mt k
noncomputable abbrev CC (k : Nat) : Den := ⟨dn k, mt⟩
theorem cc_run (k : Nat) : (CC k).run = dn k := rfl
theorem dn_at {i : Nat} {d : FD} (h : tb[i]? = some d) (k : Nat) (args : List (D × Bool)) : dn (k + 1) i args = runFn (CC k) d.F args := by
  show (match PF tb i with | some F => runFn ⟨den (PF tb) mt k, mt⟩ F args | none => .bad) = _
  unfold PF
  rw [h]
  rfl
theorem v0 (k : Nat) (a b : Box) : dn (k + 1) 0 [(encB a, false), (encB b, false)] = .ok (.bool (clashB a b)) false [.none, .none] := (dn_at (i := 0) (d := d_clash) rfl k _).trans (run_clash a b)
theorem v1 (k : Nat) (a b : Box) (h : a.length ≤ sizeLine) : dn (k + 2) 1 [(encB a, false), (encB b, false)] = .ok (sharedD a b) false [.none, .none] := (dn_at (i := 1) (d := d_shared) rfl (k + 1) _).trans (run_shared (C := CC (k + 1)) (v0 k) a b h)
theorem v2 (k : Nat) (b : Box) (s : List Int) (h : b.length ≤ sizeLine) : dn (k + 1) 2 [(encB b, false), (encP s, false)] = .ok (encB (shiftB b s)) false [.none, .none] := (dn_at (i := 2) (d := d_shifted) rfl k _).trans (run_shifted b s h)
theorem v3 (k : Nat) (b : Box) (h : ∀ p ∈ b, -(2 ^ 64) < p.2 - p.1 ∧ p.2 - p.1 < 2 ^ 64) : dn (k + 1) 3 [(encB b, false)] = .ok (.int (vol b)) false [.none] := (dn_at (i := 3) (d := d_room_of) rfl k _).trans (run_room b h)
theorem v5 (k : Nat) (a b : Box) (h : a.length = b.length) (hn : a.length ≤ 1000) : dn (k + 3) 5 [(encB a, false), (encB b, false)] = .ok (encL (Bx.without a b)) true [.none, .none] := (dn_at (i := 5) (d := d_without) rfl (k + 2) _).trans (run_without (C := CC (k + 2)) (v1 k) a b h hn)
theorem v4 (k : Nat) {u : Box} (hu : Fit u) (x : D) (bs : List Box) (hx : BoxesD x bs) (hb : Ok u bs) : dn (k + 4) 4 [(x, false)] = .ok (encL (apart bs)) true [.none] := (dn_at (i := 4) (d := d_apart) rfl (k + 3) _).trans (run_apart (C := CC (k + 3)) (v5 k) x bs hx hu.1 hu.2.1 hb)
theorem v6 (k : Nat) (u : Box) (hu : Fit u) (x : D) (bs : List Box) (hx : BoxesD x bs) (hb : Ok u bs) : dn (k + 5) 6 [(x, false)] = .ok (.int (volume bs)) false [.none] := (dn_at (i := 6) (d := d_volume) rfl (k + 4) _).trans (run_volume (C := CC (k + 4)) (v3 (k + 3)) hu x bs (v4 k hu x bs hx hb) hb)
theorem v7 (k : Nat) (u : Box) (hu : Fit u) (x y : D) (a b : List Box) (hx : BoxesD x a) (hy : BoxesD y b) (ha : Ok u a) (hb : Ok u b) (hl : a.length + b.length ≤ sizeLine) : dn (k + 6) 7 [(x, false), (y, false)] = .ok (.bool (sameRoom a b)) false [.none, .none] := (dn_at (i := 7) (d := d_same_room) rfl (k + 5) _).trans (run_same (C := CC (k + 5)) hu (v6 k u hu) x y a b hx hy ha hb hl)
theorem v8 (k : Nat) (bs : List Box) (n : Nat) (hne : bs ≠ []) (hb : ∀ b ∈ bs, b.length = n) (hl : bs.length ≤ sizeLine) (hn : n ≤ 1000) : dn (k + 1) 8 [(encT bs, false)] = .ok (encB (hullB n bs)) false [.none] := (dn_at (i := 8) (d := d_hull) rfl k _).trans (run_hull bs n hne hb hl hn)
theorem v9 (k : Nat) (zs : List Int) (h : zs.length ≤ 1000) : ∃ ds : List Int, dn (k + 1) 9 [(encN zs, false)] = .ok (encN ds) true [.none] := (run_draws zs h).imp fun ds e => (dn_at (i := 9) (d := d_law_draws) rfl k _).trans e
theorem v10 (k : Nat) : TakeOk (CC (k + 1)) := fun ns m h => (dn_at (i := 10) (d := d_law_take) rfl k _).trans (run_take ns m h)
theorem v11 (k : Nat) : BoxOk (CC (k + 2)) := fun ns n far long h1 h2 h3 h4 => by
  obtain ⟨ns', b, e, r⟩ := run_box (C := CC (k + 1)) mt10 (v10 k) ns n far long h1 h2 h3 h4
  have e' : dn (k + 2) 11 [(encN ns, true), (.int n, false), (.int far, false), (.int long, false)] = .ok (encB b) false [encN ns', .none, .none, .none] := (dn_at (i := 11) (d := d_law_box) rfl (k + 1) _).trans e
  exact ⟨ns', b, by rw [cc_run]; exact e', r⟩
theorem has (k : Nat) : Has (CC (k + 6)) where
  t10 := mt10
  t11 := mt11
  t12 := mt12
  r1 := fun a b h => v1 (k + 4) a b (by unfold sizeLine; omega)
  r2 := fun b s h => v2 (k + 5) b s (by unfold sizeLine; omega)
  r3 := v3 (k + 5)
  r5 := v5 (k + 3)
  r6 := v6 (k + 1)
  r7 := v7 k
  r8 := v8 (k + 5)
  r9 := v9 (k + 5)
  r10 := v10 (k + 5)
  r11 := v11 (k + 4)
  r12 := fun ns n boxes far long h1 h2 h3 h4 h5 h6 h7 => by
    obtain ⟨ns', bs, e, r⟩ := run_thing (C := CC (k + 5)) mt10 mt11 (v10 (k + 4)) (v11 (k + 3)) ns n boxes far long h1 h2 h3 h4 h5 h6 h7
    exact ⟨ns', bs, (dn_at (i := 12) (d := d_law_thing) rfl (k + 5) _).trans e, r⟩
theorem law_val (ns : List Int) (h : ns.length ≤ 63) : den (PF tb) mt 7 13 [(.list (ns.map .int), false)] = .ok (.bool true) false [.none] := (dn_at (i := 13) (d := d_law) rfl 6 _).trans (run_law (has 0) ns (by omega))
abbrev R8 : PySem.W.OpenRow := PySem.W.OpenLaw.row PySem.Challenge.rw_slideclear_k08_whole_room_counted_by_pie
abbrev hk : PySem.W.Hook := He.hookX 4 (faT tb bl) (fnT tb) [] (tfT tb) (fun _ => true)
def ob (s : PySem.W.SharedT) : He.AlX := He.obsX 4 (faT tb bl) (fnT tb) [] (tfT tb) (fun _ => true) (HandSHeadRun.getT s)
theorem ob_eq (s : PySem.W.SharedT) : ob s = hk.obs s.abs := He.obsX_eq (HandSHeadRun.getT_eq s)
def loose : List PySem.Str := ["clash", "shared", "shifted", "room_of", "apart", "without", "volume", "same_room", "hull", "_law_draws", "_law_take", "_law_alike", "_law_box", "_law_thing"]
theorem run (w : World) : HandSHeadRun.RunEq R8 (PySem.W.view R8.prog [17]) hk ob 2000 loose w := by
  intro os
  kernel_rfl
end K8
open PySem PySem.W PySem.Calls PyProof.Rows
theorem PySem.Challenge.cw_slideclear_k08_whole_room_counted_by_pie_holds : PySem.Challenge.rw_slideclear_k08_whole_room_counted_by_pie.Holds := by
  w_on; o_law
  refine HandSHeadRun.head_any (r := OpenLaw.row PySem.Challenge.rw_slideclear_k08_whole_room_counted_by_pie) (q := view (OpenLaw.row PySem.Challenge.rw_slideclear_k08_whole_room_counted_by_pie).prog [17]) (H := K8.hk) (ob := K8.ob) (M := 2000) (loose := K8.loose) (d := HandSHeadRun.topDef (OpenLaw.row PySem.Challenge.rw_slideclear_k08_whole_room_counted_by_pie).prog 17) (kwd := []) K8.ob_eq
    (by kernel_rfl) (fun s => by kernel_rfl) K8.run (by kernel_rfl) (by kernel_rfl) (by kernel_rfl) (by rfl) (by first | assumption | decide +kernel) (by decide +kernel) ⟨rfl, rfl, rfl, rfl, rfl, by decide +kernel⟩ ?hw ?hc
  case hw => w_witness2
  case hc =>
    refine LamX.walk_ofTsE (l := PySem.Challenge.rw_slideclear_k08_whole_room_counted_by_pie) (n := 63) (k := Mi.lev 7) (x := "script") (CX := fun w => L2.CX (PySem.Challenge.rw_slideclear_k08_whole_room_counted_by_pie).prog w) rfl (by decide) (by kernel_rfl) ⟨rfl, by decide, by decide⟩ ?F (fun w H s e s' z => Mi.cx_none w H s e s' z)
    intro w mg fa h Y G hmg0
    obtain ⟨K, KX, c⟩ := Y
    have hmg : mg ("law" : PySem.Str) = some (.ref fa) := by
      have e : (HandSHeadRun.topDef (OpenLaw.row PySem.Challenge.rw_slideclear_k08_whole_room_counted_by_pie).prog 17).name = ("law" : PySem.Str) := by kernel_rfl
      rw [← e]
      exact hmg0
    exact ⟨K, KX, Mi.law_at (dl := K8.d_law) (lawId := 13) (fuel := 60) (mt := K8.mt) (fun d hd => (K8.tb_ok d hd).1) (fun d hd => (K8.tb_ok d hd).2) rfl rfl K8.law_val KX G hmg c⟩
