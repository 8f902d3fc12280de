import PyProof.Rows.All
import Wide.All
import OpenK.AllK
import Wide.FinOn
import HandS.ForMost
import HandS.TupAny
import HandS.TupMul
import HandS.TupLe
import HandS.Style
import HandS.Flow
import HandS.IsInst
import KE.DataFind
import HandS.SortRule
import HandS.Conv
import HandS.ExcValue
import KE.GoesMore
import KE.GoesEnum
import HandS.Zip
import HandS.Codes
import KE.KeyNested
import PyProof.DictRoadsH
import HandS.Exc
import HandS.Defaults
import HandS.Head0
import HandS.Head1
import HandS.Head2
import HandS.HeadEnd
import HandS.HeadHook1
import HandS.HeadHook2
import KE.KStateDown
import Lean
import HandS.Wide
import PySem.Challenge.RW_fewproducts_k76_whole_product_lists
set_option Elab.async false
set_option linter.all false
set_option maxRecDepth 100000
/-! A by-value evaluator for the part of Python that the programs and the laws are written in: data are PyData, names are slots, lists that a def changes itself are held in their slot. -/
namespace Ev
open PySem

abbrev D := PyData
abbrev SZ : Nat := 16777216

/-- the pot of draws: the great cells, the mixed number, the count -/
structure PS where
  cells : List Int
  mixed : Int
  count : Int

inductive Out (α : Type) where
  | ok (a : α) (p : PS)
  | exc (c : Nat) (fs : List D) (p : PS)
  | bad

abbrev M (α : Type) := PS → Out α
def Out.bind {α β : Type} (x : Out α) (f : α → M β) : Out β :=
  match x with
  | .ok a p => f a p
  | .exc c fs p => .exc c fs p
  | .bad => .bad
@[simp] theorem Out.bind_ok {α β : Type} (a : α) (p : PS) (f : α → M β) : (Out.ok a p).bind f = f a p := rfl
@[simp] theorem Out.bind_exc {α β : Type} (c : Nat) (fs : List D) (p : PS) (f : α → M β) : (Out.exc c fs p : Out α).bind f = .exc c fs p := rfl
@[simp] theorem Out.bind_bad {α β : Type} (f : α → M β) : (Out.bad : Out α).bind f = .bad := rfl
/-- what has come, if it came without an error -/
def Out.Wp {α : Type} (x : Out α) (k : α → PS → Prop) (e : Nat → List D → PS → Prop) : Prop :=
  match x with
  | .ok a p => k a p
  | .exc c fs p => e c fs p
  | .bad => False
theorem Out.wp_bind {α β : Type} {x : Out α} {f : α → M β} {k : β → PS → Prop} {e : Nat → List D → PS → Prop} : (x.bind f).Wp k e ↔ x.Wp (fun a p => (f a p).Wp k e) e := by
  cases x <;> exact Iff.rfl
theorem Out.Wp.mono {α : Type} {x : Out α} {k k' : α → PS → Prop} {e e' : Nat → List D → PS → Prop} (h : x.Wp k e) (hk : ∀ a p, x = .ok a p → k a p → k' a p) (he : ∀ c fs p, x = .exc c fs p → e c fs p → e' c fs p) : x.Wp k' e' := by
  cases x with
  | ok a p => exact hk a p rfl h
  | exc c fs p => exact he c fs p rfl h
  | bad => exact h
/-- where no error may pass -/
def Out.calm {α : Type} : Out α → Out α
  | .ok a p => .ok a p
  | _ => .bad
theorem Out.calm_wp {α : Type} {x : Out α} {k : α → PS → Prop} {e : Nat → List D → PS → Prop} : x.calm.Wp k e ↔ ∃ a p, x = .ok a p ∧ k a p := by
  cases x with
  | ok a p => exact ⟨fun h => ⟨a, p, rfl, h⟩, fun ⟨_, _, e, h⟩ => by cases e; exact h⟩
  | exc c fs p => exact ⟨fun h => h.elim, fun ⟨_, _, e, _⟩ => by cases e⟩
  | bad => exact ⟨fun h => h.elim, fun ⟨_, _, e, _⟩ => by cases e⟩
theorem Out.wp_ok {α : Type} {x : Out α} {k : α → PS → Prop} (h : x.Wp k fun _ _ _ => False) : ∃ a p, x = .ok a p ∧ k a p := by
  cases x with
  | ok a p => exact ⟨a, p, rfl, h⟩
  | exc c fs p => exact h.elim
  | bad => exact h.elim
/-- lift of a value that may lack -/
def opt {α : Type} (o : Option α) : M α := fun p => match o with
  | some a => .ok a p
  | none => .bad
theorem wp_opt {α : Type} {o : Option α} {p : PS} {k : α → PS → Prop} {e : Nat → List D → PS → Prop} : (opt o p).Wp k e ↔ ∃ a, o = some a ∧ k a p := by
  cases o with
  | none => exact ⟨fun h => h.elim, fun ⟨_, e, _⟩ => by cases e⟩
  | some a => exact ⟨fun h => ⟨a, rfl, h⟩, fun ⟨_, e, h⟩ => by cases e; exact h⟩
@[simp] theorem opt_some {α : Type} (a : α) (p : PS) : opt (some a) p = .ok a p := rfl
@[simp] theorem opt_none {α : Type} (p : PS) : opt (none : Option α) p = .bad := rfl
def ret {α : Type} (a : α) : M α := fun p => .ok a p
@[simp] theorem ret_ok {α : Type} (a : α) (p : PS) : ret a p = .ok a p := rfl

/-! ### the data's own operations -/
def tru : D → Option Bool
  | .none => some false
  | .bool b => some b
  | .int i => some (i != 0)
  | .str s => if s.length ≤ SZ then some (s.length != 0) else none
  | .list xs => some (!xs.isEmpty)
  | .tuple xs => some (!xs.isEmpty)
  | .dict _ => none

inductive BOp where
  | add | sub | mul | fdiv | mod | pow
def small64 (i : Int) : Bool := decide (-(2 ^ 64) < i) && decide (i < 2 ^ 64)
def rep {α : Type} (xs : List α) (k : Int) : List α := (List.replicate k.toNat xs).flatten
def repOk (n : Nat) (k : Int) : Bool := decide (-(2 ^ 63) ≤ k) && decide (k < 2 ^ 63) && decide (n * k.toNat ≤ SZ)
def binD : BOp → D → D → Option D
  | .add, .int i, .int j => some (.int (i + j))
  | .add, .tuple xs, .tuple ys => if xs.length + ys.length ≤ SZ then some (.tuple (xs ++ ys)) else none
  | .add, .list xs, .list ys => if xs.length + ys.length ≤ SZ then some (.list (xs ++ ys)) else none
  | .add, .str x, .str y => if x.length + y.length ≤ SZ then some (.str (x ++ y)) else none
  | .sub, .int i, .int j => some (.int (i - j))
  | .mul, .int i, .int j => if small64 i || small64 j then some (.int (i * j)) else none
  | .mul, .tuple xs, .int k => if decide (xs.length ≤ 1000) && decide (k ≤ 1000) && decide (-1000 ≤ k) then some (.tuple (rep xs k)) else none
  | .mul, .list xs, .int k => if repOk xs.length k then some (.list (rep xs k)) else none
  | .fdiv, .int i, .int j => if decide (0 < j) && decide (j < 1073741824) then some (.int (i / j)) else none
  | .mod, .int i, .int j => if 0 < j then some (.int (i % j)) else none
  | .pow, .int i, .int j => if decide (0 ≤ j) && decide (j ≤ 1000) && small64 i then some (.int (i ^ j.toNat)) else none
  | _, _, _ => none

inductive COp where
  | eq | ne | lt | le | gt | ge
def intC : COp → Int → Int → Bool
  | .eq, i, j => decide (i = j)
  | .ne, i, j => !decide (i = j)
  | .lt, i, j => decide (i < j)
  | .le, i, j => decide (i ≤ j)
  | .gt, i, j => decide (j < i)
  | .ge, i, j => decide (j ≤ i)
def COp.flat : COp → Bool
  | .le | .ge => true
  | _ => false
/-! the order of whole numbers and of tuples of such, at any depth -/
mutual
def ordOk : D → D → Bool
  | .int _, .int _ => true
  | .tuple xs, .tuple ys => ordOks xs ys
  | _, _ => false
def ordOks : List D → List D → Bool
  | [], _ => true
  | _ :: _, [] => true
  | x :: xs, y :: ys => ordOk x y && ordOks xs ys
end
mutual
def ordD (op : COp) : D → D → Bool
  | .int i, .int j => intC op i j
  | .tuple xs, .tuple ys => ordL op xs ys
  | _, _ => false
def ordL (op : COp) : List D → List D → Bool
  | [], [] => intC op 0 0
  | [], _ :: _ => intC op 0 1
  | _ :: _, [] => intC op 1 0
  | x :: xs, y :: ys => if PyData.eqv x y then ordL op xs ys else ordD op x y
end
def eqD : D → D → Option Bool
  | .dict xs, .dict ys => if xs.isEmpty || ys.isEmpty then some (xs.isEmpty && ys.isEmpty) else none
  | x, y => if SeqAt.shaped x && SeqAt.shaped y then some (PyData.eqv x y) else none
def cmpD : COp → D → D → Option Bool
  | .eq, x, y => eqD x y
  | .ne, x, y => (eqD x y).map (!·)
  | op, x, y => if SeqAt.shaped x && SeqAt.shaped y && ordOk x y then some (ordD op x y) else none
def memD (x : D) : D → Option Bool
  | .list ys => if SeqAt.shaped x && SeqAt.shaped (.list ys) then some (ys.any fun z => PyData.eqv z x) else none
  | .tuple ys => if SeqAt.shaped x && SeqAt.shaped (.tuple ys) then some (ys.any fun z => PyData.eqv z x) else none
  | _ => none
abbrev ixN := L2.ixN
abbrev atI {α : Type} (xs : List α) (i : Int) : Option α := L2.atI xs i
def ixD : D → D → Option D
  | .list xs, .int i => atI xs i
  | .tuple xs, .int i => atI xs i
  | _, _ => none
def cut {α : Type} (xs : List α) (lo hi : Option Int) : List α := (xs.drop (HT.sIx xs.length 0 lo)).take (HT.sIx xs.length xs.length hi - HT.sIx xs.length 0 lo)
def slD (lo hi : Option Int) : D → Option D
  | .list xs => some (.list (cut xs lo hi))
  | .tuple xs => some (.tuple (cut xs lo hi))
  | _ => none
def revD : D → Option D
  | .list xs => some (.list xs.reverse)
  | .tuple xs => some (.tuple xs.reverse)
  | _ => none
def intOf : D → Option Int
  | .int i => some i
  | _ => none
def intsOf : List D → Option (List Int)
  | [] => some []
  | .int i :: ds => (intsOf ds).map (i :: ·)
  | _ :: _ => none
def seqOf : D → Option (List D)
  | .list xs => some xs
  | .tuple xs => some xs
  | _ => none

inductive Ty where
  | int | bool | tuple | list | str | dict
def isD : Ty → D → Bool
  | .int, .int _ => true
  | .int, .bool _ => true
  | .bool, .bool _ => true
  | .tuple, .tuple _ => true
  | .list, .list _ => true
  | .str, .str _ => true
  | .dict, .dict _ => true
  | _, _ => false

/-! an order of all data: whole numbers, then tuples item by item, then the rest -/
def rkD : D → Nat
  | .int _ => 0
  | .tuple _ => 1
  | _ => 2
def cmpN {α : Type} [LT α] [DecidableEq α] [DecidableRel (α := α) (· < ·)] (i j : α) : Ordering := if i < j then .lt else if i = j then .eq else .gt
mutual
def cmpT : D → D → Ordering
  | .int i, .int j => cmpN i j
  | .tuple xs, .tuple ys => cmpTs xs ys
  | x, y => cmpN (rkD x) (rkD y)
def cmpTs : List D → List D → Ordering
  | [], [] => .eq
  | [], _ :: _ => .lt
  | _ :: _, [] => .gt
  | x :: xs, y :: ys => match cmpT x y with
    | .lt => .lt
    | .eq => cmpTs xs ys
    | .gt => .gt
end
def ltT (x y : D) : Bool := match cmpT x y with
  | .lt => true
  | _ => false
/-- sorted, equal ones in their turn -/
def insD (x : D) : List D → List D
  | [] => [x]
  | y :: ys => if ltT y x then y :: insD x ys else x :: y :: ys
def sortL : List D → List D
  | [] => []
  | x :: xs => insD x (sortL xs)
def isI : D → Bool
  | .int _ => true
  | _ => false
def isTup : D → Bool
  | .tuple _ => true
  | _ => false
def fstIs (p : D → Bool) : D → Bool
  | .tuple (x :: _) => p x
  | _ => false
/-- any two of them can be held against each other -/
def sortOk (xs : List D) : Bool := decide (xs.length ≤ SZ) && (xs.all isI || xs.all (fstIs isI) || xs.all (fstIs isTup)) && xs.all fun x => SeqAt.shaped x && xs.all fun y => ordOk x y
def sortD (xs : List D) : Option (List D) := if sortOk xs then some (sortL xs) else none

inductive BI where
  | len | tuple | list | int | abs | sum | max | min | sorted | any | all | repr
def maxL : Int → List Int → Int
  | m, [] => m
  | m, x :: xs => maxL (if m < x then x else m) xs
def minL : Int → List Int → Int
  | m, [] => m
  | m, x :: xs => minL (if x < m then x else m) xs
/-- what is flat, as truth -/
def tru1 : D → Option Bool
  | .none => some false
  | .bool b => some b
  | .int i => some (i != 0)
  | _ => none
def truL : List D → Option (List Bool)
  | [] => some []
  | x :: xs => (tru1 x).bind fun b => (truL xs).map (b :: ·)
def anyD (xs : List D) : Option Bool := (truL xs).map fun bs => bs.any id
def allD (xs : List D) : Option Bool := (truL xs).map fun bs => bs.all id
def biD : BI → List D → Option D
  | .len, [.list xs] => some (.int xs.length)
  | .len, [.tuple xs] => some (.int xs.length)
  | .tuple, [.list xs] => some (.tuple xs)
  | .tuple, [.tuple xs] => some (.tuple xs)
  | .list, [.list xs] => some (.list xs)
  | .list, [.tuple xs] => some (.list xs)
  | .int, [.int i] => some (.int i)
  | .int, [.bool b] => some (.int (if b then 1 else 0))
  | .abs, [.int i] => some (.int (if i < 0 then -i else i))
  | .sum, [.list xs] => (intsOf xs).map fun ns => .int ns.sum
  | .max, [.list xs] => (intsOf xs).bind fun ns => match ns with
    | [] => none
    | n :: r => some (.int (maxL n r))
  | .max, [.tuple xs] => (intsOf xs).bind fun ns => match ns with
    | [] => none
    | n :: r => some (.int (maxL n r))
  | .max, [.int i, .int j] => some (.int (if j > i then j else i))
  | .min, [.list xs] => (intsOf xs).bind fun ns => match ns with
    | [] => none
    | n :: r => some (.int (minL n r))
  | .min, [.tuple xs] => (intsOf xs).bind fun ns => match ns with
    | [] => none
    | n :: r => some (.int (minL n r))
  | .min, [.int i, .int j] => some (.int (if j < i then j else i))
  | .sorted, [.list xs] => (sortD xs).map .list
  | .sorted, [.dict kvs] => (sortD (kvs.map (·.1))).map .list
  | .any, [.list xs] => (anyD xs).map .bool
  | .any, [.tuple xs] => (anyD xs).map .bool
  | .all, [.list xs] => (allD xs).map .bool
  | .all, [.tuple xs] => (allD xs).map .bool
  | .repr, [.list xs] => if (PyData.list xs).showable && decide ((PyData.list xs).depth ≤ 64) && decide ((PyData.list xs).shown.length ≤ SZ) then some (.str (PyData.list xs).shown) else none
  | .repr, [.tuple xs] => if (PyData.tuple xs).showable && decide ((PyData.tuple xs).depth ≤ 64) && decide ((PyData.tuple xs).shown.length ≤ SZ) then some (.str (PyData.tuple xs).shown) else none
  | _, _ => none

/-! ### dicts: pairs in the order they came -/
def putD (k v : D) : List (D × D) → List (D × D)
  | [] => [(k, v)]
  | (a, b) :: r => if PyData.eqv a k then (a, v) :: r else (a, b) :: putD k v r
def getD (k : D) : List (D × D) → Option D
  | [] => none
  | (a, b) :: r => if PyData.eqv a k then some b else getD k r
/-! what may be a key: a whole number, a text, a tuple of keys -/
mutual
def keyOk : D → Bool
  | .int _ => true
  | .str _ => true
  | .tuple xs => keyOks xs
  | _ => false
def keyOks : List D → Bool
  | [] => true
  | x :: xs => keyOk x && keyOks xs
end
/-- a tuple of keys, not too deep -/
def keyGood (k : D) : Bool := isTup k && keyOk k && decide (k.depth ≤ 6)
def distinctD : List D → Bool
  | [] => true
  | k :: ks => (ks.all fun q => !PyData.eqv k q) && distinctD ks
/-- a key that may stand beside the others -/
def keyFits (k : D) (kvs : List (D × D)) : Bool := keyGood k && (kvs.map (·.1)).all keyGood && distinctD (kvs.map (·.1))

inductive ItK where
  | seq | rng | zip | enum | items
def rngL (i j : Int) : List D := (List.range (j - i).toNat).map fun (k : Nat) => .int (i + (k : Int))
def in62 (i : Int) : Bool := decide (-(2 ^ 62) ≤ i) && decide (i < 2 ^ 62)
def enumL : Nat → List D → List D
  | _, [] => []
  | n, x :: xs => .tuple [.int n, x] :: enumL (n + 1) xs
def zipL : List D → List D → List D
  | x :: xs, y :: ys => .tuple [x, y] :: zipL xs ys
  | _, _ => []
def itemsOf : ItK → List D → Option (List D)
  | .seq, [.list xs] => some xs
  | .seq, [.tuple xs] => some xs
  | .rng, [.int j] => if in62 j then some (rngL 0 j) else none
  | .rng, [.int i, .int j] => if in62 i && in62 j then some (rngL i j) else none
  | .zip, [x, y] => (seqOf x).bind fun xs => (seqOf y).map fun ys => zipL xs ys
  | .enum, [x] => (seqOf x).map (enumL 0)
  | _, _ => none

/-! ### what is written, names as slots -/
inductive Tg where
  | nm (i : Nat)
  | tp (ts : List Tg)
inductive IE where
  | var (i : Nat)
  | glc (x : Str) (n : Int)
  | lit (d : D)
  | tup (es : List IE)
  | lst (es : List IE)
  | dct0
  | bin (op : BOp) (a b : IE)
  | neg (a : IE)
  | not (a : IE)
  | bop (isAnd : Bool) (es : List IE)
  | ife (c a b : IE)
  | cmp (op : COp) (a b : IE)
  | chn (o1 o2 : COp) (a b c : IE)
  | isn (ng : Bool) (a : IE)
  | mem (ng : Bool) (a b : IE)
  | ix (a b : IE)
  | sl (a : IE) (lo hi : Option IE)
  | rev (a : IE)
  | cal (f : Nat) (pot : Bool) (es : List IE) (ks : List Str) (vs : List IE) (pm : List Nat)
  | bi (b : BI) (es : List IE)
  | isi (t : Ty) (a : IE)
  | get (a k x : IE)
  | lc (own : List (Str × Nat)) (tg : Tg) (k : ItK) (args : List IE) (cond : List IE) (elt : IE)

inductive Mu where
  | append | extend | remove | pop
inductive IS where
  | asg (fz : List Nat) (i : Nat) (fr : Bool) (e : IE)
  | asT (fz : List Nat) (ts : List Tg) (e : IE)
  | par (fz : List Nat) (ts : List (Tg × Bool)) (es : List IE)
  | stx (fz : List Nat) (i : Nat) (k v : IE)
  | mut (fz : List Nat) (m : Mu) (i : Nat) (es : List IE)
  | mutA (fz : List Nat) (j : Nat) (m : Mu) (i : Nat) (es : List IE)
  | exp (fz : List Nat) (e : IE)
  | ifs (fz : List Nat) (c : IE) (a b : List IS)
  | frs (fz : List Nat) (tg : Tg) (k : ItK) (args : List IE) (body : List IS)
  | whl (fz : List Nat) (c : IE) (body : List IS)
  | rtn (fz : List Nat) (e : IE)
  | rtnN
  | pas
  | brk
  | cnt

/-! ### slots -/
inductive Slot where
  | un
  | va (d : D)
  | ow (d : D)
abbrev Env := List Slot
def Slot.esc : Slot → Option D
  | .va d => some d
  | _ => none
def Slot.bor : Slot → Option D
  | .va d => some d
  | .ow d => some d
  | .un => none
def Slot.fz : Slot → Slot
  | .ow d => .va d
  | s => s
def escV (env : Env) (i : Nat) : Option D := (env[i]?).bind Slot.esc
def borV (env : Env) (i : Nat) : Option D := (env[i]?).bind Slot.bor
def ownV (env : Env) (i : Nat) : Option D := (env[i]?).bind fun s => match s with
  | .ow d => some d
  | _ => none
def ownLst (env : Env) (i : Nat) : Option (List D) := (env[i]?).bind fun s => match s with
  | .ow (.list ds) => some ds
  | _ => none
def freeze : List Nat → Env → Env
  | [], env => env
  | i :: r, env => freeze r (match env[i]? with
    | some s => env.set i s.fz
    | none => env)
def wipeE : List Nat → Env → Env
  | [], env => env
  | i :: r, env => (wipeE r env).set i .un
/-! a store: a name may not hold a list of its own that is forgotten: that is allowed (it is let go) -/
mutual
def asgT : Tg → D → Env → Option Env
  | .nm i, d, env => if i < env.length then some (env.set i (.va d)) else none
  | .tp ts, .tuple ds, env => asgTs ts ds env
  | .tp _, _, _ => none
def asgTs : List Tg → List D → Env → Option Env
  | [], [], env => some env
  | t :: ts, d :: ds, env => (asgT t d env).bind (asgTs ts ds)
  | _, _, _ => none
end
def holdable : D → Bool
  | .list _ => true
  | .dict _ => true
  | _ => false
def asgF (t : Tg) (fr : Bool) (d : D) (env : Env) : Option Env := match t, fr with
  | .nm i, true => if decide (i < env.length) && holdable d then some (env.set i (.ow d)) else none
  | t, _ => asgT t d env

/-! ### expressions -/
def pick {α : Type} (ds : List α) : List Nat → Option (List α)
  | [] => some []
  | j :: r => (ds[j]?).bind fun d => (pick ds r).map (d :: ·)
def compL (f : D → M (Option D)) : List D → M (List D)
  | [] => ret []
  | x :: xs => fun p => (f x p).bind fun o p1 => (compL f xs p1).bind fun ys p2 => .ok (match o with
    | some y => y :: ys
    | none => ys) p2
def lenOk (ds : List D) : M (List D) := fun p => if ds.length ≤ SZ then .ok ds p else .bad
def isNone : D → Bool
  | .none => true
  | _ => false
def dgetD (d k x : D) : Option D := match d with
  | .dict kvs => if keyFits k kvs then some ((getD k kvs).getD x) else none
  | _ => none

/-! b: a list of one's own may be looked at (it is not handed on) -/
mutual
def ev (F : Nat → List D → M D) : Bool → IE → Env → M D
  | b, .var i, env => opt (if b then borV env i else escV env i)
  | _, .glc _ n, _ => ret (.int n)
  | _, .lit d, _ => ret d
  | _, .tup es, env => fun p => (evs F false es env p).bind fun ds p => (lenOk ds p).bind fun ds p => .ok (.tuple ds) p
  | _, .lst es, env => fun p => (evs F false es env p).bind fun ds p => (lenOk ds p).bind fun ds p => .ok (.list ds) p
  | _, .dct0, _ => ret (.dict [])
  | _, .bin op x y, env => fun p => (ev F true x env p).bind fun x p => (ev F true y env p).bind fun y p => opt (binD op x y) p
  | _, .neg a, env => fun p => (ev F true a env p).bind fun x p => opt ((intOf x).map fun i => .int (-i)) p
  | _, .not a, env => fun p => (ev F true a env p).bind fun x p => opt ((tru x).map fun b => .bool !b) p
  | _, .bop c es, env => evBop F c es env
  | _, .ife c x y, env => fun p => (ev F true c env p).bind fun t p => (opt (tru t) p).bind fun t p => if t then ev F false x env p else ev F false y env p
  | _, .cmp op x y, env => fun p => (ev F true x env p).bind fun x p => (ev F true y env p).bind fun y p => opt ((cmpD op x y).map .bool) p
  | _, .chn o1 o2 x y z, env => fun p => (ev F true x env p).bind fun x p => (ev F true y env p).bind fun y p => (opt (cmpD o1 x y) p).bind fun t p =>
      if t then (ev F true z env p).bind fun z p => opt ((cmpD o2 y z).map .bool) p else .ok (.bool false) p
  | _, .isn ng x, env => fun p => (ev F true x env p).bind fun x p => .ok (.bool (ng != isNone x)) p
  | _, .mem ng x y, env => fun p => (ev F true x env p).bind fun x p => (ev F true y env p).bind fun y p => opt ((memD x y).map fun t => .bool (ng != t)) p
  | _, .ix x y, env => fun p => (ev F true x env p).bind fun x p => (ev F true y env p).bind fun y p => opt (ixD x y) p
  | _, .sl a lo hi, env => fun p => (ev F true a env p).bind fun x p => (evO F lo env p).bind fun l p => (evO F hi env p).bind fun h p => opt (slD l h x) p
  | _, .rev a, env => fun p => (ev F true a env p).bind fun x p => opt (revD x) p
  | _, .cal f _ es _ vs pm, env => fun p => (evs F false es env p).bind fun ds p => (evs F false vs env p).bind fun zs p => (opt (pick (ds ++ zs) pm) p).bind fun as p => F f as p
  | _, .bi b es, env => fun p => (evs F true es env p).bind fun ds p => opt (biD b ds) p
  | _, .isi t a, env => fun p => (ev F true a env p).bind fun x p => .ok (.bool (isD t x)) p
  | _, .get a k x, env => fun p => (ev F true a env p).bind fun d p => (ev F false k env p).bind fun q p => (ev F false x env p).bind fun y p => opt (dgetD d q y) p
  | _, .lc own tg k args cond elt, env => fun p => (evs F true args env p).bind fun ds p => (opt (itemsOf k ds) p).bind fun xs p =>
      (compL (fun x p => (opt (asgT tg x (wipeE (own.map (·.2)) env)) p).bind fun env1 p => (evC F cond env1 p).bind fun t p =>
        if t then (ev F false elt env1 p).bind fun y p => .ok (some y) p else .ok none p) xs p).calm.bind fun ys p => (lenOk ys p).bind fun ys p => .ok (.list ys) p
def evs (F : Nat → List D → M D) : Bool → List IE → Env → M (List D)
  | _, [], _ => ret []
  | b, e :: es, env => fun p => (ev F b e env p).bind fun d p => (evs F b es env p).bind fun ds p => .ok (d :: ds) p
def evBop (F : Nat → List D → M D) : Bool → List IE → Env → M D
  | _, [], _ => fun _ => .bad
  | c, a :: r, env => fun p => (ev F false a env p).bind fun x p => if r.isEmpty then .ok x p else (opt (tru x) p).bind fun t p => if t = c then evBop F c r env p else .ok x p
def evO (F : Nat → List D → M D) : Option IE → Env → M (Option Int)
  | none, _ => ret none
  | some e, env => fun p => (ev F false e env p).bind fun d p => (opt (intOf d) p).bind fun i p => .ok (some i) p
def evC (F : Nat → List D → M D) : List IE → Env → M Bool
  | [], _ => ret true
  | e :: _, env => fun p => (ev F true e env p).bind fun d p => opt (tru d) p
end

/-! ### statements -/
inductive Fl where
  | nx (env : Env)
  | rt (d : D)
  | br (env : Env)
  | ct (env : Env)
/-- a loop over items -/
def forL (f : D → Env → M Fl) : List D → Env → M Fl
  | [], env => ret (.nx env)
  | x :: xs, env => fun p => (f x env p).bind fun r p => match r with
    | .nx env | .ct env => forL f xs env p
    | .rt d => .ok (.rt d) p
    | .br env => .ok (.nx env) p
def whlL (c : Env → M Bool) (f : Env → M Fl) : Nat → Env → M Fl
  | 0, _ => fun _ => .bad
  | n + 1, env => fun p => (c env p).bind fun t p => if t then (f env p).bind fun r p => match r with
    | .nx env | .ct env => whlL c f n env p
    | .rt d => .ok (.rt d) p
    | .br env => .ok (.nx env) p
    else .ok (.nx env) p
/-- what a method does with its list: the list behind it, the answer -/
def muD : Mu → D → List D → Option (D × D)
  | .append, .list xs, [y] => if xs.length < SZ then some (.list (xs ++ [y]), .none) else none
  | .extend, .list xs, [.list ys] => if xs.length + ys.length ≤ SZ then some (.list (xs ++ ys), .none) else none
  | .remove, .list xs, [y] => if SeqAt.shaped y && SeqAt.shaped (.list xs) && xs.any (fun z => PyData.eqv z y) then some (.list (xs.eraseP fun z => PyData.eqv z y), .none) else none
  | .pop, .list xs, [] => (xs.getLast?).map fun y => (.list xs.dropLast, y)
  | .pop, .list xs, [.int i] => if in62 i then (ixN xs.length i).bind fun k => (xs[k]?).map fun y => (.list (xs.eraseIdx k), y) else none
  | _, _, _ => none
def setD (d k v : D) : Option D := match d, k with
  | .list xs, .int i => (ixN xs.length i).map fun j => .list (xs.set j v)
  | .dict kvs, k => if keyFits k kvs && decide (kvs.length < SZ) then some (.dict (putD k v kvs)) else none
  | _, _ => none
/-- the turns that a while may take: more than any of ours does -/
def fuel : Nat := 1000000000
def parF : List (Tg × Bool) → List D → Env → Option Env
  | [], [], env => some env
  | (t, fr) :: ts, d :: ds, env => (asgF t fr d env).bind (parF ts ds)
  | _, _, _ => none
mutual
def ex (F : Nat → List D → M D) : IS → Env → M Fl
  | .asg fz i fr e, env => fun p => (ev F false e (freeze fz env) p).bind fun d p => (opt (asgF (.nm i) fr d (freeze fz env)) p).bind fun env p => .ok (.nx env) p
  | .asT fz ts e, env => fun p => (ev F false e (freeze fz env) p).bind fun d p => (opt (asgT (.tp ts) d (freeze fz env)) p).bind fun env p => .ok (.nx env) p
  | .par fz ts es, env => fun p => (evs F false es (freeze fz env) p).bind fun ds p => (opt (parF ts ds (freeze fz env)) p).bind fun env p => .ok (.nx env) p
  | .stx fz i k v, env => fun p => (ev F false v (freeze fz env) p).bind fun y p => (opt (ownV (freeze fz env) i) p).bind fun d p => (ev F false k (freeze fz env) p).bind fun q p =>
      (opt (setD d q y) p).bind fun d p => .ok (.nx ((freeze fz env).set i (.ow d))) p
  | .mut fz m i es, env => fun p => (opt (ownLst (freeze fz env) i) p).bind fun xs p => (evs F false es (freeze fz env) p).bind fun ds p =>
      (opt (muD m (.list xs) ds) p).bind fun r p => .ok (.nx ((freeze fz env).set i (.ow r.1))) p
  | .mutA fz j m i es, env => fun p => (opt (ownLst (freeze fz env) i) p).bind fun xs p => (evs F false es (freeze fz env) p).bind fun ds p =>
      (opt (muD m (.list xs) ds) p).bind fun r p => (opt (asgT (.nm j) r.2 ((freeze fz env).set i (.ow r.1))) p).bind fun env p => .ok (.nx env) p
  | .exp fz e, env => fun p => (ev F false e (freeze fz env) p).bind fun _ p => .ok (.nx (freeze fz env)) p
  | .ifs fz c a b, env => fun p => (ev F true c (freeze fz env) p).bind fun d p => (opt (tru d) p).bind fun t p => if t then exs F a (freeze fz env) p else exs F b (freeze fz env) p
  | .frs fz tg k args body, env => fun p => (evs F false args (freeze fz env) p).bind fun ds p => (opt (itemsOf k ds) p).bind fun xs p =>
      forL (fun x env p => (opt (asgT tg x env) p).bind fun env p => exs F body env p) xs (freeze fz env) p
  | .whl fz c body, env => whlL (fun env p => (ev F true c env p).bind fun d p => opt (tru d) p) (fun env p => exs F body env p) fuel (freeze fz env)
  | .rtn fz e, env => fun p => (ev F false e (freeze fz env) p).bind fun d p => .ok (.rt d) p
  | .rtnN, _ => ret (.rt .none)
  | .pas, env => ret (.nx env)
  | .brk, env => ret (.br env)
  | .cnt, env => ret (.ct env)
def exs (F : Nat → List D → M D) : List IS → Env → M Fl
  | [], env => ret (.nx env)
  | s :: r, env => fun p => (ex F s env p).bind fun f p => match f with
    | .nx env => exs F r env p
    | f => .ok f p
end
/-- a def at its arguments: so many slots -/
def runDef (F : Nat → List D → M D) (body : List IS) (n : Nat) (ds : List D) : M D := fun p =>
  (exs F body (ds.map .va ++ List.replicate (n - ds.length) .un) p).bind fun f p => match f with
    | .nx _ => .ok .none p
    | .rt d => .ok d p
    | _ => .bad
end Ev
/-! How data stand in the abstract heap. O: the addresses that data may not lean on (they may still change). -/
namespace Ev
open PySem PySem.Spec PyProof.Rows L2

/-- a dict by its raw entries -/
def rawO (a : Addr) (es : Array DictEntry) (ep : Nat) : HO := .ext fun h => ∃ o, h.get? a = some o ∧ o.ExactDict ∧ o.data = .dict es ep
def NoO (O : Addr → Prop) (v : V) : Prop := ∀ a, v = .ref a → ¬ O a
/-- the entries of a dict whose keys are tuples: keys and values by V; hf tells a key's hash -/
def Ents (hf : D → Int) : List DictEntry → List D → List V → List V → Prop
  | [], [], [], [] => True
  | e :: es, k :: ks, q :: qs, v :: vs => (∃ a, e.key = .ref a ∧ q = .ref a) ∧ e.hash = hf k ∧ RelV v e.val ∧ Ents hf es ks qs vs
  | _, _, _, _ => False

variable (hf : D → Int)
mutual
def Rb (H : Hp) (O : Addr → Prop) : D → V → Prop
  | .none, v => v = .non
  | .bool b, v => v = .bl b
  | .int i, v => v = .int i
  | .str s, v => v = .str s
  | .list ds, v => ∃ a vs, v = .ref a ∧ H a = some (.lst vs) ∧ Rs H O ds vs
  | .tuple ds, v => ∃ a vs, v = .ref a ∧ H a = some (.tup vs) ∧ Rs H O ds vs
  | .dict kvs, v => ∃ a es ep qs vs, v = .ref a ∧ Rd H a (rawO a es ep) ∧ (a == sysModules) = false ∧ es.size ≤ SZ ∧ Ents hf es.toList (kvs.map (·.1)) qs vs ∧ Rk H O kvs qs vs
def Rs (H : Hp) (O : Addr → Prop) : List D → List V → Prop
  | [], vs => vs = []
  | d :: ds, vs => ∃ v r, vs = v :: r ∧ Rb H O d v ∧ NoO O v ∧ Rs H O ds r
def Rk (H : Hp) (O : Addr → Prop) : List (D × D) → List V → List V → Prop
  | [], qs, vs => qs = [] ∧ vs = []
  | (k, d) :: kvs, qs, vs => ∃ q qr v vr, qs = q :: qr ∧ vs = v :: vr ∧ Rb H O k q ∧ NoO O q ∧ Rb H O d v ∧ NoO O v ∧ Rk H O kvs qr vr
end
/-- a value that may be handed on -/
def Rp (H : Hp) (O : Addr → Prop) (d : D) (v : V) : Prop := Rb hf H O d v ∧ NoO O v

section
variable {hf} {H H' : Hp} {O O' : Addr → Prop}
theorem rdKeep {a : Addr} {u : HO} (k : ∀ o, H a = some o → H' a = some o) (r : Rd H a u) : Rd H' a u := by
  rcases r with r | ⟨o, r⟩
  · exact .inl (k _ r)
  · exact .inr ⟨o, k _ r⟩
theorem rdThere {a : Addr} {u : HO} (r : Rd H a u) : ∃ o, H a = some o := by
  rcases r with r | ⟨o, r⟩
  · exact ⟨_, r⟩
  · exact ⟨_, r⟩
/-! the heap may change at O, O may change where nothing stood -/
mutual
theorem Rb.move (kt : ∀ a o, ¬ O a → H a = some o → H' a = some o) (ko : ∀ a o, ¬ O a → H a = some o → ¬ O' a) : ∀ (d : D) (v : V), Rb hf H O d v → NoO O v → Rb hf H' O' d v ∧ NoO O' v
  | .none, v, h, n => by
    simp only [Rb] at h ⊢
    exact ⟨h, by rw [h]; intro a e; cases e⟩
  | .bool b, v, h, n => by
    simp only [Rb] at h ⊢
    exact ⟨h, by rw [h]; intro a e; cases e⟩
  | .int i, v, h, n => by
    simp only [Rb] at h ⊢
    exact ⟨h, by rw [h]; intro a e; cases e⟩
  | .str s, v, h, n => by
    simp only [Rb] at h ⊢
    exact ⟨h, by rw [h]; intro a e; cases e⟩
  | .list ds, v, h, n => by
    simp only [Rb] at h ⊢
    obtain ⟨a, vs, rfl, hr, hs⟩ := h
    have na := n a rfl
    exact ⟨⟨a, vs, rfl, kt a _ na hr, Rs.move kt ko ds vs hs⟩, fun b e => by cases e; exact ko a _ na hr⟩
  | .tuple ds, v, h, n => by
    simp only [Rb] at h ⊢
    obtain ⟨a, vs, rfl, hr, hs⟩ := h
    have na := n a rfl
    exact ⟨⟨a, vs, rfl, kt a _ na hr, Rs.move kt ko ds vs hs⟩, fun b e => by cases e; exact ko a _ na hr⟩
  | .dict kvs, v, h, n => by
    simp only [Rb] at h ⊢
    obtain ⟨a, es, ep, qs, vs, rfl, hr, hn, hz, he, hk⟩ := h
    have na := n a rfl
    obtain ⟨o, ho⟩ := rdThere hr
    exact ⟨⟨a, es, ep, qs, vs, rfl, rdKeep (fun o => kt a o na) hr, hn, hz, he, Rk.move kt ko kvs qs vs hk⟩, fun b e => by cases e; exact ko a o na ho⟩
theorem Rs.move (kt : ∀ a o, ¬ O a → H a = some o → H' a = some o) (ko : ∀ a o, ¬ O a → H a = some o → ¬ O' a) : ∀ (ds : List D) (vs : List V), Rs hf H O ds vs → Rs hf H' O' ds vs
  | [], vs, h => by simpa only [Rs] using h
  | d :: ds, vs, h => by
    simp only [Rs] at h ⊢
    obtain ⟨v, r, e, h1, n1, h2⟩ := h
    obtain ⟨q1, q2⟩ := Rb.move kt ko d v h1 n1
    exact ⟨v, r, e, q1, q2, Rs.move kt ko ds r h2⟩
theorem Rk.move (kt : ∀ a o, ¬ O a → H a = some o → H' a = some o) (ko : ∀ a o, ¬ O a → H a = some o → ¬ O' a) : ∀ (kvs : List (D × D)) (qs vs : List V), Rk hf H O kvs qs vs → Rk hf H' O' kvs qs vs
  | [], qs, vs, h => by simpa only [Rk] using h
  | (k, d) :: kvs, qs, vs, h => by
    simp only [Rk] at h ⊢
    obtain ⟨q, qr, v, vr, e1, e2, h1, n1, h2, n2, h3⟩ := h
    obtain ⟨a1, a2⟩ := Rb.move kt ko k q h1 n1
    obtain ⟨b1, b2⟩ := Rb.move kt ko d v h2 n2
    exact ⟨q, qr, v, vr, e1, e2, a1, a2, b1, b2, Rk.move kt ko kvs qr vr h3⟩
end
theorem Rp.move (kt : ∀ a o, ¬ O a → H a = some o → H' a = some o) (ko : ∀ a o, ¬ O a → H a = some o → ¬ O' a) {d : D} {v : V} (h : Rp hf H O d v) : Rp hf H' O' d v := Rb.move kt ko d v h.1 h.2
/-- looked at: also the value itself may stand at O, if that stays -/
theorem Rb.same (kt : ∀ a o, H a = some o → H' a = some o) {d : D} {v : V} (h : Rb hf H O d v) : Rb hf H' O d v := by
  cases d with
  | none => simpa only [Rb] using h
  | bool b => simpa only [Rb] using h
  | int i => simpa only [Rb] using h
  | str s => simpa only [Rb] using h
  | list ds =>
    simp only [Rb] at h ⊢
    obtain ⟨a, vs, e, hr, hs⟩ := h
    exact ⟨a, vs, e, kt a _ hr, Rs.move (fun a o _ => kt a o) (fun a _ n _ => n) ds vs hs⟩
  | tuple ds =>
    simp only [Rb] at h ⊢
    obtain ⟨a, vs, e, hr, hs⟩ := h
    exact ⟨a, vs, e, kt a _ hr, Rs.move (fun a o _ => kt a o) (fun a _ n _ => n) ds vs hs⟩
  | dict kvs =>
    simp only [Rb] at h ⊢
    obtain ⟨a, es, ep, qs, vs, e, hr, hn, hz, he, hk⟩ := h
    exact ⟨a, es, ep, qs, vs, e, rdKeep (kt a) hr, hn, hz, he, Rk.move (fun a o _ => kt a o) (fun a _ n _ => n) kvs qs vs hk⟩
theorem Rs.length : ∀ {ds : List D} {vs : List V}, Rs hf H O ds vs → vs.length = ds.length
  | [], vs, h => by simp only [Rs] at h; rw [h]; rfl
  | d :: ds, vs, h => by
    simp only [Rs] at h
    obtain ⟨v, r, e, _, _, h2⟩ := h
    rw [e, List.length_cons, List.length_cons, Rs.length h2]
theorem Rs.nil : Rs hf H O [] [] := by simp only [Rs]
theorem Rs.cons {d : D} {ds : List D} {v : V} {vs : List V} (h : Rp hf H O d v) (t : Rs hf H O ds vs) : Rs hf H O (d :: ds) (v :: vs) := by
  simp only [Rs]
  exact ⟨v, vs, rfl, h.1, h.2, t⟩
theorem Rs.inv {d : D} {ds : List D} {vs : List V} (h : Rs hf H O (d :: ds) vs) : ∃ v r, vs = v :: r ∧ Rp hf H O d v ∧ Rs hf H O ds r := by
  simp only [Rs] at h
  obtain ⟨v, r, e, h1, h2, h3⟩ := h
  exact ⟨v, r, e, ⟨h1, h2⟩, h3⟩
theorem Rs.get : ∀ {ds : List D} {vs : List V} {i : Nat} {d : D}, Rs hf H O ds vs → ds[i]? = some d → ∃ v, vs[i]? = some v ∧ Rp hf H O d v
  | [], _, _, _, _, e => by simp at e
  | d :: ds, vs, 0, x, h, e => by
    obtain ⟨v, r, rfl, h1, _⟩ := h.inv
    simp at e
    subst e
    exact ⟨v, rfl, h1⟩
  | d :: ds, vs, i + 1, x, h, e => by
    obtain ⟨v, r, rfl, _, h2⟩ := h.inv
    obtain ⟨u, e2, r2⟩ := Rs.get (i := i) h2 (by simpa using e)
    exact ⟨u, by simpa using e2, r2⟩
theorem Rs.append : ∀ {ds es : List D} {vs us : List V}, Rs hf H O ds vs → Rs hf H O es us → Rs hf H O (ds ++ es) (vs ++ us)
  | [], _, vs, _, h, t => by simp only [Rs] at h; rw [h]; exact t
  | d :: ds, es, vs, us, h, t => by
    obtain ⟨v, r, rfl, h1, h2⟩ := h.inv
    exact .cons h1 (Rs.append h2 t)
theorem Rs.take : ∀ {ds : List D} {vs : List V} (n : Nat), Rs hf H O ds vs → Rs hf H O (ds.take n) (vs.take n)
  | _, _, 0, _ => Rs.nil
  | [], vs, n + 1, h => by simp only [Rs] at h; rw [h]; exact Rs.nil
  | d :: ds, vs, n + 1, h => by
    obtain ⟨v, r, rfl, h1, h2⟩ := h.inv
    exact .cons h1 (Rs.take n h2)
theorem Rs.drop : ∀ {ds : List D} {vs : List V} (n : Nat), Rs hf H O ds vs → Rs hf H O (ds.drop n) (vs.drop n)
  | _, _, 0, h => h
  | [], vs, n + 1, h => by simp only [Rs] at h; rw [h]; exact Rs.nil
  | d :: ds, vs, n + 1, h => by
    obtain ⟨v, r, rfl, h1, h2⟩ := h.inv
    exact Rs.drop n h2
theorem Rs.set : ∀ {ds : List D} {vs : List V} {d : D} {v : V} (i : Nat), Rs hf H O ds vs → Rp hf H O d v → Rs hf H O (ds.set i d) (vs.set i v)
  | [], vs, d, v, i, h, q => by simp only [Rs] at h; rw [h]; exact Rs.nil
  | d :: ds, vs, x, y, 0, h, q => by
    obtain ⟨v, r, rfl, h1, h2⟩ := h.inv
    exact .cons q h2
  | d :: ds, vs, x, y, i + 1, h, q => by
    obtain ⟨v, r, rfl, h1, h2⟩ := h.inv
    exact .cons h1 (Rs.set i h2 q)
theorem Rs.eraseIdx : ∀ {ds : List D} {vs : List V} (i : Nat), Rs hf H O ds vs → Rs hf H O (ds.eraseIdx i) (vs.eraseIdx i)
  | [], vs, i, h => by simp only [Rs] at h; rw [h]; exact Rs.nil
  | d :: ds, vs, 0, h => by
    obtain ⟨v, r, rfl, h1, h2⟩ := h.inv
    exact h2
  | d :: ds, vs, i + 1, h => by
    obtain ⟨v, r, rfl, h1, h2⟩ := h.inv
    exact .cons h1 (Rs.eraseIdx i h2)
theorem Rs.reverse : ∀ {ds : List D} {vs : List V}, Rs hf H O ds vs → Rs hf H O ds.reverse vs.reverse
  | [], vs, h => by simp only [Rs] at h; rw [h]; exact Rs.nil
  | d :: ds, vs, h => by
    obtain ⟨v, r, rfl, h1, h2⟩ := h.inv
    rw [List.reverse_cons, List.reverse_cons]
    exact Rs.append (Rs.reverse h2) (.cons h1 .nil)
theorem Rs.rep {ds : List D} {vs : List V} (h : Rs hf H O ds vs) : ∀ k : Nat, Rs hf H O (List.replicate k ds).flatten (List.replicate k vs).flatten
  | 0 => Rs.nil
  | k + 1 => by
    rw [List.replicate_succ, List.replicate_succ, List.flatten_cons, List.flatten_cons]
    exact h.append (Rs.rep h k)
theorem Rs.dropLast {ds : List D} {vs : List V} (h : Rs hf H O ds vs) : Rs hf H O ds.dropLast vs.dropLast := by
  rw [List.dropLast_eq_take, List.dropLast_eq_take, h.length]
  exact h.take _
theorem Rs.ints : ∀ {ns : List Int} {ds : List D} {vs : List V}, Rs hf H O ds vs → intsOf ds = some ns → vs = ns.map V.int
  | ns, [], vs, h, e => by
    simp only [Rs] at h
    simp only [intsOf, Option.some.injEq] at e
    rw [h, ← e]; rfl
  | ns, d :: ds, vs, h, e => by
    obtain ⟨v, r, rfl, h1, h2⟩ := h.inv
    cases d with
    | int i =>
      simp only [intsOf, Option.map_eq_some_iff] at e
      obtain ⟨m, e1, rfl⟩ := e
      have hv := h1.1
      simp only [Rb] at hv
      rw [hv, Rs.ints h2 e1]; rfl
    | _ => simp [intsOf] at e
theorem Rp.int {i : Int} : Rp hf H O (.int i) (.int i) := ⟨by simp only [Rb], fun a e => by cases e⟩
theorem Rp.bl {b : Bool} : Rp hf H O (.bool b) (.bl b) := ⟨by simp only [Rb], fun a e => by cases e⟩
theorem Rp.str {s : Str} : Rp hf H O (.str s) (.str s) := ⟨by simp only [Rb], fun a e => by cases e⟩
theorem Rp.non : Rp hf H O .none .non := ⟨by simp only [Rb], fun a e => by cases e⟩
theorem Rs.of_ints : ∀ ns : List Int, Rs hf H O (ns.map PyData.int) (ns.map V.int)
  | [] => Rs.nil
  | n :: ns => .cons .int (Rs.of_ints ns)
/-! as the layer's deep data: what holds no dict -/
mutual
theorem Rb.dp (K : PySem.W.Frag) : ∀ (d : D) (v : V), d.canLay0 = true → Rb hf H O d v → Dp K H v d
  | .none, v, _, h => by simp only [Rb] at h; rw [h]; exact .non
  | .bool b, v, _, h => by simp only [Rb] at h; rw [h]; exact .bl b
  | .int i, v, _, h => by simp only [Rb] at h; rw [h]; exact .int i
  | .str s, v, _, h => by simp only [Rb] at h; rw [h]; exact .str s
  | .list ds, v, c, h => by
    simp only [Rb] at h
    obtain ⟨a, vs, rfl, hr, hs⟩ := h
    simp only [PyData.canLay0] at c
    exact .lst (.inl (.inl hr)) (Rs.dp K ds vs c hs)
  | .tuple ds, v, c, h => by
    simp only [Rb] at h
    obtain ⟨a, vs, rfl, hr, hs⟩ := h
    simp only [PyData.canLay0] at c
    exact .tup (.inl (.inl hr)) (Rs.dp K ds vs c hs)
  | .dict kvs, v, c, h => by simp [PyData.canLay0] at c
theorem Rs.dp (K : PySem.W.Frag) : ∀ (ds : List D) (vs : List V), PyData.canLayAll0 ds = true → Rs hf H O ds vs → DpAll K H vs ds
  | [], vs, _, h => by simp only [Rs] at h; rw [h]; exact .nil
  | d :: ds, vs, c, h => by
    simp only [PyData.canLayAll0, Bool.and_eq_true] at c
    obtain ⟨v, r, rfl, h1, h2⟩ := h.inv
    exact .cons (Rb.dp K d v c.1 h1.1) (Rs.dp K ds r c.2 h2)
end
end

/-- what a def may change itself -/
abbrev ownable : D → Bool := holdable
def OwnAt (hf : D → Int) (H : Hp) (O : Addr → Prop) (a : Addr) : D → Prop
  | .list ds => ∃ vs, H a = some (.lst vs) ∧ Rs hf H O ds vs
  | .dict kvs => ∃ es ep qs vs, H a = some (rawO a es ep) ∧ (a == sysModules) = false ∧ es.size ≤ SZ ∧ Ents hf es.toList (kvs.map (·.1)) qs vs ∧ Rk hf H O kvs qs vs
  | _ => False
theorem OwnAt.rb {hf : D → Int} {H : Hp} {O : Addr → Prop} {a : Addr} : ∀ {d : D}, OwnAt hf H O a d → Rb hf H O d (.ref a)
  | .list ds, h => by
    obtain ⟨vs, h1, h2⟩ := h
    simp only [Rb]
    exact ⟨a, vs, rfl, h1, h2⟩
  | .dict kvs, h => by
    obtain ⟨es, ep, qs, vs, h1, h2, h3, h4, h5⟩ := h
    simp only [Rb]
    exact ⟨a, es, ep, qs, vs, rfl, .inl h1, h2, h3, h4, h5⟩
theorem OwnAt.there {hf : D → Int} {H : Hp} {O : Addr → Prop} {a : Addr} : ∀ {d : D}, OwnAt hf H O a d → ∃ o, H a = some o
  | .list ds, h => let ⟨_, h1, _⟩ := h; ⟨_, h1⟩
  | .dict kvs, h => let ⟨_, _, _, _, h1, _⟩ := h; ⟨_, h1⟩
/-- the heap may change at O but at the thing itself -/
theorem OwnAt.move {hf : D → Int} {H H' : Hp} {O O' : Addr → Prop} {a : Addr} (ka : ∀ o, H a = some o → H' a = some o) (kt : ∀ a o, ¬ O a → H a = some o → H' a = some o) (ko : ∀ a o, ¬ O a → H a = some o → ¬ O' a) :
    ∀ {d : D}, OwnAt hf H O a d → OwnAt hf H' O' a d
  | .list ds, h => by
    obtain ⟨vs, h1, h2⟩ := h
    exact ⟨vs, ka _ h1, Rs.move kt ko ds vs h2⟩
  | .dict kvs, h => by
    obtain ⟨es, ep, qs, vs, h1, h2, h3, h4, h5⟩ := h
    exact ⟨es, ep, qs, vs, ka _ h1, h2, h3, h4, Rk.move kt ko kvs qs vs h5⟩
theorem OwnAt.own {hf : D → Int} {H : Hp} {O : Addr → Prop} {a : Addr} : ∀ {d : D}, OwnAt hf H O a d → ownable d = true
  | .list ds, _ => rfl
  | .dict kvs, _ => rfl
end Ev
/-! The operators over data. -/
namespace Ev
open PySem PySem.Spec PyProof.Rows L2

def tupO : HO → Bool
  | .tup _ => true
  | _ => false
/-- what data may not lean on stands there, and is no tuple -/
abbrev DomO (O : Addr → Prop) (H : Hp) : Prop := ∀ a, O a → ∃ o, H a = some o ∧ tupO o = false
theorem DomO.no {O : Addr → Prop} {H : Hp} (dm : DomO O H) {a : Addr} (o : O a) : H a ≠ none := fun e => by
  obtain ⟨u, h, _⟩ := dm a o
  rw [e] at h; cases h
theorem DomO.tup {O : Addr → Prop} {H : Hp} (dm : DomO O H) {a : Addr} {xs : List V} (h : H a = some (.tup xs)) : ¬ O a := fun o => by
  obtain ⟨u, h2, t⟩ := dm a o
  rw [h] at h2; cases h2; cases t

/-- a result: the heap may have grown; of a new list (fr) nobody else knows -/
def Res (hf : D → Int) (fr : Bool) (H : Hp) (O : Addr → Prop) (d : D) (Q : VK) : Prop :=
  ∀ v H', Same H H' → Rp hf H' O d v → (fr = true → ownable d = true → ∃ a, v = .ref a ∧ H a = none ∧ OwnAt hf H' (fun b => O b ∨ b = a) a d) → Q v H'
def rD2 (hf : D → Int) (fr : Bool) (f : D → D → Option D) : R2 := fun x y H Q => ∃ O dx dy d, DomO O H ∧ Rb hf H O dx x ∧ Rb hf H O dy y ∧ f dx dy = some d ∧ Res hf fr H O d Q
def rD1 (hf : D → Int) (fr : Bool) (f : D → Option D) : V → Hp → VK → Prop := fun x H Q => ∃ O dx d, DomO O H ∧ Rb hf H O dx x ∧ f dx = some d ∧ Res hf fr H O d Q

section
variable {hf : D → Int} {H : Hp} {O : Addr → Prop} {Q : VK}
theorem same_new {a : Addr} {o : HO} (h : H a = none) : Same H (upd H a o) := fun b x e => by
  rw [upd_ne (ne_of_none e h)]; exact e
theorem szL : sizeLine = SZ := sizeLine_eq
theorem Res.int {fr : Bool} {i : Int} (h : Res hf fr H O (.int i) Q) : Q (.int i) H := h _ _ (Same.refl _) .int fun _ e => by cases e
theorem Res.bl {fr : Bool} {b : Bool} (h : Res hf fr H O (.bool b) Q) : Q (.bl b) H := h _ _ (Same.refl _) .bl fun _ e => by cases e
theorem Res.str {fr : Bool} {s : Str} (h : Res hf fr H O (.str s) Q) : Q (.str s) H := h _ _ (Same.refl _) .str fun _ e => by cases e
theorem Res.non {fr : Bool} (h : Res hf fr H O .none Q) : Q .non H := h _ _ (Same.refl _) .non fun _ e => by cases e
theorem Rs.grow {ds : List D} {vs : List V} {H' : Hp} (g : Same H H') (h : Rs hf H O ds vs) : Rs hf H' O ds vs := Rs.move (fun a o _ => g a o) (fun a _ n _ => n) ds vs h
theorem Rp.grow {d : D} {v : V} {H' : Hp} (g : Same H H') (h : Rp hf H O d v) : Rp hf H' O d v := Rp.move (fun a o _ => g a o) (fun a _ n _ => n) h
theorem Res.tup {fr : Bool} {ds : List D} {vs : List V} (h : Res hf fr H O (.tuple ds) Q) (dm : DomO O H) (r : Rs hf H O ds vs) {p : Addr} (np : H p = none) : Q (.ref p) (upd H p (.tup vs)) := by
  refine h _ _ (same_new np) ⟨?_, fun a e => ?_⟩ fun _ e => by cases e
  · simp only [Rb]
    exact ⟨p, vs, rfl, upd_same, r.grow (same_new np)⟩
  · cases e
    exact fun o => dm.no o np
theorem Res.lst {fr : Bool} {ds : List D} {vs : List V} (h : Res hf fr H O (.list ds) Q) (dm : DomO O H) (r : Rs hf H O ds vs) {p : Addr} (np : H p = none) : Q (.ref p) (upd H p (.lst vs)) := by
  refine h _ _ (same_new np) ⟨?_, fun a e => ?_⟩ fun _ _ => ⟨p, rfl, np, vs, upd_same, Rs.move (fun a o _ e => same_new np a o e) (fun a o n e q => q.elim n fun q => by rw [q, np] at e; cases e) ds vs r⟩
  · simp only [Rb]
    exact ⟨p, vs, rfl, upd_same, r.grow (same_new np)⟩
  · cases e
    exact fun o => dm.no o np
/-- the thing itself -/
theorem Res.self {d : D} {v : V} {fr : Bool} (h : Res hf fr H O d Q) (r : Rp hf H O d v) (hn : fr = false ∨ ownable d = false) : Q v H := h _ _ (Same.refl _) r fun e1 e2 => by
  rcases hn with e | e
  · rw [e] at e1; cases e1
  · rw [e] at e2; cases e2
theorem Res.weak {d : D} {fr : Bool} (h : Res hf false H O d Q) : Res hf fr H O d Q := fun v H' g r _ => h v H' g r fun e => by cases e
end

/-! ### + - * // % ** -/
def opOf : BOp → Operator
  | .add => .Add
  | .sub => .Sub
  | .mul => .Mult
  | .fdiv => .FloorDiv
  | .mod => .Mod
  | .pow => .Pow
section
variable {X : Cx} {hf : D → Int}
theorem tuple_mul_same (l : Addr) (items : Array Value) (n : Nat) (dd : Option Addr) (sl : Array (Option Value)) (x : Int) (u : Tok) (c0 : (decide (x < -(2 ^ 63)) || decide (x ≥ 2 ^ 63)) = false) (c1 : (items.isEmpty || x == 1) = true) :
    Meets (Builtin.«tuple.__mul__» ⟨[.ref l, .int x u], []⟩) (fun _ R s => s.heap.get? l = some { cls := .type "tuple", dict := dd, data := .seq items n, slots := sl } ∧ R (.ok (.ret (Value.ref l))) s) :=
  .of_wp fun prog w A R s h => by
    obtain ⟨hp, g, d, tk, os⟩ := s
    obtain ⟨hl, h⟩ := h
    have f1 := AutoSeq1.idx_int
    wp_walk using wpAny_loadPart' hl
    repeat (first
      | (refine wpAny_ite_false (decide_eq_false (by rw [c0]; exact Bool.false_ne_true)) ?_; wp_walk using wpAny_loadPart' hl)
      | (refine wpAny_ite_true (decide_eq_true c1) ?_; wp_walk using wpAny_loadPart' hl))
    exact ⟨_, rfl, h⟩
theorem tuple_mul_none (l : Addr) (items : Array Value) (n : Nat) (dd : Option Addr) (sl : Array (Option Value)) (x : Int) (u : Tok) (c0 : (decide (x < -(2 ^ 63)) || decide (x ≥ 2 ^ 63)) = false) (c1 : (items.isEmpty || x == 1) = false) (c2 : (decide (x ≤ 0) || items.isEmpty) = true) :
    Meets (Builtin.«tuple.__mul__» ⟨[.ref l, .int x u], []⟩) (fun _ R s => s.heap.get? l = some { cls := .type "tuple", dict := dd, data := .seq items n, slots := sl } ∧
      R (.ok (.ret (Value.ref s.heap.objs.size))) { s with heap := s.heap.push { cls := Value.type "tuple", data := Data.seq #[] }, toks := s.toks }) :=
  .of_wp fun prog w A R s h => by
    obtain ⟨hp, g, d, tk, os⟩ := s
    obtain ⟨hl, h⟩ := h
    have f1 := AutoSeq1.idx_int
    wp_walk using wpAny_loadPart' hl
    repeat (first
      | (refine wpAny_ite_false (decide_eq_false (by rw [c0]; exact Bool.false_ne_true)) ?_; wp_walk using wpAny_loadPart' hl)
      | (refine wpAny_ite_false (decide_eq_false (by rw [c1]; exact Bool.false_ne_true)) ?_; wp_walk using wpAny_loadPart' hl)
      | (refine wpAny_ite_true (decide_eq_true c2) ?_; wp_walk using wpAny_loadPart' hl))
    exact ⟨_, rfl, h⟩

/-- tuple * int, all cases -/
theorem op_repTD {fr : Bool} : OpR X (binaryOp .Mult) (fun x y H Q => ∃ O xs k, DomO O H ∧ Rb hf H O (.tuple xs) x ∧ Rb hf H O (.int k) y ∧ xs.length ≤ 1000 ∧ k ≤ 1000 ∧ -1000 ≤ k ∧ Res hf fr H O (.tuple (rep xs k)) Q) := by
  intro pins s σ H x y v u Q I rx ry h
  obtain ⟨O, ds, k, dm, hx, hy, hz, hk, hk2, q⟩ := h
  simp only [Rb] at hx hy
  obtain ⟨l, xs, rfl, hH, hs⟩ := hx
  subst hy
  have hle := hs.length
  by_cases hg : xs ≠ [] ∧ 2 ≤ k
  · exact op_repT pins s σ H _ _ v u Q I rx ry ⟨l, k, xs, rfl, rfl, SqT.of hH, hg.1, hg.2, hk, by omega, fun p np => q.tup dm (hs.rep k.toNat) np⟩
  · cases rx
    obtain ⟨t, rfl⟩ := ry
    obtain ⟨its, r, ⟨⟨cls, dd, data, sl⟩, ho, hc, n, hd⟩, hsz⟩ := I.tuple (SqT.of hH)
    simp only at hc hd
    subst hc hd
    have c0 : (decide (k < -(2 ^ 63)) || decide (k ≥ 2 ^ 63)) = false := by
      rw [decide_eq_false (by omega), decide_eq_false (by omega)] <;> rfl
    by_cases c1 : (its.toArray.isEmpty || k == 1) = true
    · refine wpAny_binaryOp_repeat_ref (T := "tuple") (U := "int") (by decide) ⟨_, ho, rfl⟩ (fun s' => typeIs_int s' k t) noFill_tuple_mul F.fills_int_mul F.slot_int_rmul repeat_tuple F.slot_int_index.lookup
        (call_meets F.slot_int_rmul (typeIs_int s k t) F.entry_int_rmul (F.args_int_rmul_2 _ _) (int_rmul_tuple k t l its.toArray n dd sl)
          ⟨ho, rfl, ⟨_, ho, rfl⟩, call_meets F.slot_tuple_mul ⟨_, ho, rfl⟩ F.entry_tuple_mul (F.args_tuple_mul_2 _ _) (tuple_mul_same l its.toArray n dd sl k t c0 c1) ⟨ho, ?_⟩⟩)
      have e : rep ds k = ds := by
        unfold rep
        rcases Bool.or_eq_true_iff.mp c1 with c | c
        · have : its = [] := by
            cases its with
            | nil => rfl
            | cons a b => simp at c
          subst this
          have e2 : xs = [] := by cases r; rfl
          subst e2
          have e3 : ds = [] := List.eq_nil_of_length_eq_zero hle.symm
          subst e3
          simp
        · have : k = 1 := by simpa using c
          subst this
          simp
      rw [e] at q
      exact ⟨.ref l, H, I, rfl, q.self ⟨by simp only [Rb]; exact ⟨l, xs, rfl, hH, hs⟩, fun a ea => by cases ea; exact dm.tup hH⟩ (.inr rfl)⟩
    · have c1 : (its.toArray.isEmpty || k == 1) = false := by simpa using c1
      have hne : its.toArray.isEmpty = false := (Bool.or_eq_false_iff.mp c1).1
      have hk1 : k ≠ 1 := by simpa using (Bool.or_eq_false_iff.mp c1).2
      have hx : xs ≠ [] := fun e => by
        subst e
        cases r
        simp at hne
      have hk0 : k ≤ 0 := by
        rcases Int.lt_or_le k 2 with c | c
        · omega
        · exact absurd ⟨hx, c⟩ hg
      have c2 : (decide (k ≤ 0) || its.toArray.isEmpty) = true := by rw [decide_eq_true hk0]; rfl
      refine wpAny_binaryOp_repeat_ref (T := "tuple") (U := "int") (by decide) ⟨_, ho, rfl⟩ (fun s' => typeIs_int s' k t) noFill_tuple_mul F.fills_int_mul F.slot_int_rmul repeat_tuple F.slot_int_index.lookup
        (call_meets F.slot_int_rmul (typeIs_int s k t) F.entry_int_rmul (F.args_int_rmul_2 _ _) (int_rmul_tuple k t l its.toArray n dd sl)
          ⟨ho, rfl, ⟨_, ho, rfl⟩, call_meets F.slot_tuple_mul ⟨_, ho, rfl⟩ F.entry_tuple_mul (F.args_tuple_mul_2 _ _) (tuple_mul_none l its.toArray n dd sl k t c0 c1 c2) ⟨ho, ?_⟩⟩)
      have e : rep ds k = [] := by
        unfold rep
        rw [Int.toNat_of_nonpos hk0]
        rfl
      rw [e] at q
      refine ⟨.ref s.heap.objs.size, _, I.laid (t' := s.toks) (o := .tup []) (fun b ob q => Heap.get?_push_of_some _ q) (Nat.le_refl _) ⟨Nat.zero_le _, [], .nil, IsTup.new _ _⟩, rfl, q.tup dm .nil (I.hok.fresh (Nat.le_refl _))⟩

theorem rb_seq {H : Hp} {O : Addr → Prop} {x : V} {ds : List D} (h : Rb hf H O (.tuple ds) x) : ∃ a vs, x = .ref a ∧ H a = some (.tup vs) ∧ Rs hf H O ds vs := by simpa only [Rb] using h
theorem rb_lst {H : Hp} {O : Addr → Prop} {x : V} {ds : List D} (h : Rb hf H O (.list ds) x) : ∃ a vs, x = .ref a ∧ H a = some (.lst vs) ∧ Rs hf H O ds vs := by simpa only [Rb] using h
theorem rb_int {H : Hp} {O : Addr → Prop} {x : V} {i : Int} (h : Rb hf H O (.int i) x) : x = .int i := by simpa only [Rb] using h
theorem rb_str {H : Hp} {O : Addr → Prop} {x : V} {i : Str} (h : Rb hf H O (.str i) x) : x = .str i := by simpa only [Rb] using h
theorem rb_bl {H : Hp} {O : Addr → Prop} {x : V} {i : Bool} (h : Rb hf H O (.bool i) x) : x = .bl i := by simpa only [Rb] using h
theorem rb_tup_p {H : Hp} {O : Addr → Prop} {x : V} {ds : List D} (dm : DomO O H) (h : Rb hf H O (.tuple ds) x) : Rp hf H O (.tuple ds) x := by
  obtain ⟨a, vs, rfl, hH, hs⟩ := rb_seq h
  exact ⟨h, fun b e => by cases e; exact dm.tup hH⟩

theorem small64_ok {i : Int} (h : small64 i = true) : -(2 ^ 64) < i ∧ i < 2 ^ 64 := by
  unfold small64 at h
  simp only [Bool.and_eq_true, decide_eq_true_eq] at h
  exact h
theorem opBin (op : BOp) : OpR X (binaryOp (opOf op)) (rD2 hf true (binD op)) := by
  intro pins s σ H x y v u Q I rx ry h
  obtain ⟨O, dx, dy, d, dm, hx, hy, e, q⟩ := h
  have hl := szL
  cases op with
  | add =>
    cases dx with
    | int i =>
      cases dy with
      | int j =>
        simp only [binD, Option.some.injEq] at e
        subst e
        exact op_add pins s σ H x y v u Q I rx ry ⟨i, j, rb_int hx, rb_int hy, q.int⟩
      | _ => simp [binD] at e
    | tuple xs =>
      cases dy with
      | tuple ys =>
        simp only [binD] at e
        split at e
        · rename_i hz
          simp only [Option.some.injEq] at e
          subst e
          have px := rb_tup_p dm hx
          have py := rb_tup_p dm hy
          obtain ⟨a, vs, rfl, hH, hs⟩ := rb_seq hx
          obtain ⟨b, us, rfl, hH2, hs2⟩ := rb_seq hy
          have l1 := hs.length
          have l2 := hs2.length
          refine op_catA pins s σ H _ _ v u Q I rx ry ⟨a, b, vs, us, rfl, rfl, SqT.of hH, SqT.of hH2, by omega, fun e0 => ?_, fun _ e0 => ?_, fun _ _ p np => q.tup dm (hs.append hs2) np⟩
          · subst e0
            have : xs = [] := List.eq_nil_of_length_eq_zero l1.symm
            subst this
            exact q.self py (.inr rfl)
          · subst e0
            have : ys = [] := List.eq_nil_of_length_eq_zero l2.symm
            subst this
            rw [List.append_nil] at q
            exact q.self px (.inr rfl)
        · cases e
      | _ => simp [binD] at e
    | list xs =>
      cases dy with
      | list ys =>
        simp only [binD] at e
        split at e
        · rename_i hz
          simp only [Option.some.injEq] at e
          subst e
          obtain ⟨a, vs, rfl, hH, hs⟩ := rb_lst hx
          obtain ⟨b, us, rfl, hH2, hs2⟩ := rb_lst hy
          have l1 := hs.length
          have l2 := hs2.length
          exact op_cat pins s σ H _ _ v u Q I rx ry ⟨a, b, vs, us, rfl, rfl, hH, hH2, by omega, fun p np => q.lst dm (hs.append hs2) np⟩
        · cases e
      | _ => simp [binD] at e
    | str xs =>
      cases dy with
      | str ys =>
        simp only [binD] at e
        split at e
        · rename_i hz
          simp only [Option.some.injEq] at e
          subst e
          exact op_add_str pins s σ H _ _ v u Q I rx ry ⟨xs, ys, rb_str hx, rb_str hy, by omega, q.str⟩
        · cases e
      | _ => simp [binD] at e
    | _ => cases dy <;> simp [binD] at e
  | sub =>
    cases dx <;> cases dy <;> simp only [binD, Option.some.injEq, reduceCtorEq] at e
    subst e
    exact op_sub pins s σ H x y v u Q I rx ry ⟨_, _, rb_int hx, rb_int hy, q.int⟩
  | mul =>
    cases dx <;> cases dy <;> simp only [binD, reduceCtorEq] at e
    · split at e
      · rename_i i j hz
        simp only [Option.some.injEq] at e
        subst e
        refine op_mul pins s σ H x y v u Q I rx ry ⟨i, j, rb_int hx, rb_int hy, ?_, q.int⟩
        rcases Bool.or_eq_true_iff.mp hz with c | c
        · exact .inl (small64_ok c)
        · exact .inr (small64_ok c)
      · cases e
    · split at e
      · rename_i xs k hz
        simp only [Option.some.injEq] at e
        subst e
        simp only [repOk, Bool.and_eq_true, decide_eq_true_eq] at hz
        obtain ⟨a, vs, rfl, hH, hs⟩ := rb_lst hx
        have l1 := hs.length
        exact op_rep pins s σ H _ _ v u Q I rx ry ⟨a, k, vs, rfl, rb_int hy, hH, hz.1.1, hz.1.2, by rw [l1, hl]; exact hz.2, fun p np => q.lst dm (hs.rep k.toNat) np⟩
      · cases e
    · split at e
      · rename_i xs k hz
        simp only [Option.some.injEq] at e
        subst e
        simp only [Bool.and_eq_true, decide_eq_true_eq] at hz
        exact op_repTD (fr := true) pins s σ H _ _ v u Q I rx ry ⟨O, xs, k, dm, hx, hy, hz.1.1, hz.1.2, hz.2, q⟩
      · cases e
  | fdiv =>
    cases dx <;> cases dy <;> simp only [binD, reduceCtorEq] at e
    split at e
    · rename_i i j hz
      simp only [Option.some.injEq] at e
      subst e
      simp only [Bool.and_eq_true, decide_eq_true_eq] at hz
      exact op_fdiv pins s σ H x y v u Q I rx ry ⟨i, j, rb_int hx, rb_int hy, ⟨hz.1, hz.2⟩, q.int⟩
    · cases e
  | mod =>
    cases dx <;> cases dy <;> simp only [binD, reduceCtorEq] at e
    split at e
    · rename_i i j hz
      simp only [Option.some.injEq] at e
      subst e
      exact op_mod pins s σ H x y v u Q I rx ry ⟨i, j, rb_int hx, rb_int hy, hz, q.int⟩
    · cases e
  | pow =>
    cases dx <;> cases dy <;> simp only [binD, reduceCtorEq] at e
    split at e
    · rename_i i j hz
      simp only [Option.some.injEq] at e
      subst e
      simp only [Bool.and_eq_true, decide_eq_true_eq] at hz
      have hs := small64_ok hz.2
      exact op_pow pins s σ H x y v u Q I rx ry ⟨i, j, rb_int hx, rb_int hy, ⟨hz.1.1, by omega, by omega⟩, q.int⟩
    · cases e
end
end Ev
/-! Comparisons of data. -/
namespace Ev
open PySem PySem.Spec PyProof.Rows L2
def cmpOf : COp → CmpOp
  | .eq => .Eq
  | .ne => .NotEq
  | .lt => .Lt
  | .le => .LtE
  | .gt => .Gt
  | .ge => .GtE
def COp.ord : COp → Bool
  | .eq | .ne => false
  | _ => true
theorem lexAt_shift (e r : Nat → Bool) (z : Bool) : ∀ k i, Ob.lexAt e r z (i + 1) k = Ob.lexAt (fun j => e (j + 1)) (fun j => r (j + 1)) z i k
  | 0, i => rfl
  | k + 1, i => by rw [Ob.lexAt_succ, Ob.lexAt_succ, lexAt_shift e r z k (i + 1)]
def zz (op : COp) (m n : Nat) : Bool := intC op m n
theorem zz_succ (op : COp) (m n : Nat) : zz op (m + 1) (n + 1) = zz op m n := by
  cases op <;> simp only [zz, intC] <;> rw [Bool.eq_iff_iff] <;> simp only [decide_eq_true_eq, Bool.not_eq_true', decide_eq_false_iff_not] <;> omega
theorem lex_ord (op : COp) : ∀ xs ys : List D, Ob.lexAt (fun j => PyData.eqv (xs.getD j .none) (ys.getD j .none)) (fun j => ordD op (xs.getD j .none) (ys.getD j .none)) (zz op xs.length ys.length) 0 (min xs.length ys.length) = ordL op xs ys
  | [], [] => by simp only [ordL]; rfl
  | [], y :: ys => by
    simp only [ordL]
    show zz op 0 (ys.length + 1) = _
    cases op <;> simp [zz, intC] <;> omega
  | x :: xs, [] => by
    simp only [ordL]
    show zz op (xs.length + 1) 0 = _
    cases op <;> simp [zz, intC] <;> omega
  | x :: xs, y :: ys => by
    have ih := lex_ord op xs ys
    have e : min (x :: xs).length (y :: ys).length = min xs.length ys.length + 1 := by simp only [List.length_cons]; omega
    rw [e, Ob.lexAt_succ, lexAt_shift]
    simp only [List.length_cons, zz_succ, List.getD_cons_succ, List.getD_cons_zero]
    rw [ih, ordL]
theorem ordOks_get : ∀ {xs ys : List D} (j : Nat), ordOks xs ys = true → j < xs.length → j < ys.length → ordOk (xs.getD j .none) (ys.getD j .none) = true
  | [], _, j, _, h1, _ => by simp at h1
  | _ :: _, [], j, _, _, h2 => by simp at h2
  | x :: xs, y :: ys, 0, h, _, _ => by
    simp only [ordOks, Bool.and_eq_true] at h
    exact h.1
  | x :: xs, y :: ys, j + 1, h, h1, h2 => by
    simp only [ordOks, Bool.and_eq_true] at h
    rw [List.getD_cons_succ, List.getD_cons_succ]
    exact ordOks_get j h.2 (by simpa using h1) (by simpa using h2)
theorem readsAll_get {h : Heap} : ∀ {vs : List Value} {ds : List D} {as : List Addr} (j : Nat) (h1 : j < vs.length), ReadsAll h vs ds as → ∃ bs, Reads h vs[j] (ds.getD j .none) bs
  | [], _, _, j, h1, _ => by simp at h1
  | v :: vs, _, _, 0, _, .cons r _ => ⟨_, by simpa using r⟩
  | v :: vs, _, _, j + 1, h1, .cons _ t => by
    obtain ⟨bs, q⟩ := readsAll_get j (by simpa using h1) t
    exact ⟨bs, by simpa using q⟩
theorem readsAll_len {h : Heap} : ∀ {vs : List Value} {ds : List D} {as : List Addr}, ReadsAll h vs ds as → vs.length = ds.length
  | _, _, _, .nil => rfl
  | _, _, _, .cons _ t => by rw [List.length_cons, List.length_cons, readsAll_len t]
theorem canLay_get : ∀ {ds : List D} (j : Nat), PyData.canLayAll0 ds = true → (ds.getD j .none).canLay0 = true
  | [], j, _ => by simp [PyData.canLay0]
  | d :: ds, 0, h => by
    simp only [PyData.canLayAll0, Bool.and_eq_true] at h
    exact h.1
  | d :: ds, j + 1, h => by
    simp only [PyData.canLayAll0, Bool.and_eq_true] at h
    rw [List.getD_cons_succ]
    exact canLay_get j h.2
theorem depth_get : ∀ {ds : List D} (j : Nat), (ds.getD j .none).depth ≤ PyData.depthAll ds
  | [], j => by simp [PyData.depth]
  | d :: ds, 0 => by
    simp only [PyData.depthAll, List.getD_cons_zero]
    exact Nat.le_max_left _ _
  | d :: ds, j + 1 => by
    simp only [PyData.depthAll, List.getD_cons_succ]
    exact Nat.le_trans (depth_get j) (Nat.le_max_right _ _)
theorem getD_mem_size : ∀ {ds : List D} {j : Nat}, j < ds.length → sizeOf (ds.getD j .none) < sizeOf (PyData.tuple ds) := by
  intro ds j h
  have : ds.getD j .none = ds[j] := by simp [List.getD, h]
  rw [this]
  have := List.sizeOf_lt_of_mem (List.getElem_mem h)
  simp only [PyData.tuple.sizeOf_spec]
  omega
theorem ord_run (op : COp) (ho : op.ord = true) : ∀ (d e : D) (A : Around) (s : Shared) (a b : Value) (as bs : List Addr), Reads s.heap a d as → Reads s.heap b e bs → d.canLay0 = true → e.canLay0 = true →
    A.units + d.depth < cLine → ordOk d e = true → Ob.RcOp (cmpOf op) A s a b (ordD op d e) := by
  intro d
  induction h : sizeOf d using Nat.strongRecOn generalizing d with
  | _ n ih =>
    intro e A s a b as bs ra rb ca cb hu hk
    subst h
    cases d with
    | int i =>
      cases e with
      | int j =>
        cases ra
        cases rb
        simp only [ordD]
        cases op with
        | lt => exact Ob.RcOp.lt_int _ _ _ _
        | le => exact Ob.RcOp.le_int _ _ _ _
        | gt => exact Ob.RcOp.gt_int _ _ _ _
        | ge => exact Ob.RcOp.ge_int _ _ _ _
        | _ => simp [COp.ord] at ho
      | _ => simp [ordOk] at hk
    | tuple xs =>
      cases e with
      | tuple ys =>
        simp only [ordOk] at hk
        simp only [PyData.canLay0] at ca cb
        cases ra with
        | @tuple a' o vs n' _ _ k1 k2 k3 k4 =>
          cases rb with
          | @tuple b' o' vs' n'' _ _ q1 q2 q3 q4 =>
            have l1 := readsAll_len k4
            have l2 := readsAll_len q4
            have l1' : vs.size = xs.length := by rw [← l1]; exact Array.length_toList.symm
            have l2' : vs'.size = ys.length := by rw [← l2]; exact Array.length_toList.symm
            have dd : (PyData.tuple xs).depth = PyData.depthAll xs + 1 := by simp only [PyData.depth]
            have he : ∀ j (h1 : j < vs.size) (h2 : j < vs'.size), SeqAt.EqAt A.in1 s vs[j] vs'[j] (PyData.eqv (xs.getD j .none) (ys.getD j .none)) := fun j h1 h2 => by
              obtain ⟨c1, r1⟩ := readsAll_get j (by simpa using h1) k4
              obtain ⟨c2, r2⟩ := readsAll_get j (by simpa using h2) q4
              refine SeqAt.eqAt_reads _ _ A.in1 s _ _ _ _ (by simpa using r1) (by simpa using r2) (canLay_get j ca) (canLay_get j cb) ?_
              have := depth_get (ds := xs) j
              have := Nat.min_le_left (xs.getD j .none).depth (ys.getD j .none).depth
              show A.units + 1 + _ < _
              omega
            have hr : ∀ j (h1 : j < vs.size) (h2 : j < vs'.size), PyData.eqv (xs.getD j .none) (ys.getD j .none) = false → Ob.RcOp (cmpOf op) A.in1 s vs[j] vs'[j] (ordD op (xs.getD j .none) (ys.getD j .none)) := fun j h1 h2 _ => by
              obtain ⟨c1, r1⟩ := readsAll_get j (by simpa using h1) k4
              obtain ⟨c2, r2⟩ := readsAll_get j (by simpa using h2) q4
              refine ih _ (getD_mem_size (by omega)) (xs.getD j .none) rfl (ys.getD j .none) A.in1 s _ _ c1 c2 (by simpa using r1) (by simpa using r2) (canLay_get j ca) (canLay_get j cb) ?_ (ordOks_get j hk (by omega) (by omega))
              have := depth_get (ds := xs) j
              show A.units + 1 + _ < _
              omega
            have fin := lex_ord op xs ys
            simp only [ordD]
            rw [← fin, ← l1', ← l2']
            have hu' : A.units < cLine := by omega
            cases op with
            | lt =>
              have e : zz .lt vs.size vs'.size = decide (vs.size < vs'.size) := by simp [zz, intC]
              rw [e]; exact Ob.RcOp.tuples_lt ⟨o, k1, k2, n', k3⟩ ⟨o', q1, q2, n'', q3⟩ hu' he hr
            | le =>
              have e : zz .le vs.size vs'.size = decide (vs.size ≤ vs'.size) := by simp [zz, intC]
              rw [e]; exact Ob.RcOp.tuples_le ⟨o, k1, k2, n', k3⟩ ⟨o', q1, q2, n'', q3⟩ hu' he hr
            | gt =>
              have e : zz .gt vs.size vs'.size = decide (vs.size > vs'.size) := by simp [zz, intC]
              rw [e]; exact Ob.RcOp.tuples_gt ⟨o, k1, k2, n', k3⟩ ⟨o', q1, q2, n'', q3⟩ hu' he hr
            | ge =>
              have e : zz .ge vs.size vs'.size = decide (vs.size ≥ vs'.size) := by simp [zz, intC]
              rw [e]; exact Ob.RcOp.tuples_ge ⟨o, k1, k2, n', k3⟩ ⟨o', q1, q2, n'', q3⟩ hu' he hr
            | _ => simp [COp.ord] at ho
      | _ => simp [ordOk] at hk
    | _ => cases e <;> simp [ordOk] at hk

/-! ### dicts, one of which is empty -/
section
variable {prog : Program} {w : World} {A : Around} {E : Value → Shared → Prop} {s : Shared}
theorem samePairs_raw {nm : String} {a b : Addr} {oa ob : Obj} {es es' : Array DictEntry} {ep ep' : Nat} {Q : Bool → Shared → Prop} (ha : (a == sysModules) = false) (hb : (b == sysModules) = false)
    (hoa : s.heap.get? a = some oa) (hda : oa.data = .dict es ep) (hob : s.heap.get? b = some ob) (hdb : ob.data = .dict es' ep') (hz : es.size = 0 ∨ es'.size = 0)
    (h : Q (es.size == 0 && es'.size == 0) s) : wpAny (model prog w) A (Builtin.Dict.samePairs nm a b) Q E s := by
  unfold Builtin.Dict.samePairs Builtin.Dict.showsAll
  rw [if_neg (show ¬ (a == sysModules) = true by rw [ha]; exact Bool.false_ne_true), if_neg (show ¬ (b == sysModules) = true by rw [hb]; exact Bool.false_ne_true)]
  refine wpAny_bind (wpAny_pure (wpAny_bind (wpAny_pure ?_)))
  refine wpAny_bind (wpAny_dictEntries hoa hda ?_)
  dsimp only
  refine wpAny_bind (wpAny_dictEntries hob hdb ?_)
  by_cases hsz : es.size = es'.size
  · rw [if_neg (by rw [hsz]; simp)]
    have h0 : es.size = 0 := by omega
    refine wpAny_bind (wpAny_dictEpoch hoa hda ?_)
    refine wpAny_bind ?_
    rw [Std.Legacy.Range.forIn_eq_forIn_range']
    simp only [Std.Legacy.Range.size, Nat.sub_zero, Nat.add_sub_cancel, Nat.div_one, h0, List.range'_zero, List.forIn_nil]
    refine wpAny_pure (wpAny_pure ?_)
    have : (es.size == 0 && es'.size == 0) = true := by rw [← hsz, h0]; rfl
    rw [this] at h
    exact h
  · rw [if_pos (by simpa using hsz)]
    have : (es.size == 0 && es'.size == 0) = false := by
      rcases hz with z | z
      · have : es'.size ≠ 0 := by omega
        simp [z, this]
      · have : es.size ≠ 0 := by omega
        simp [z, this]
    rw [this] at h
    exact wpAny_bind (wpAny_rule (wpAny_pure h))
theorem dictCmp_raw {wanted : Bool} {a b : Addr} {oa ob : Obj} {es es' : Array DictEntry} {ep ep' : Nat} {Q : Value → Shared → Prop} (ha : (a == sysModules) = false) (hb : (b == sysModules) = false)
    (hoa : s.heap.get? a = some oa) (xa : oa.ExactDict) (hda : oa.data = .dict es ep) (hob : s.heap.get? b = some ob) (xb : ob.ExactDict) (hdb : ob.data = .dict es' ep') (hz : es.size = 0 ∨ es'.size = 0)
    (hu : A.units < cLine) (h : Q (.bool ((es.size == 0 && es'.size == 0) == wanted)) s) : wpAny (model prog w) A (richCompare (if wanted then .Eq else .NotEq) (.ref a) (.ref b)) Q E s := by
  have ta : s.TypeIs (.ref a) "dict" := ⟨oa, hoa, xa.1⟩
  have tb : s.TypeIs (.ref b) "dict" := ⟨ob, hob, xb.1⟩
  cases wanted with
  | true =>
    refine wpAny_richCompare_same_room (op := .Eq) ta tb PySem.F.slot_dict_eq (wpAny_call_entry PySem.F.slot_dict_eq ta PySem.F.entry_dict_eq ?_ (PySem.F.args_dict_eq_2 _ _)) hu
    show wpAny _ _ (Builtin.Dict.dictSlotArgs "__eq__" ⟨[.ref a, .ref b], []⟩ >>= _) _ _ s
    refine wpAny_bind ?_
    unfold Builtin.Dict.dictSlotArgs
    refine wpAny_bind (wpAny_notOrdered_dict ta ?_)
    show wpAny _ _ (pure (Value.ref a, Value.ref b)) _ _ s
    refine wpAny_pure ?_
    refine wpAny_bind (wpAny_isInstance (T := "dict") tb PySem.F.sub_dict_dict ?_)
    simp only [Bool.not_true, Bool.false_eq_true, if_false]
    refine wpAny_bind (wpAny_pure (wpAny_bind (wpAny_pure ?_)))
    refine wpAny_bind (samePairs_raw ha hb hoa hda hob hdb hz ?_)
    exact wpAny_pure ⟨_, rfl, (fun x => nomatch x), h⟩
  | false =>
    refine wpAny_richCompare_same_room (op := .NotEq) ta tb PySem.F.slot_dict_ne (wpAny_call_entry PySem.F.slot_dict_ne ta PySem.F.entry_dict_ne ?_ (PySem.F.args_dict_ne_2 _ _)) hu
    show wpAny _ _ (Builtin.Dict.dictSlotArgs "__ne__" ⟨[.ref a, .ref b], []⟩ >>= _) _ _ s
    refine wpAny_bind ?_
    unfold Builtin.Dict.dictSlotArgs
    refine wpAny_bind (wpAny_notOrdered_dict ta ?_)
    show wpAny _ _ (pure (Value.ref a, Value.ref b)) _ _ s
    refine wpAny_pure ?_
    refine wpAny_bind (wpAny_isInstance (T := "dict") tb PySem.F.sub_dict_dict ?_)
    simp only [Bool.not_true, Bool.false_eq_true, if_false]
    refine wpAny_bind (wpAny_pure (wpAny_bind (wpAny_pure ?_)))
    refine wpAny_bind (samePairs_raw ha hb hoa hda hob hdb hz ?_)
    exact wpAny_pure ⟨_, rfl, (fun x => nomatch x), h⟩
end

section
variable {X : Cx} {hf : D → Int}
theorem ents_len : ∀ {es : List DictEntry} {ks : List D} {qs vs : List V}, Ents hf es ks qs vs → es.length = ks.length
  | [], [], [], [], _ => rfl
  | [], [], [], _ :: _, h => by cases h
  | [], [], _ :: _, _, h => by cases h
  | [], _ :: _, _, _, h => by cases h
  | _ :: _, [], _, _, h => by cases h
  | _ :: _, _ :: _, [], _, h => by cases h
  | _ :: _, _ :: _, _ :: _, [], h => by cases h
  | e :: es, k :: ks, q :: qs, v :: vs, h => by
    simp only [Ents] at h
    rw [List.length_cons, List.length_cons, ents_len h.2.2.2]
theorem invRaw {pins : List (Addr × Obj)} {s : Shared} {σ : L2.St} {H : Hp} {a : Addr} {es : Array DictEntry} {ep : Nat} (I : Inv X pins σ H s) (h : Rd H a (rawO a es ep)) : ∃ o, s.heap.get? a = some o ∧ o.ExactDict ∧ o.data = .dict es ep :=
  (h.ok I.hok).1
theorem rb_dict {H : Hp} {O : Addr → Prop} {x : V} {kvs : List (D × D)} (h : Rb hf H O (.dict kvs) x) :
    ∃ a es ep qs vs, x = .ref a ∧ Rd H a (rawO a es ep) ∧ (a == sysModules) = false ∧ es.size ≤ SZ ∧ Ents hf es.toList (kvs.map (·.1)) qs vs ∧ Rk hf H O kvs qs vs := by simpa only [Rb] using h
theorem raw_size {es : Array DictEntry} {kvs : List (D × D)} {qs vs : List V} (h : Ents hf es.toList (kvs.map (·.1)) qs vs) : es.size = kvs.length := by
  have := ents_len h
  rw [List.length_map, Array.length_toList] at this
  exact this
theorem opEqD (hu : X.A.units + 66 < cLine) (want : Bool) : OpR X (compareOp (if want then .Eq else .NotEq)) (rD2 hf true fun x y => (eqD x y).map fun t => .bool (t == want)) := by
  intro pins s σ H x y v u Q I rx ry h
  obtain ⟨O, dx, dy, d, dm, hx, hy, e, q⟩ := h
  obtain ⟨t, e1, rfl⟩ := Option.map_eq_some_iff.mp e
  have plain : SeqAt.shaped dx = true → SeqAt.shaped dy = true → t = PyData.eqv dx dy → wpAny (model X.prog X.w) X.A (compareOp (if want then .Eq else .NotEq) v u) (EP X pins σ Q) X.xe s := fun sx sy et => by
    have px := Rb.dp X.K dx x (SeqAt.canLay_of_shaped sx) hx
    have py := Rb.dp X.K dy y (SeqAt.canLay_of_shaped sy) hy
    subst et
    cases want with
    | true => exact op_eqD (by omega) pins s σ H x y v u Q I rx ry ⟨dx, dy, px, py, sx, sy, by have := q.bl; simpa using this⟩
    | false => exact op_neD (by omega) pins s σ H x y v u Q I rx ry ⟨dx, dy, px, py, sx, sy, by have := q.bl; simpa using this⟩
  have gen : ∀ {dx dy : D}, (if SeqAt.shaped dx && SeqAt.shaped dy then some (PyData.eqv dx dy) else none) = some t → SeqAt.shaped dx = true ∧ SeqAt.shaped dy = true ∧ t = PyData.eqv dx dy := fun {dx dy} h => by
    split at h
    · rename_i hs
      simp only [Bool.and_eq_true] at hs
      simp only [Option.some.injEq] at h
      exact ⟨hs.1, hs.2, h.symm⟩
    · cases h
  cases dx with
  | dict xs =>
    cases dy with
    | dict ys =>
      simp only [eqD] at e1
      split at e1
      · rename_i hz
        simp only [Option.some.injEq] at e1
        obtain ⟨a, es, ep, qs, vs, rfl, hr, hn, hs, he, hk⟩ := rb_dict hx
        obtain ⟨b, es', ep', qs', vs', rfl, hr', hn', hs', he', hk'⟩ := rb_dict hy
        obtain ⟨o, ho, xo, hd⟩ := invRaw I hr
        obtain ⟨o', ho', xo', hd'⟩ := invRaw I hr'
        have z1 := raw_size he
        have z2 := raw_size he'
        cases rx
        cases ry
        have em : ∀ l : List (D × D), l.isEmpty = (l.length == 0) := fun l => by cases l <;> rfl
        have et : t = (es.size == 0 && es'.size == 0) := by rw [z1, z2, ← em, ← em]; exact e1.symm
        have hz' : es.size = 0 ∨ es'.size = 0 := by
          rw [em, em, ← z1, ← z2] at hz
          simpa using hz
        have fin := dictCmp_raw (prog := X.prog) (w := X.w) (A := X.A) (E := X.xe) (s := s) (wanted := want) (Q := EP X pins σ Q) hn hn' ho xo hd ho' xo' hd' hz' (by omega) ⟨.bl _, H, I, rfl, by rw [← et]; exact q.bl⟩
        cases want with
        | true => exact fin
        | false => exact fin
      · cases e1
    | _ =>
      obtain ⟨sx, sy, et⟩ := gen (by simpa only [eqD] using e1)
      exact plain sx sy et
  | _ =>
    obtain ⟨sx, sy, et⟩ := gen (by simpa only [eqD] using e1)
    exact plain sx sy et
theorem opCmp (hu : X.A.units + 66 < cLine) (op : COp) : OpR X (compareOp (cmpOf op)) (rD2 hf true fun x y => (cmpD op x y).map .bool) := by
  have ordC : ∀ op : COp, op.ord = true → (∀ x y, cmpD op x y = if SeqAt.shaped x && SeqAt.shaped y && ordOk x y then some (ordD op x y) else none) → (∀ v u, compareOp (cmpOf op) v u = richCompare (cmpOf op) v u) → OpR X (compareOp (cmpOf op)) (rD2 hf true fun x y => (cmpD op x y).map .bool) := by
    intro op ho hc hr pins s σ H x y v u Q I rx ry h
    obtain ⟨O, dx, dy, d, dm, hx, hy, e, q⟩ := h
    simp only [hc] at e
    split at e
    · rename_i hs
      simp only [Bool.and_eq_true] at hs
      simp only [Option.map_some, Option.some.injEq] at e
      subst e
      have cx := SeqAt.canLay_of_shaped hs.1.1
      have cy := SeqAt.canLay_of_shaped hs.1.2
      obtain ⟨as, r1⟩ := Dp.reads I dx x v (Rb.dp X.K dx x cx hx) rx
      obtain ⟨bs, r2⟩ := Dp.reads I dy y u (Rb.dp X.K dy y cy hy) ry
      have dd := SeqAt.depth_of_shaped hs.1.1
      have R := ord_run op ho dx dy X.A s v u as bs r1 r2 cx cy (by omega) hs.2
      rw [hr]
      exact R X.prog X.w X.xe (EP X pins σ Q) ⟨.bl _, H, I, rfl, q.bl⟩
    · cases e
  cases op with
  | eq =>
    intro pins s σ H x y v u Q I rx ry h
    obtain ⟨O, dx, dy, d, dm, hx, hy, e, q⟩ := h
    exact opEqD (hf := hf) hu true pins s σ H x y v u Q I rx ry ⟨O, dx, dy, d, dm, hx, hy, by simpa [cmpD] using e, q⟩
  | ne =>
    intro pins s σ H x y v u Q I rx ry h
    obtain ⟨O, dx, dy, d, dm, hx, hy, e, q⟩ := h
    refine opEqD (hf := hf) hu false pins s σ H x y v u Q I rx ry ⟨O, dx, dy, d, dm, hx, hy, ?_, q⟩
    rw [← e]
    simp only [cmpD, Option.map_map]
    congr 1
    funext t
    simp
  | lt => exact ordC .lt rfl (fun _ _ => rfl) fun _ _ => rfl
  | le => exact ordC .le rfl (fun _ _ => rfl) fun _ _ => rfl
  | gt => exact ordC .gt rfl (fun _ _ => rfl) fun _ _ => rfl
  | ge => exact ordC .ge rfl (fun _ _ => rfl) fun _ _ => rfl

/-! ### in, not in -/
theorem readsMem {h : Heap} : ∀ {vs : List Value} {ds : List D} {as : List Addr} {v : Value}, v ∈ vs → ReadsAll h vs ds as → ∃ d ∈ ds, ∃ bs, Reads h v d bs
  | [], _, _, v, m, _ => by simp at m
  | u :: vs, _, _, v, m, .cons r t => by
    rcases List.mem_cons.mp m with e | m
    · subst e
      exact ⟨_, List.mem_cons_self, _, r⟩
    · obtain ⟨d, hd, bs, q⟩ := readsMem m t
      exact ⟨d, List.mem_cons_of_mem _ hd, bs, q⟩
end
end Ev
/-! in, subscripts, slices, truth. -/
namespace Ev
open PySem PySem.Spec PyProof.Rows L2
section
variable {X : Cx} {hf : D → Int}
theorem opMem (hu : X.A.units + 66 < cLine) (ng : Bool) : OpR X (compareOp (if ng then .NotIn else .In)) (rD2 hf true fun x y => (memD x y).map fun t => .bool (ng != t)) := by
  intro pins s σ H x y v u Q I rx ry h
  obtain ⟨O, dx, dy, d, dm, hx, hy, e, q⟩ := h
  obtain ⟨t, e1, rfl⟩ := Option.map_eq_some_iff.mp e
  have room : ∀ {ds : List D}, SeqAt.shaped dx = true → X.A.units + 1 + min (PyData.depthAll ds) dx.depth < cLine := fun {ds} sx => by
    have h1 := SeqAt.depth_of_shaped sx
    have h2 := Nat.min_le_right (PyData.depthAll ds) dx.depth
    omega
  cases dy with
  | list ds =>
    simp only [memD] at e1
    split at e1
    · rename_i hs
      simp only [Bool.and_eq_true] at hs
      simp only [Option.some.injEq] at e1
      obtain ⟨as, r1⟩ := Dp.reads I dx x v (Rb.dp X.K dx x (SeqAt.canLay_of_shaped hs.1) hx) rx
      obtain ⟨bs, r2⟩ := Dp.reads I (.list ds) y u (Rb.dp X.K _ y (SeqAt.canLay_of_shaped hs.2) hy) ry
      cases ng with
      | false => exact SeqAt.in_list_reads r2 r1 (SeqAt.canLay_of_shaped hs.2) (SeqAt.canLay_of_shaped hs.1) (room hs.1) ⟨.bl _, H, I, rfl, by have := q.bl; rw [← e1] at this; simpa using this⟩
      | true => exact SeqAt.notIn_list_reads r2 r1 (SeqAt.canLay_of_shaped hs.2) (SeqAt.canLay_of_shaped hs.1) (room hs.1) ⟨.bl _, H, I, rfl, by have := q.bl; rw [← e1] at this; simpa using this⟩
    · cases e1
  | tuple ds =>
    simp only [memD] at e1
    split at e1
    · rename_i hs
      simp only [Bool.and_eq_true] at hs
      simp only [Option.some.injEq] at e1
      obtain ⟨as, r1⟩ := Dp.reads I dx x v (Rb.dp X.K dx x (SeqAt.canLay_of_shaped hs.1) hx) rx
      obtain ⟨bs, r2⟩ := Dp.reads I (.tuple ds) y u (Rb.dp X.K _ y (SeqAt.canLay_of_shaped hs.2) hy) ry
      cases ng with
      | false => exact SeqAt.in_tuple_reads r2 r1 (SeqAt.canLay_of_shaped hs.2) (SeqAt.canLay_of_shaped hs.1) (room hs.1) ⟨.bl _, H, I, rfl, by have := q.bl; rw [← e1] at this; simpa using this⟩
      | true => exact SeqAt.notIn_tuple_reads r2 r1 (SeqAt.canLay_of_shaped hs.2) (SeqAt.canLay_of_shaped hs.1) (room hs.1) ⟨.bl _, H, I, rfl, by have := q.bl; rw [← e1] at this; simpa using this⟩
    · cases e1
  | _ => simp [memD] at e1

theorem atI_rs {H : Hp} {O : Addr → Prop} {ds : List D} {vs : List V} {i : Int} {d : D} (h : Rs hf H O ds vs) (e : atI ds i = some d) : ∃ v, L2.atI vs i = some v ∧ Rp hf H O d v := by
  unfold atI L2.atI at e
  obtain ⟨j, hj, hd⟩ := Option.bind_eq_some_iff.mp e
  obtain ⟨v, hv, rv⟩ := h.get hd
  refine ⟨v, ?_, rv⟩
  unfold L2.atI
  rw [h.length, hj]
  exact hv
theorem ixD_ok : IxR X (rD2 hf false ixD) := by
  intro value slice pins s σ H x y v u Q I rx ry h hsub
  obtain ⟨O, dx, dy, d, dm, hx, hy, e, q⟩ := h
  cases dx with
  | list ds =>
    cases dy with
    | int i =>
      simp only [ixD] at e
      obtain ⟨a, vs, rfl, hH, hs⟩ := rb_lst hx
      obtain ⟨w, hw, rw'⟩ := atI_rs hs e
      exact ix_list value slice pins s σ H _ _ v u Q I rx ry ⟨a, vs, i, w, rfl, rb_int hy, SqL.of hH, hw, q.self rw' (.inl rfl)⟩ hsub
    | _ => simp [ixD] at e
  | tuple ds =>
    cases dy with
    | int i =>
      simp only [ixD] at e
      obtain ⟨a, vs, rfl, hH, hs⟩ := rb_seq hx
      obtain ⟨w, hw, rw'⟩ := atI_rs hs e
      exact ix_tup value slice pins s σ H _ _ v u Q I rx ry ⟨a, vs, i, w, rfl, rb_int hy, SqT.of hH, hw, q.self rw' (.inl rfl)⟩ hsub
    | _ => simp [ixD] at e
  | _ => cases dy <;> simp [ixD] at e

theorem cut_rs {H : Hp} {O : Addr → Prop} {ds : List D} {vs : List V} {lo hi : Option Int} (h : Rs hf H O ds vs) : Rs hf H O (cut ds lo hi) (cutV vs lo hi) := by
  unfold cut cutV
  rw [h.length]
  exact (h.drop _).take _
theorem cut_whole {ds : List D} {lo hi : Option Int} (h : HT.sIx ds.length 0 lo = 0 ∧ HT.sIx ds.length ds.length hi = ds.length) : cut ds lo hi = ds := by
  unfold cut
  rw [h.1, h.2]
  simp
def rSlD (hf : D → Int) : V → Option Int → Option Int → Hp → VK → Prop := fun x lo hi H Q => ∃ O dx d, DomO O H ∧ Rb hf H O dx x ∧ slD lo hi dx = some d ∧ Res hf true H O d Q
theorem slD_ok : SlR X (rSlD hf) := by
  intro pins s σ H x v vl vu lo hi sl Q I rx hs pl pu h
  obtain ⟨O, dx, d, dm, hx, e, q⟩ := h
  cases dx with
  | list ds =>
    simp only [slD, Option.some.injEq] at e
    subst e
    obtain ⟨a, vs, rfl, hH, hr⟩ := rb_lst hx
    exact sl_list pins s σ H _ v vl vu lo hi sl Q I rx hs pl pu ⟨a, vs, rfl, SqL.of hH, fun p np => q.lst dm (cut_rs hr) np⟩
  | tuple ds =>
    simp only [slD, Option.some.injEq] at e
    subst e
    have px := rb_tup_p dm hx
    obtain ⟨a, vs, rfl, hH, hr⟩ := rb_seq hx
    have hl := hr.length
    refine sl_tupA pins s σ H _ v vl vu lo hi sl Q I rx hs pl pu ⟨a, vs, rfl, SqT.of hH, fun hw => ?_, fun _ p np => q.tup dm (cut_rs hr) np⟩
    rw [hl] at hw
    rw [cut_whole hw] at q
    exact q.self px (.inr rfl)
  | _ => simp [slD] at e

/-! ### a[::-1] -/
theorem adjust_rev (n : Nat) : Builtin.Slice.sliceAdjust none none (-1) (n : Int) = ((n : Int) - 1, -1) := by
  unfold Builtin.Slice.sliceAdjust
  simp
theorem places_rev (n : Nat) : Builtin.Slice.slicePlaces ((n : Int) - 1) (-1) (-1) = n := by
  unfold Builtin.Slice.slicePlaces
  have h1 : ¬ ((-1 : Int) > 0) := by omega
  simp only [h1, if_false]
  split <;> simp <;> omega
theorem fm_map {f : Nat → Option Value} : ∀ L : List Nat, (∀ m ∈ L, ∃ v, f m = some v) → L.filterMap f = L.map fun m => (f m).getD .none
  | [], _ => rfl
  | m :: L, h => by
    obtain ⟨v, e⟩ := h m List.mem_cons_self
    rw [List.filterMap_cons, e, List.map_cons, fm_map L fun k hk => h k (List.mem_cons_of_mem _ hk), e]
    rfl
theorem rev_pick (xs : Array Value) : ((List.range xs.size).filterMap fun (m : Nat) => xs[(((xs.size : Int) - 1) + (m : Int) * (-1)).toNat]?).toArray = xs.toList.reverse.toArray := by
  congr 1
  have at_ : ∀ m, m < xs.size → xs[(((xs.size : Int) - 1) + (m : Int) * (-1)).toNat]? = some (xs.toList.reverse.getD m .none) := fun m hm => by
    have e : (((xs.size : Int) - 1) + (m : Int) * (-1)).toNat = xs.size - 1 - m := by omega
    rw [e, List.getD_eq_getElem?_getD, List.getElem?_reverse (by simpa using hm)]
    simp only [Array.length_toList, Array.getElem?_toList]
    rw [Array.getElem?_eq_getElem (by omega)]
    rfl
  rw [fm_map _ fun m hm => ⟨_, at_ m (List.mem_range.mp hm)⟩]
  refine List.ext_getElem? fun i => ?_
  rw [List.getElem?_map]
  by_cases hi : i < xs.size
  · rw [List.getElem?_range hi, Option.map_some, at_ i hi, Option.getD_some, List.getD_eq_getElem?_getD, List.getElem?_eq_getElem (by simpa using hi)]
    rfl
  · rw [List.getElem?_eq_none (by simpa using hi), List.getElem?_eq_none (by simpa using hi)]
    rfl
theorem getItem_tuple_rev {prog : Program} {w : World} {A : Around} {E : Value → Shared → Prop} {s : Shared} {t sl : Addr} {items : Array Value} {vs : Value} {Q : Value → Shared → Prop} (ht : IsTup s.heap t items) (hs : s.heap.IsSliceOf sl .none .none vs) (pv : IsPart vs (some (-1)))
    (h : Q (.ref s.heap.objs.size) { s with heap := s.heap.push { cls := .type "tuple", data := .seq items.toList.reverse.toArray } })
    (hsz : items.size ≤ sizeLine) : wpAny (model prog w) A (getItem (.ref t) (.ref sl)) Q E s := by
  have htake : sizeOk (.seq items.toList.reverse.toArray) := by
    show items.toList.reverse.toArray.size ≤ sizeLine
    rw [List.size_toArray, List.length_reverse, Array.length_toList]
    exact hsz
  obtain ⟨os, hos, hcs, hds⟩ := id hs
  have hTs : s.TypeIs (.ref sl) "slice" := ⟨os, hos, hcs⟩
  unfold getItem
  try with_reducible refine wpAny_holding ?_
  first | refine wpAny_bind (wpAny_pure ?_) | skip
  refine wpAny_bind (wpAny_sequenceKey ht.typeIs (by decide) ?_)
  refine wpAny_bind (wpAny_callSpecial?_slot (name := Str.ofString "__getitem__") ht.typeIs PyProof.Rows.slot_tuple_getitem
    (wpAny_call_entry PyProof.Rows.slot_tuple_getitem ht.typeIs entry_tuple_getitem ?_ (args_tuple_getitem _ _)))
  show wpAny _ _ (Builtin.Tuple.tupleItemsOf (.ref t) >>= _) _ _ s
  refine wpAny_bind (tupleItemsOf_ ht ?_)
  refine wpAny_bind (wpAny_typeOf hTs ?_)
  rw [if_pos (by decide)]
  refine wpAny_bind ?_
  unfold Builtin.Slice.sliceApplied Builtin.Slice.sliceFields
  refine wpAny_bind (wpAny_bind (wpAny_field hos hds (x := .none) rfl (wpAny_bind (wpAny_field hos hds (x := .none) rfl (wpAny_bind (wpAny_field hos hds (x := vs) rfl (wpAny_pure ?_)))))))
  refine wpAny_bind (HT.slicePart_ pv ?_)
  show wpAny _ _ (if ((-1 : Int) == 0) = true then _ else _) _ _ s
  rw [if_neg (by decide)]
  refine wpAny_bind (HT.slicePart_ .none (wpAny_bind (HT.slicePart_ .none (wpAny_bind (wpAny_pure ?_)))))
  show wpAny _ _ (match Builtin.Slice.sliceAdjust none none (-1) (items.size : Int) with | (lo, hi) => pure (lo, (-1 : Int), Builtin.Slice.slicePlaces lo hi (-1))) _ _ s
  rw [adjust_rev]
  show wpAny _ _ (pure (((items.size : Int) - 1), (-1 : Int), Builtin.Slice.slicePlaces ((items.size : Int) - 1) (-1) (-1))) _ _ s
  rw [places_rev]
  refine wpAny_pure ?_
  show wpAny _ _ (if (((items.size : Int) - 1) == 0 && (-1 : Int) == 1 && items.size == items.size) = true then _ else _) _ _ s
  have e2 : (((-1 : Int) == 1) : Bool) = false := by decide
  rw [if_neg (by rw [e2]; simp), rev_pick]
  first
    | exact wpAny_bind (m := Builtin.Tuple.tupleExact _) (wpAny_newObj_type (wpAny_pure ⟨_, rfl, wpAny_pure h⟩) htake)
    | exact wpAny_bind (m := Builtin.Tuple.tupleExact _) (wpAny_newObj_type (wpAny_bind (wpAny_pure (wpAny_pure ⟨_, rfl, wpAny_pure h⟩))) htake)
    | exact wpAny_bind (wpAny_bind (m := Builtin.Tuple.tupleExact _) (wpAny_newObj_type (wpAny_pure (wpAny_pure ⟨_, rfl, wpAny_pure h⟩)) htake))
    | exact wpAny_bind (wpAny_bind (m := Builtin.Tuple.tupleExact _) (wpAny_newObj_type (wpAny_pure ⟨_, rfl, wpAny_pure h⟩) htake))
def tRevD (hf : D → Int) (te : TE) : TE := fun σ H Q => te σ H fun x H1 => rD1 hf true revD x H1 Q
theorem pe_revD {ex : Expr} {te : TE} {k : Nat} {p1 p2 p3 pos : Pos} (he : PE X ex te) : PE X (.Subscript ex (.Slice none none (some (.UnaryOp .USub (.Constant (.int 1) k p1) p2)) p3) pos) (tRevD hf te) := by
  refine ⟨fun pins s σ H Q I h => ?_⟩
  refine Subscript_ (thn (he.run pins s σ H _ I h) fun v s1 ⟨x, H1, I1, r1, q1⟩ => ?_)
  have hst : PO X (some (.UnaryOp .USub (.Constant (.int 1) k p1) p2)) (tPart (tUn (rU fun i => .int (-i)) (tC (.int 1)))) := po_some (pe_un un_neg pe_int)
  refine wpAny_Slice (thn (po_none.run pins s1 σ H1 (fun o H2 => o = none ∧ H2 = H1) I1 ⟨rfl, rfl⟩) fun vl s2 ⟨l, H2, I2, pl, el, e2⟩ => ?_)
  subst el e2
  refine thn (po_none.run pins s2 σ H2 (fun o H3 => o = none ∧ H3 = H2) I2 ⟨rfl, rfl⟩) fun vu s3 ⟨u, H3, I3, pu, eu, e3⟩ => ?_
  subst eu e3
  refine thn (hst.run pins s3 σ H3 (fun o H4 => o = some (-1) ∧ H4 = H3) I3 ⟨1, rfl, -1, rfl, rfl, rfl⟩) fun vs s4 ⟨o, H4, I4, ps, eo, e4⟩ => ?_
  subst eo e4
  have I5 : L2.Inv X pins σ H4 { s4 with heap := s4.heap.push { cls := .type "slice", data := .fields #[vl, vu, vs] } } := I4.kept (t' := s4.toks) fun b ob q => Heap.get?_push_of_some _ q
  obtain ⟨O, dx, d, dm, hx, e, q⟩ := q1
  show wpAny (model X.prog X.w) X.A (subscriptTail ex (.Slice none none (some (.UnaryOp .USub (.Constant (.int 1) k p1) p2)) p3) v (.ref s4.heap.objs.size)) (EP X pins σ Q) X.xe { s4 with heap := s4.heap.push { cls := .type "slice", data := .fields #[vl, vu, vs] } }
  cases dx with
  | list ds =>
    simp only [revD, Option.some.injEq] at e
    subst e
    obtain ⟨a, xs, rfl, hH, hr⟩ := rb_lst hx
    cases r1
    obtain ⟨its, r, ht, hz⟩ := I5.list (SqL.of hH)
    have hlen := r.length
    refine tail_any (ops := [.ref a, .ref s4.heap.objs.size]) ht.isList.typeIs (PySem.slot_list_getitem.lookup) ?_ (by with_unfolding_all rfl)
    refine wpAny_getItem_list_slice ht.isList (Heap.IsSliceOf.new _ vl vu vs) pl pu ps (by decide) ?_ (by rw [List.size_toArray]; omega)
    rw [PySem.W.krv_pick]
    refine ⟨.ref _, _, I5.laid (t' := s4.toks) (o := .lst xs.reverse) (fun b ob q => Heap.get?_push_of_some _ q) (Nat.le_refl _) ?_, rfl, q.lst dm hr.reverse (I5.hok.fresh (Nat.le_refl _))⟩
    exact ⟨by rw [List.length_reverse]; exact hz, _, 0, r.reverse, Heap.get?_push_size _ rfl⟩
  | tuple ds =>
    simp only [revD, Option.some.injEq] at e
    subst e
    obtain ⟨a, xs, rfl, hH, hr⟩ := rb_seq hx
    cases r1
    obtain ⟨its, r, ht, hz⟩ := I5.tuple (SqT.of hH)
    have hlen := r.length
    cases pl
    cases pu
    refine tail_any (ops := [.ref a, .ref s4.heap.objs.size]) ht.typeIs (PyProof.Rows.slot_tuple_getitem.lookup) ?_ (by with_unfolding_all rfl)
    refine getItem_tuple_rev ht (Heap.IsSliceOf.new _ .none .none vs) ps ?_ (by rw [List.size_toArray]; omega)
    refine ⟨.ref _, _, I5.laid (t' := s4.toks) (o := .tup xs.reverse) (fun b ob q => Heap.get?_push_of_some _ q) (Nat.le_refl _) ?_, rfl, q.tup dm hr.reverse (I5.hok.fresh (Nat.le_refl _))⟩
    exact ⟨by rw [List.length_reverse]; exact hz, _, r.reverse, IsTup.new _ _⟩
  | _ => simp [revD] at e

/-! ### truth -/
theorem truV {K : PySem.W.Frag} {H : Hp} {O : Addr → Prop} {d : D} {x : V} {k : Bool} (h : Rb hf H O d x) (e : tru d = some k) : TruV K x H k := by
  have em : ∀ {ds : List D} {vs : List V}, Rs hf H O ds vs → (!ds.isEmpty) = (!vs.isEmpty) := fun {ds vs} hs => by
    have := hs.length
    cases ds <;> cases vs <;> simp at this <;> rfl
  cases d with
  | none =>
    simp only [Rb] at h
    simp only [tru, Option.some.injEq] at e
    subst h
    exact e.symm
  | bool b =>
    simp only [Rb] at h
    simp only [tru, Option.some.injEq] at e
    subst h
    exact e.symm
  | int i =>
    simp only [Rb] at h
    simp only [tru, Option.some.injEq] at e
    subst h
    exact e.symm
  | str z =>
    simp only [Rb] at h
    simp only [tru] at e
    split at e
    · rename_i hz
      simp only [Option.some.injEq] at e
      subst h
      refine ⟨by rw [szL]; exact hz, ?_⟩
      rw [← e]
      cases z.length <;> simp <;> omega
    · cases e
  | list ds =>
    simp only [tru, Option.some.injEq] at e
    obtain ⟨a, vs, rfl, hH, hs⟩ := rb_lst h
    exact .inl ⟨vs, SqL.of hH, by rw [← e]; exact em hs⟩
  | tuple ds =>
    simp only [tru, Option.some.injEq] at e
    obtain ⟨a, vs, rfl, hH, hs⟩ := rb_seq h
    exact .inr (.inl ⟨vs, SqT.of hH, by rw [← e]; exact em hs⟩)
  | dict kvs => simp [tru] at e
/-- isinstance with a built-in type -/
def tyName : Ty → String
  | .int => "int"
  | .bool => "bool"
  | .tuple => "tuple"
  | .list => "list"
  | .str => "str"
  | .dict => "dict"
def dTy : D → String
  | .none => "NoneType"
  | .bool _ => "bool"
  | .int _ => "int"
  | .str _ => "str"
  | .list _ => "list"
  | .tuple _ => "tuple"
  | .dict _ => "dict"
theorem kit_D {K : PySem.W.Frag} (t : Ty) (d : D) : PySem.W.kitOne K (.type (dTy d)) (.type (tyName t)) = some (isD t d) := by
  refine kit_ty ?_
  cases t <;> cases d <;> simp only [dTy, tyName, isD] <;> decide +kernel
theorem call_isD (t : Ty) : CallR X (.builtin "isinstance") (fun xs H Q => ∃ O x d, xs = [x, .ty (tyName t)] ∧ Rb hf H O d x ∧ Q (.bl (isD t d)) H) := by
  intro pins s σ H xs us Q I r h
  obtain ⟨O, x, d, rfl, hx, q⟩ := h
  have kit := kit_D (K := X.K) t d
  cases d with
  | none =>
    simp only [Rb] at hx
    subst hx
    exact call_isi pins s σ H _ us Q I r ⟨.non, _, _, _, _, rfl, .ty _, .base .non, kit, q⟩
  | bool b =>
    simp only [Rb] at hx
    subst hx
    exact call_isi pins s σ H _ us Q I r ⟨_, _, _, _, _, rfl, .ty _, .base (.bl b), kit, q⟩
  | int i =>
    simp only [Rb] at hx
    subst hx
    exact call_isi pins s σ H _ us Q I r ⟨_, _, _, _, _, rfl, .ty _, .base (.int i), kit, q⟩
  | str z =>
    simp only [Rb] at hx
    subst hx
    exact call_isi pins s σ H _ us Q I r ⟨_, _, _, _, _, rfl, .ty _, .base (.str z), kit, q⟩
  | list ds =>
    obtain ⟨a, vs, rfl, hH, hs⟩ := rb_lst hx
    exact call_isi pins s σ H _ us Q I r ⟨_, _, _, _, _, rfl, .ty _, .base (.lst hH), kit, q⟩
  | tuple ds =>
    obtain ⟨a, vs, rfl, hH, hs⟩ := rb_seq hx
    exact call_isi pins s σ H _ us Q I r ⟨_, _, _, _, _, rfl, .ty _, .base (.tup hH), kit, q⟩
  | dict kvs =>
    obtain ⟨a, es, ep, qs, vs, rfl, hr, hn, hz, he, hk⟩ := rb_dict hx
    obtain ⟨o, ho, xo, hd⟩ := invRaw I hr
    obtain ⟨u1, u2, rfl, r1, r2⟩ := vals2 r
    cases r1
    cases r2
    exact PySem.W.kia_one PySem.W.kitx_dict I.kIn ⟨o, ho, xo.1⟩ (kit) (fun z => nomatch z) fun tk => ⟨.bl _, H, I.tok tk, rfl, q⟩
end
end Ev
/-! Built-in functions over data. -/
namespace Ev
open PySem PySem.Spec PyProof.Rows L2
section
variable {X : Cx} {hf : D → Int} {pins : List (Addr × Obj)} {σ : L2.St} {H : Hp} {s : Shared} {O : Addr → Prop}
theorem ents_keys : ∀ {es : List DictEntry} {ks : List D} {qs vs : List V}, Ents hf es ks qs vs → Vals qs (es.map (·.key)) ∧ Vals vs (es.map (·.val))
  | [], [], [], [], _ => ⟨.nil, .nil⟩
  | [], [], [], _ :: _, h => by cases h
  | [], [], _ :: _, _, h => by cases h
  | [], _ :: _, _, _, h => by cases h
  | _ :: _, [], _, _, h => by cases h
  | _ :: _, _ :: _, [], _, h => by cases h
  | _ :: _, _ :: _, _ :: _, [], h => by cases h
  | e :: es, k :: ks, q :: qs, v :: vs, h => by
    simp only [Ents] at h
    obtain ⟨⟨a, h1, h2⟩, _, h3, h4⟩ := h
    obtain ⟨i1, i2⟩ := ents_keys h4
    refine ⟨.cons ?_ i1, .cons h3 i2⟩
    subst h2
    exact h1
mutual
theorem Rb.reads (I : L2.Inv X pins σ H s) : ∀ (d : D) (v : V) (u : Value), Rb hf H O d v → RelV v u → ∃ as, Reads s.heap u d as ∧ ∀ a ∈ as, H a ≠ none
  | .none, v, u, h, r => by
    simp only [Rb] at h
    subst h
    cases r
    exact ⟨_, .none, fun a m => by simp at m⟩
  | .bool b, v, u, h, r => by
    simp only [Rb] at h
    subst h
    cases r
    exact ⟨_, .bool b, fun a m => by simp at m⟩
  | .int i, v, u, h, r => by
    simp only [Rb] at h
    subst h
    obtain ⟨t, rfl⟩ := r
    exact ⟨_, .int i t, fun a m => by simp at m⟩
  | .str z, v, u, h, r => by
    simp only [Rb] at h
    subst h
    obtain ⟨t, rfl⟩ := r
    exact ⟨_, .str z t, fun a m => by simp at m⟩
  | .list ds, v, u, h, r => by
    simp only [Rb] at h
    obtain ⟨a, vs, rfl, hH, hs⟩ := h
    cases r
    obtain ⟨its, rv, ⟨o, n, ho, hc, _, hd⟩, _⟩ := I.list (SqL.of hH)
    obtain ⟨as, q1, q2⟩ := Rs.reads I ds vs its hs rv
    refine ⟨_, .list ho hc hd q1, fun b m => ?_⟩
    rcases List.mem_cons.mp m with e | m
    · rw [e, hH]; simp
    · exact q2 b m
  | .tuple ds, v, u, h, r => by
    simp only [Rb] at h
    obtain ⟨a, vs, rfl, hH, hs⟩ := h
    cases r
    obtain ⟨its, rv, ⟨o, ho, hc, n, hd⟩, _⟩ := I.tuple (SqT.of hH)
    obtain ⟨as, q1, q2⟩ := Rs.reads I ds vs its hs rv
    exact ⟨_, .tuple ho hc hd q1, q2⟩
  | .dict kvs, v, u, h, r => by
    simp only [Rb] at h
    obtain ⟨a, es, ep, qs, vs, rfl, hr, hn, hz, he, hk⟩ := h
    cases r
    obtain ⟨o, ho, xo, hd⟩ := invRaw I hr
    obtain ⟨k1, k2⟩ := ents_keys he
    obtain ⟨as, bs, r1, r2, n1, n2⟩ := Rk.reads I kvs qs vs _ _ hk k1 k2
    refine ⟨_, .dict ho xo.1 hd r1 r2, fun b m => ?_⟩
    rcases List.mem_append.mp m with m | m
    · rcases List.mem_cons.mp m with e | m
      · obtain ⟨o', ho'⟩ := rdThere hr
        rw [e, ho']; simp
      · exact n1 b m
    · exact n2 b m
theorem Rs.reads (I : L2.Inv X pins σ H s) : ∀ (ds : List D) (vs : List V) (us : List Value), Rs hf H O ds vs → Vals vs us → ∃ as, ReadsAll s.heap us ds as ∧ ∀ a ∈ as, H a ≠ none
  | [], vs, us, h, r => by
    simp only [Rs] at h
    subst h
    cases r
    exact ⟨_, .nil, fun a m => by simp at m⟩
  | d :: ds, vs, us, h, r => by
    simp only [Rs] at h
    obtain ⟨v, vr, rfl, h1, _, h2⟩ := h
    cases r with
    | cons r1 r2 =>
      obtain ⟨as, q1, n1⟩ := Rb.reads I d v _ h1 r1
      obtain ⟨bs, q2, n2⟩ := Rs.reads I ds vr _ h2 r2
      exact ⟨_, .cons q1 q2, fun a m => (List.mem_append.mp m).elim (n1 a) (n2 a)⟩
theorem Rk.reads (I : L2.Inv X pins σ H s) : ∀ (kvs : List (D × D)) (qs vs : List V) (us ws : List Value), Rk hf H O kvs qs vs → Vals qs us → Vals vs ws →
    ∃ as bs, ReadsAll s.heap us (kvs.map (·.1)) as ∧ ReadsAll s.heap ws (kvs.map (·.2)) bs ∧ (∀ a ∈ as, H a ≠ none) ∧ ∀ a ∈ bs, H a ≠ none
  | [], qs, vs, us, ws, h, r1, r2 => by
    simp only [Rk] at h
    obtain ⟨e1, e2⟩ := h
    subst e1 e2
    cases r1
    cases r2
    exact ⟨_, _, .nil, .nil, fun a m => by simp at m, fun a m => by simp at m⟩
  | (k, d) :: kvs, qs, vs, us, ws, h, r1, r2 => by
    simp only [Rk] at h
    obtain ⟨q, qr, v, vr, rfl, rfl, h1, _, h2, _, h3⟩ := h
    cases r1 with
    | cons a1 a2 =>
      cases r2 with
      | cons b1 b2 =>
        obtain ⟨as, x1, n1⟩ := Rb.reads I k q _ h1 a1
        obtain ⟨bs, x2, n2⟩ := Rb.reads I d v _ h2 b1
        obtain ⟨as', bs', y1, y2, m1, m2⟩ := Rk.reads I kvs qr vr _ _ h3 a2 b2
        exact ⟨_, _, .cons x1 y1, .cons x2 y2, fun a m => (List.mem_append.mp m).elim (n1 a) (m1 a), fun a m => (List.mem_append.mp m).elim (n2 a) (m2 a)⟩
end
end

/-- arguments that are looked at -/
def Bs (hf : D → Int) (H : Hp) (O : Addr → Prop) : List D → List V → Prop
  | [], [] => True
  | d :: ds, v :: vs => Rb hf H O d v ∧ Bs hf H O ds vs
  | _, _ => False
theorem Bs.grow {hf : D → Int} {H H' : Hp} {O : Addr → Prop} (g : Same H H') : ∀ {ds : List D} {vs : List V}, Bs hf H O ds vs → Bs hf H' O ds vs
  | [], [], h => trivial
  | [], _ :: _, h => h
  | _ :: _, [], h => h
  | d :: ds, v :: vs, h => ⟨h.1.same g, Bs.grow g h.2⟩
theorem Bs.one {hf : D → Int} {H : Hp} {O : Addr → Prop} {d : D} {vs : List V} (h : Bs hf H O [d] vs) : ∃ v, vs = [v] ∧ Rb hf H O d v := by
  match vs, h with
  | [v], h => exact ⟨v, rfl, h.1⟩
  | [], h => cases h
  | _ :: _ :: _, h => cases h.2
theorem Bs.two {hf : D → Int} {H : Hp} {O : Addr → Prop} {d e : D} {vs : List V} (h : Bs hf H O [d, e] vs) : ∃ v w, vs = [v, w] ∧ Rb hf H O d v ∧ Rb hf H O e w := by
  match vs, h with
  | [v, w], h => exact ⟨v, w, rfl, h.1, h.2.1⟩
  | [], h => cases h
  | [_], h => cases h.2
  | _ :: _ :: _ :: _, h => cases h.2.2
/-- a built-in's reading -/
def rBI (hf : D → Int) (f : List D → Option D) : List V → Hp → VK → Prop := fun xs H Q => ∃ O ds d, DomO O H ∧ Bs hf H O ds xs ∧ f ds = some d ∧ Res hf true H O d Q

section
variable {X : Cx} {hf : D → Int}
theorem bi_len : CallR X (.builtin "len") (rBI hf (biD .len)) := by
  intro pins s σ H xs us Q I r h
  obtain ⟨O, ds, d, dm, hb, e, q⟩ := h
  match ds, e with
  | [.list xs], e =>
    simp only [biD, Option.some.injEq] at e
    subst e
    obtain ⟨v, rfl, hx⟩ := hb.one
    obtain ⟨a, vs, rfl, hH, hs⟩ := rb_lst hx
    exact call_len_seq pins s σ H _ us Q I r ⟨a, vs, rfl, .inl (SqL.of hH), by rw [hs.length]; exact q.int⟩
  | [.tuple xs], e =>
    simp only [biD, Option.some.injEq] at e
    subst e
    obtain ⟨v, rfl, hx⟩ := hb.one
    obtain ⟨a, vs, rfl, hH, hs⟩ := rb_seq hx
    exact call_len_seq pins s σ H _ us Q I r ⟨a, vs, rfl, .inr (SqT.of hH), by rw [hs.length]; exact q.int⟩
theorem bi_tuple : CallR X (.type "tuple") (rBI hf (biD .tuple)) := by
  intro pins s σ H xs us Q I r h
  obtain ⟨O, ds, d, dm, hb, e, q⟩ := h
  match ds, e with
  | [.list xs], e =>
    simp only [biD, Option.some.injEq] at e
    subst e
    obtain ⟨v, rfl, hx⟩ := hb.one
    obtain ⟨a, vs, rfl, hH, hs⟩ := rb_lst hx
    exact call_tuple_of pins s σ H _ us Q I r ⟨a, vs, rfl, .inl ⟨SqL.of hH, fun p np => q.tup dm hs np⟩⟩
  | [.tuple xs], e =>
    simp only [biD, Option.some.injEq] at e
    subst e
    obtain ⟨v, rfl, hx⟩ := hb.one
    have px := rb_tup_p dm hx
    obtain ⟨a, vs, rfl, hH, hs⟩ := rb_seq hx
    exact call_tuple_of pins s σ H _ us Q I r ⟨a, vs, rfl, .inr ⟨SqT.of hH, q.self px (.inr rfl)⟩⟩
theorem bi_list : CallR X (.type "list") (rBI hf (biD .list)) := by
  intro pins s σ H xs us Q I r h
  obtain ⟨O, ds, d, dm, hb, e, q⟩ := h
  match ds, e with
  | [.list xs], e =>
    simp only [biD, Option.some.injEq] at e
    subst e
    obtain ⟨v, rfl, hx⟩ := hb.one
    obtain ⟨a, vs, rfl, hH, hs⟩ := rb_lst hx
    exact call_list_of pins s σ H _ us Q I r ⟨a, vs, rfl, .inl (SqL.of hH), fun p np => q.lst dm hs np⟩
  | [.tuple xs], e =>
    simp only [biD, Option.some.injEq] at e
    subst e
    obtain ⟨v, rfl, hx⟩ := hb.one
    obtain ⟨a, vs, rfl, hH, hs⟩ := rb_seq hx
    exact call_list_of pins s σ H _ us Q I r ⟨a, vs, rfl, .inr (SqT.of hH), fun p np => q.lst dm hs np⟩
theorem bi_int : CallR X (.type "int") (rBI hf (biD .int)) := by
  intro pins s σ H xs us Q I r h
  obtain ⟨O, ds, d, dm, hb, e, q⟩ := h
  match ds, e with
  | [.int i], e =>
    simp only [biD, Option.some.injEq] at e
    subst e
    obtain ⟨v, rfl, hx⟩ := hb.one
    exact call_int1 pins s σ H _ us Q I r (.inl ⟨i, by rw [rb_int hx], q.int⟩)
  | [.bool b], e =>
    simp only [biD, Option.some.injEq] at e
    subst e
    obtain ⟨v, rfl, hx⟩ := hb.one
    exact call_int1 pins s σ H _ us Q I r (.inr ⟨b, by rw [rb_bl hx], q.int⟩)
theorem bi_abs : CallR X (.builtin "abs") (rBI hf (biD .abs)) := by
  intro pins s σ H xs us Q I r h
  obtain ⟨O, ds, d, dm, hb, e, q⟩ := h
  match ds, e with
  | [.int i], e =>
    simp only [biD, Option.some.injEq] at e
    subst e
    obtain ⟨v, rfl, hx⟩ := hb.one
    exact call_abs pins s σ H _ us Q I r ⟨i, by rw [rb_int hx], q.int⟩
theorem bi_sum (hc : X.calm = true) : CallR X (.builtin "sum") (rBI hf (biD .sum)) := by
  intro pins s σ H xs us Q I r h
  obtain ⟨O, ds, d, dm, hb, e, q⟩ := h
  match ds, e with
  | [.list xs], e =>
    simp only [biD, Option.map_eq_some_iff] at e
    obtain ⟨ns, e1, rfl⟩ := e
    obtain ⟨v, rfl, hx⟩ := hb.one
    obtain ⟨a, vs, rfl, hH, hs⟩ := rb_lst hx
    have ev := hs.ints e1
    subst ev
    exact cr_sum hc pins s σ H _ us Q I r ⟨a, ns, rfl, SqL.of hH, q.int⟩
/-! max, min -/
theorem maxL_mem : ∀ (m : Int) (l : List Int), maxL m l ∈ m :: l ∧ ∀ y ∈ m :: l, y ≤ maxL m l
  | m, [] => by simp [maxL]
  | m, x :: l => by
    obtain ⟨h1, h2⟩ := maxL_mem (if m < x then x else m) l
    simp only [maxL]
    refine ⟨?_, fun y hy => ?_⟩
    · rcases List.mem_cons.mp h1 with e | e
      · rw [e]
        split
        · simp
        · simp
      · exact List.mem_cons_of_mem _ (List.mem_cons_of_mem _ e)
    · have h0 := h2 _ List.mem_cons_self
      rcases List.mem_cons.mp hy with e | hy
      · subst e
        split at h0 <;> split <;> omega
      · rcases List.mem_cons.mp hy with e | hy
        · subst e
          split at h0 <;> split <;> omega
        · exact h2 y (List.mem_cons_of_mem _ hy)
theorem minL_mem : ∀ (m : Int) (l : List Int), minL m l ∈ m :: l ∧ ∀ y ∈ m :: l, minL m l ≤ y
  | m, [] => by simp [minL]
  | m, x :: l => by
    obtain ⟨h1, h2⟩ := minL_mem (if x < m then x else m) l
    simp only [minL]
    refine ⟨?_, fun y hy => ?_⟩
    · rcases List.mem_cons.mp h1 with e | e
      · rw [e]
        split
        · simp
        · simp
      · exact List.mem_cons_of_mem _ (List.mem_cons_of_mem _ e)
    · have h0 := h2 _ List.mem_cons_self
      rcases List.mem_cons.mp hy with e | hy
      · subst e
        split at h0 <;> split <;> omega
      · rcases List.mem_cons.mp hy with e | hy
        · subst e
          split at h0 <;> split <;> omega
        · exact h2 y (List.mem_cons_of_mem _ hy)
theorem iter_tup {prog : Program} {w : World} {A : Around} {E : Value → Shared → Prop} {s : Shared} {l : Addr} {items : Array Value} {Q : Value → Shared → Prop} (hl : s.heap.IsTuple l items)
    (h : ∀ s₂ : Shared, s₂ = { s with heap := s.heap.push { cls := .type "tuple_iterator", data := .fields #[.ref l, .int 0 0] } } →
      (s₂.heap.IsTupleIter s.heap.objs.size l 0 ∧ s₂.heap.IsTuple l items) → (∀ b ∈ [s.heap.objs.size, l], b < s₂.heap.objs.size) → l ≠ s.heap.objs.size → Q (.ref s.heap.objs.size) s₂) : wpAny (model prog w) A (pyIter (.ref l)) Q E s := by
  have hlt : l < s.heap.objs.size := by obtain ⟨_, e, _⟩ := hl; exact Heap.lt_size e
  refine wpAny_pyIter_tuple hl (h _ rfl ⟨⟨_, Heap.get?_push_size _ rfl, rfl, rfl⟩, ?_⟩ (fun b hb => ?_) (Nat.ne_of_lt hlt))
  · obtain ⟨o, e, r⟩ := hl
    exact ⟨o, Heap.get?_push_of_some _ e, r⟩
  · show b < (s.heap.push _).objs.size
    rw [Heap.size_push]
    simp only [List.mem_cons, List.not_mem_nil, or_false] at hb
    rcases hb with rfl | rfl
    · exact Nat.lt_succ_self _
    · exact Nat.lt_succ_of_lt hlt
theorem kept_new {s : Shared} {ob : Obj} {h' : Heap} (hk : ∀ b o, b ∉ [s.heap.objs.size] → (s.heap.push ob).get? b = some o → h'.get? b = some o) : ∀ b o, s.heap.get? b = some o → h'.get? b = some o := fun b o e => by
  refine hk b o (fun hm => ?_) (Heap.get?_push_of_some _ e)
  simp only [List.mem_cons, List.not_mem_nil, or_false] at hm
  exact absurd (hm ▸ Heap.lt_size e) (Nat.lt_irrefl _)
theorem cr_maxT (hc : X.calm = true) : CallR X (.builtin "max") (fun vs H Q => ∃ (a : Addr) (ns : List Int), vs = [V.ref a] ∧ SqT X.K H a (ns.map V.int) ∧ 0 < ns.length ∧ ∀ m, m ∈ ns → (∀ y, y ∈ ns → y ≤ m) → Q (.int m) H) := by
  intro pins s σ H vs us Q I r h
  obtain ⟨a, ns, rfl, hs, hne, q⟩ := h
  obtain ⟨its, rv, hl, _⟩ := I.tuple hs
  rw [Vals.ref1 r]
  obtain ⟨xs, e⟩ := (rv.ints).allInts.items
  have hn : numsOf (intItems xs).toList = ns := by rw [← e]; exact (rv.ints).numsOf
  rw [nums_intItems] at hn
  subst hn
  rw [e] at hl
  have hsz : 0 < xs.size := by simpa using hne
  refine call_max_walk (iter_tup hl fun s₂ e2 st hfp hlI => ?_)
  subst e2
  refine ⟨_, _, _, _, _, _, _, rfl, Walks.tuple (A := X.A.in1) (I.ok.hd hc) _ a hlI (intItems xs), st, hfp, by simpa [intItems] using hsz, CmpOf.ints_gt (numAt xs) (fun _ _ => intItems_at), fun v h' tk hP hk => ?_⟩
  obtain ⟨t, rfl⟩ := intItems_at (by simpa [intItems] using hP : (intItems xs)[argBest (fun i j => decide (numAt xs i > numAt xs j)) (xs.size - 1)]? = some v)
  obtain ⟨h1, h2⟩ := argBest_gt (numAt xs) (xs.size - 1)
  refine ⟨.int _, H, I.kept (kept_new hk), ⟨_, rfl⟩, q _ ?_ fun y hy => ?_⟩
  · rw [numAt_eq]; exact PySem.getD_mem (by rw [List.length_map, Array.length_toList]; omega)
  · obtain ⟨j, hj, rfl⟩ := mem_getD hy
    rw [List.length_map, Array.length_toList] at hj
    rw [← numAt_eq]; exact h2 j (by omega)
theorem cr_minT (hc : X.calm = true) : CallR X (.builtin "min") (fun vs H Q => ∃ (a : Addr) (ns : List Int), vs = [V.ref a] ∧ SqT X.K H a (ns.map V.int) ∧ 0 < ns.length ∧ ∀ m, m ∈ ns → (∀ y, y ∈ ns → m ≤ y) → Q (.int m) H) := by
  intro pins s σ H vs us Q I r h
  obtain ⟨a, ns, rfl, hs, hne, q⟩ := h
  obtain ⟨its, rv, hl, _⟩ := I.tuple hs
  rw [Vals.ref1 r]
  obtain ⟨xs, e⟩ := (rv.ints).allInts.items
  have hn : numsOf (intItems xs).toList = ns := by rw [← e]; exact (rv.ints).numsOf
  rw [nums_intItems] at hn
  subst hn
  rw [e] at hl
  have hsz : 0 < xs.size := by simpa using hne
  refine call_min_walk (iter_tup hl fun s₂ e2 st hfp hlI => ?_)
  subst e2
  refine ⟨_, _, _, _, _, _, _, rfl, Walks.tuple (A := X.A.in1) (I.ok.hd hc) _ a hlI (intItems xs), st, hfp, by simpa [intItems] using hsz, CmpOf.ints_lt (numAt xs) (fun _ _ => intItems_at), fun v h' tk hP hk => ?_⟩
  obtain ⟨t, rfl⟩ := intItems_at (by simpa [intItems] using hP : (intItems xs)[argBest (fun i j => decide (numAt xs i < numAt xs j)) (xs.size - 1)]? = some v)
  obtain ⟨h1, h2⟩ := argBest_lt (numAt xs) (xs.size - 1)
  refine ⟨.int _, H, I.kept (kept_new hk), ⟨_, rfl⟩, q _ ?_ fun y hy => ?_⟩
  · rw [numAt_eq]; exact PySem.getD_mem (by rw [List.length_map, Array.length_toList]; omega)
  · obtain ⟨j, hj, rfl⟩ := mem_getD hy
    rw [List.length_map, Array.length_toList] at hj
    rw [← numAt_eq]; exact h2 j (by omega)
theorem maxL_uniq {n m : Int} {r : List Int} (h1 : m ∈ n :: r) (h2 : ∀ y ∈ n :: r, y ≤ m) : m = maxL n r := by
  obtain ⟨a, b⟩ := maxL_mem n r
  have := b m h1
  have := h2 _ a
  omega
theorem minL_uniq {n m : Int} {r : List Int} (h1 : m ∈ n :: r) (h2 : ∀ y ∈ n :: r, m ≤ y) : m = minL n r := by
  obtain ⟨a, b⟩ := minL_mem n r
  have := b m h1
  have := h2 _ a
  omega
theorem bi_max (hc : X.calm = true) : CallR X (.builtin "max") (rBI hf (biD .max)) := by
  intro pins s σ H xs us Q I r h
  obtain ⟨O, ds, d, dm, hb, e, q⟩ := h
  match ds, e with
  | [.list xs], e =>
    simp only [biD, Option.bind_eq_some_iff] at e
    obtain ⟨ns, e1, e2⟩ := e
    cases ns with
    | nil => cases e2
    | cons n l =>
      simp only [Option.some.injEq] at e2
      subst e2
      obtain ⟨v, rfl, hx⟩ := hb.one
      obtain ⟨a, vs, rfl, hH, hs⟩ := rb_lst hx
      have ev := hs.ints e1
      subst ev
      exact cr_max hc pins s σ H _ us Q I r ⟨a, n :: l, rfl, SqL.of hH, by simp, fun m h1 h2 => by rw [maxL_uniq h1 h2]; exact q.int⟩
  | [.tuple xs], e =>
    simp only [biD, Option.bind_eq_some_iff] at e
    obtain ⟨ns, e1, e2⟩ := e
    cases ns with
    | nil => cases e2
    | cons n l =>
      simp only [Option.some.injEq] at e2
      subst e2
      obtain ⟨v, rfl, hx⟩ := hb.one
      obtain ⟨a, vs, rfl, hH, hs⟩ := rb_seq hx
      have ev := hs.ints e1
      subst ev
      exact cr_maxT hc pins s σ H _ us Q I r ⟨a, n :: l, rfl, SqT.of hH, by simp, fun m h1 h2 => by rw [maxL_uniq h1 h2]; exact q.int⟩
  | [.int i, .int j], e =>
    simp only [biD, Option.some.injEq] at e
    subst e
    obtain ⟨v, w, rfl, hx, hy⟩ := hb.two
    exact call_max2 hc pins s σ H _ us Q I r ⟨i, j, by rw [rb_int hx, rb_int hy], q.int⟩
theorem bi_min (hc : X.calm = true) : CallR X (.builtin "min") (rBI hf (biD .min)) := by
  intro pins s σ H xs us Q I r h
  obtain ⟨O, ds, d, dm, hb, e, q⟩ := h
  match ds, e with
  | [.list xs], e =>
    simp only [biD, Option.bind_eq_some_iff] at e
    obtain ⟨ns, e1, e2⟩ := e
    cases ns with
    | nil => cases e2
    | cons n l =>
      simp only [Option.some.injEq] at e2
      subst e2
      obtain ⟨v, rfl, hx⟩ := hb.one
      obtain ⟨a, vs, rfl, hH, hs⟩ := rb_lst hx
      have ev := hs.ints e1
      subst ev
      exact cr_min hc pins s σ H _ us Q I r ⟨a, n :: l, rfl, SqL.of hH, by simp, fun m h1 h2 => by rw [minL_uniq h1 h2]; exact q.int⟩
  | [.tuple xs], e =>
    simp only [biD, Option.bind_eq_some_iff] at e
    obtain ⟨ns, e1, e2⟩ := e
    cases ns with
    | nil => cases e2
    | cons n l =>
      simp only [Option.some.injEq] at e2
      subst e2
      obtain ⟨v, rfl, hx⟩ := hb.one
      obtain ⟨a, vs, rfl, hH, hs⟩ := rb_seq hx
      have ev := hs.ints e1
      subst ev
      exact cr_minT hc pins s σ H _ us Q I r ⟨a, n :: l, rfl, SqT.of hH, by simp, fun m h1 h2 => by rw [minL_uniq h1 h2]; exact q.int⟩
  | [.int i, .int j], e =>
    simp only [biD, Option.some.injEq] at e
    subst e
    obtain ⟨v, w, rfl, hx, hy⟩ := hb.two
    exact call_min2 hc pins s σ H _ us Q I r ⟨i, j, by rw [rb_int hx, rb_int hy], q.int⟩
end
end Ev
/-! The order of data, and sorted. -/
namespace Ev
open PySem PySem.Spec PyProof.Rows L2

/-! ### the order -/
def isLt : Ordering → Bool
  | .lt => true
  | _ => false
def isEq : Ordering → Bool
  | .eq => true
  | _ => false
theorem cmpI_lt {i j : Int} : cmpN i j = .lt ↔ i < j := by
  unfold cmpN
  split
  · simp [*]
  · split
    · simp; omega
    · simp; omega
theorem cmpM_lt {i j : Nat} : cmpN i j = .lt ↔ i < j := by
  unfold cmpN
  split
  · simp [*]
  · split
    · simp; omega
    · simp; omega
theorem cmpN_eq_of {α : Type} [LT α] [DecidableEq α] [DecidableRel (α := α) (· < ·)] {i j : α} (h : cmpN i j = .eq) : i = j := by
  unfold cmpN at h
  split at h
  · cases h
  · split at h
    · assumption
    · cases h
theorem cmpI_eq {i j : Int} : cmpN i j = .eq ↔ i = j := by
  refine ⟨cmpN_eq_of, fun h => ?_⟩
  subst h
  unfold cmpN
  rw [if_neg (by omega), if_pos rfl]
theorem cmpI_swap (i j : Int) : cmpN j i = (cmpN i j).swap := by
  unfold cmpN
  split <;> split <;> (try split) <;> (try split) <;> first | rfl | omega
theorem cmpM_swap (i j : Nat) : cmpN j i = (cmpN i j).swap := by
  unfold cmpN
  split <;> split <;> (try split) <;> (try split) <;> first | rfl | omega
/-- three facts that make an order -/
def Tri (a b c : Ordering) : Prop := (a = .eq → b = c) ∧ (b = .eq → a = c) ∧ (a = .lt → b = .lt → c = .lt)
theorem triI (i j k : Int) : Tri (cmpN i j) (cmpN j k) (cmpN i k) := by
  refine ⟨fun h => ?_, fun h => ?_, fun h1 h2 => ?_⟩
  · rw [cmpI_eq.mp h]
  · rw [cmpI_eq.mp h]
  · have := cmpI_lt.mp h1
    have := cmpI_lt.mp h2
    exact cmpI_lt.mpr (by omega)
theorem triM (i j k : Nat) : Tri (cmpN i j) (cmpN j k) (cmpN i k) := by
  refine ⟨fun h => ?_, fun h => ?_, fun h1 h2 => ?_⟩
  · rw [cmpN_eq_of h]
  · rw [cmpN_eq_of h]
  · have := cmpM_lt.mp h1
    have := cmpM_lt.mp h2
    exact cmpM_lt.mpr (by omega)
mutual
theorem cmpT_swap : ∀ x y : D, cmpT y x = (cmpT x y).swap
  | .int i, .int j => by simp only [cmpT]; exact cmpI_swap i j
  | .tuple xs, .tuple ys => by simp only [cmpT]; exact cmpTs_swap xs ys
  | .int i, .none | .int i, .bool _ | .int i, .str _ | .int i, .list _ | .int i, .tuple _ | .int i, .dict _ => by simp only [cmpT, rkD]; exact cmpM_swap _ _
  | .none, y => by cases y <;> simp only [cmpT, rkD] <;> exact cmpM_swap _ _
  | .bool _, y => by cases y <;> simp only [cmpT, rkD] <;> exact cmpM_swap _ _
  | .str _, y => by cases y <;> simp only [cmpT, rkD] <;> exact cmpM_swap _ _
  | .list _, y => by cases y <;> simp only [cmpT, rkD] <;> exact cmpM_swap _ _
  | .dict _, y => by cases y <;> simp only [cmpT, rkD] <;> exact cmpM_swap _ _
  | .tuple _, .none | .tuple _, .bool _ | .tuple _, .str _ | .tuple _, .list _ | .tuple _, .int _ | .tuple _, .dict _ => by simp only [cmpT, rkD]; exact cmpM_swap _ _
theorem cmpTs_swap : ∀ x y : List D, cmpTs y x = (cmpTs x y).swap
  | [], [] => rfl
  | [], _ :: _ => rfl
  | _ :: _, [] => rfl
  | x :: xs, y :: ys => by
    simp only [cmpTs]
    rw [cmpT_swap x y]
    cases cmpT x y with
    | lt => rfl
    | gt => rfl
    | eq => exact cmpTs_swap xs ys
end
mutual
theorem cmpT_tri : ∀ x y z : D, Tri (cmpT x y) (cmpT y z) (cmpT x z)
  | .int i, y, z => by cases y <;> cases z <;> simp only [cmpT, rkD] <;> first | exact triI _ _ _ | exact triM _ _ _ | (refine ⟨?_, ?_, ?_⟩ <;> simp [cmpN])
  | .tuple xs, .tuple ys, .tuple zs => by simp only [cmpT]; exact cmpTs_tri xs ys zs
  | .tuple xs, .tuple ys, .none | .tuple xs, .tuple ys, .bool _ | .tuple xs, .tuple ys, .int _ | .tuple xs, .tuple ys, .str _ | .tuple xs, .tuple ys, .list _ | .tuple xs, .tuple ys, .dict _ => by simp only [cmpT, rkD]; refine ⟨?_, ?_, ?_⟩ <;> simp [cmpN]
  | .tuple _, .none, z | .tuple _, .bool _, z | .tuple _, .int _, z | .tuple _, .str _, z | .tuple _, .list _, z | .tuple _, .dict _, z => by cases z <;> simp only [cmpT, rkD] <;> refine ⟨?_, ?_, ?_⟩ <;> simp [cmpN]
  | .none, y, z => by cases y <;> cases z <;> simp only [cmpT, rkD] <;> first | exact triM _ _ _ | (refine ⟨?_, ?_, ?_⟩ <;> simp [cmpN])
  | .bool _, y, z => by cases y <;> cases z <;> simp only [cmpT, rkD] <;> first | exact triM _ _ _ | (refine ⟨?_, ?_, ?_⟩ <;> simp [cmpN])
  | .str _, y, z => by cases y <;> cases z <;> simp only [cmpT, rkD] <;> first | exact triM _ _ _ | (refine ⟨?_, ?_, ?_⟩ <;> simp [cmpN])
  | .list _, y, z => by cases y <;> cases z <;> simp only [cmpT, rkD] <;> first | exact triM _ _ _ | (refine ⟨?_, ?_, ?_⟩ <;> simp [cmpN])
  | .dict _, y, z => by cases y <;> cases z <;> simp only [cmpT, rkD] <;> first | exact triM _ _ _ | (refine ⟨?_, ?_, ?_⟩ <;> simp [cmpN])
theorem cmpTs_tri : ∀ x y z : List D, Tri (cmpTs x y) (cmpTs y z) (cmpTs x z)
  | [], [], z => by cases z <;> simp [cmpTs, Tri]
  | [], _ :: _, z => by cases z <;> simp [cmpTs, Tri]
  | _ :: _, [], z => by cases z <;> simp [cmpTs, Tri]
  | _ :: _, _ :: _, [] => by simp [cmpTs, Tri]
  | x :: xs, y :: ys, z :: zs => by
    obtain ⟨h1, h2, h3⟩ := cmpT_tri x y z
    obtain ⟨k1, k2, k3⟩ := cmpTs_tri xs ys zs
    simp only [cmpTs]
    revert h1 h2 h3
    cases cmpT x y <;> cases cmpT y z <;> cases cmpT x z <;> intro h1 h2 h3 <;> simp at h1 h2 h3 <;> refine ⟨?_, ?_, ?_⟩ <;> simp <;> assumption
end
theorem ltT_iff {x y : D} : ltT x y = true ↔ cmpT x y = .lt := by
  unfold ltT
  cases cmpT x y <;> simp
theorem ltT_no {x y : D} : ltT x y = false ↔ cmpT x y ≠ .lt := by
  unfold ltT
  cases cmpT x y <;> simp
theorem ltT_int {i j : Int} : ltT (.int i) (.int j) = decide (i < j) := by
  by_cases h : i < j
  · rw [decide_eq_true h, ltT_iff]
    simp only [cmpT]
    exact cmpI_lt.mpr h
  · rw [decide_eq_false h, ltT_no]
    simp only [cmpT]
    exact fun e => h (cmpI_lt.mp e)
theorem swoT : SrtO.Swo ltT := by
  refine ⟨fun x y h => ?_, fun x y z h1 h2 => ?_⟩
  · have a := ltT_iff.mp h
    rw [ltT_no, cmpT_swap x y, a]
    decide
  · rw [ltT_no] at h1 h2 ⊢
    obtain ⟨t1, t2, t3⟩ := cmpT_tri z y x
    intro hc
    have s1 := cmpT_swap y x
    have s2 := cmpT_swap z y
    have s3 := cmpT_swap z x
    rw [hc] at s3
    obtain ⟨u1, u2, u3⟩ := cmpT_tri x y z
    cases e1 : cmpT z y with
    | lt => exact h2 e1
    | eq =>
      have := t1 e1
      rw [hc] at this
      exact h1 this
    | gt =>
      cases e2 : cmpT y x with
      | lt => exact h1 e2
      | eq =>
        have := t2 e2
        rw [hc, e1] at this
        cases this
      | gt =>
        rw [e2] at s1
        rw [e1] at s2
        have := u3 s1 s2
        rw [s3] at this
        cases this
/-! the language's own comparisons say the same of what they order -/
mutual
theorem ord_cmp : ∀ x y : D, ordOk x y = true → PyData.eqv x y = isEq (cmpT x y) ∧ ordD .lt x y = isLt (cmpT x y)
  | .int i, .int j, _ => by
    simp only [PyData.eqv, ordD, intC, cmpT, cmpN]
    refine ⟨?_, ?_⟩
    · split
      · have : ¬ i = j := by omega
        simp [isEq, this]
      · split <;> simp [isEq, *]
    · split
      · simp [isLt, *]
      · split <;> simp [isLt] <;> omega
  | .tuple xs, .tuple ys, h => by
    simp only [ordOk] at h
    simp only [PyData.eqv, ordD, cmpT]
    exact ord_cmps xs ys h
  | .int i, .none, h | .int i, .bool _, h | .int i, .str _, h | .int i, .list _, h | .int i, .tuple _, h | .int i, .dict _, h => by simp [ordOk] at h
  | .tuple i, .none, h | .tuple i, .bool _, h | .tuple i, .str _, h | .tuple i, .list _, h | .tuple i, .int _, h | .tuple i, .dict _, h => by simp [ordOk] at h
  | .none, y, h => by cases y <;> simp [ordOk] at h
  | .bool _, y, h => by cases y <;> simp [ordOk] at h
  | .str _, y, h => by cases y <;> simp [ordOk] at h
  | .list _, y, h => by cases y <;> simp [ordOk] at h
  | .dict _, y, h => by cases y <;> simp [ordOk] at h
theorem ord_cmps : ∀ x y : List D, ordOks x y = true → PyData.eqvAll x y = isEq (cmpTs x y) ∧ ordL .lt x y = isLt (cmpTs x y)
  | [], [], _ => by simp [PyData.eqvAll, cmpTs, isEq, isLt, ordL, intC]
  | [], _ :: _, _ => by simp [PyData.eqvAll, cmpTs, isEq, isLt, ordL, intC]
  | _ :: _, [], _ => by simp [PyData.eqvAll, cmpTs, isEq, isLt, ordL, intC]
  | x :: xs, y :: ys, h => by
    simp only [ordOks, Bool.and_eq_true] at h
    obtain ⟨a1, a2⟩ := ord_cmp x y h.1
    obtain ⟨b1, b2⟩ := ord_cmps xs ys h.2
    simp only [PyData.eqvAll, ordL, cmpTs, a1, a2, b1, b2]
    cases cmpT x y <;> simp [isEq, isLt]
end

/-! ### what sortL gives -/
theorem insD_stb (x : D) : ∀ l : List D, SrtO.Srtd ltT l → SrtO.Srtd ltT (insD x l) ∧ SrtO.Stb ltT (insD x l) (x :: l)
  | [], _ => ⟨SrtO.srtd_one x, SrtO.Stb.refl _⟩
  | y :: ys, h => by
    obtain ⟨h1, h2⟩ := insD_stb x ys (List.pairwise_cons.mp h).2
    simp only [insD]
    split
    · rename_i hl
      have ho : SrtO.Stb ltT (y :: x :: ys) (x :: y :: ys) := by
        have := (SrtO.Stb.swap swoT (A := [y]) (B := [x]) (fun a ha b hb => by rw [List.mem_singleton.mp ha, List.mem_singleton.mp hb]; exact hl)).app (SrtO.Stb.refl ys)
        simpa using this
      refine ⟨List.pairwise_cons.mpr ⟨fun z hz => ?_, h1⟩, ((SrtO.Stb.refl [y]).app h2).trans ho⟩
      rcases List.mem_cons.mp (h2.perm.mem_iff.mp hz) with e | hz
      · rw [e]
        exact swoT.asym y x hl
      · exact SrtO.srtd_head h z hz
    · rename_i hl
      have hl : ltT y x = false := by simpa using hl
      refine ⟨List.pairwise_cons.mpr ⟨fun z hz => ?_, h⟩, SrtO.Stb.refl _⟩
      rcases List.mem_cons.mp hz with e | hz
      · rw [e]; exact hl
      · exact swoT.tr x y z hl (SrtO.srtd_head h z hz)
theorem sortL_stb : ∀ l : List D, SrtO.Srtd ltT (sortL l) ∧ SrtO.Stb ltT (sortL l) l
  | [] => ⟨List.Pairwise.nil, SrtO.Stb.refl _⟩
  | x :: l => by
    obtain ⟨h1, h2⟩ := sortL_stb l
    obtain ⟨k1, k2⟩ := insD_stb x _ h1
    exact ⟨k1, k2.trans ((SrtO.Stb.refl [x]).app h2)⟩
theorem sortL_len (l : List D) : (sortL l).length = l.length := (sortL_stb l).2.len

/-! ### the comparisons as run -/
section
variable {prog : Program} {w : World} {A : Around} {s : Shared}
theorem lex_run {b : Bool} : ∀ (xs ys : List D) (vs us : List Value) (as bs : List Addr) (i : Nat), ReadsAll s.heap vs xs as → ReadsAll s.heap us ys bs → PyData.canLayAll0 xs = true → PyData.canLayAll0 ys = true → A.units + PyData.depthAll xs < cLine → ordOks xs ys = true →
    (b = true → i = 0 → (∀ x ∈ xs.head?, isI x = true)) → PySem.W.KatLex prog w A b (decide (vs.length < us.length)) (fun r s' => s' = s ∧ r = isLt (cmpTs xs ys)) (vs.zip us) i s
  | [], [], _, _, _, _, i, .nil, .nil, _, _, _, _, _ => PySem.W.kat_nil ⟨rfl, rfl⟩
  | [], _ :: _, _, _, _, _, i, .nil, .cons _ _, _, _, _, _, _ => PySem.W.kat_nil ⟨rfl, by simp [cmpTs, isLt]⟩
  | _ :: _, [], _, _, _, _, i, .cons _ _, .nil, _, _, _, _, _ => PySem.W.kat_nil ⟨rfl, by simp [cmpTs, isLt]⟩
  | x :: xs, y :: ys, v :: vs, u :: us, _, _, i, .cons r1 t1, .cons r2 t2, c1, c2, hu, ho, hk => by
    simp only [PyData.canLayAll0, Bool.and_eq_true] at c1 c2
    simp only [ordOks, Bool.and_eq_true] at ho
    have dd : PyData.depthAll (x :: xs) = max x.depth (PyData.depthAll xs) := by simp only [PyData.depthAll]
    obtain ⟨a1, a2⟩ := ord_cmp x y ho.1
    have ih := lex_run (b := b) xs ys vs us _ _ (i + 1) t1 t2 c1.2 c2.2 (by omega) ho.2 (fun _ e => by omega)
    have e0 : decide ((v :: vs).length < (u :: us).length) = decide (vs.length < us.length) := by simp
    rw [e0]
    rw [List.zip_cons_cons]
    refine PySem.W.kat_cons (SeqAt.eqAt_reads _ _ A s _ _ _ _ r1 r2 c1.1 c2.1 (by have := Nat.min_le_left x.depth y.depth; omega) prog w _ _ ?_)
    rw [a1]
    refine PySem.W.kat_go (fun e => ?_) (fun e => ?_)
    · refine PySem.W.kat_yes ?_
      have : cmpT x y = .eq := by cases h : cmpT x y <;> rw [h] at e <;> first | rfl | cases e
      simp only [cmpTs, this]
      exact ih
    · refine PySem.W.kat_no ?_
      have en : isLt (cmpTs (x :: xs) (y :: ys)) = isLt (cmpT x y) := by
        simp only [cmpTs]
        cases h : cmpT x y <;> rw [h] at e <;> first | rfl | cases e
      rw [en]
      by_cases hb : (b && i == 0) = true
      · have hb' := hb
        simp only [Bool.and_eq_true, beq_iff_eq] at hb'
        have hi := hk hb'.1 hb'.2 x (by simp)
        cases x with
        | int m =>
          cases y with
          | int n =>
            cases r1
            cases r2
            rw [hb]
            refine oneLt_int ⟨rfl, ?_⟩
            simp only [ordD, intC] at a2
            exact a2
          | _ => simp [ordOk] at ho
        | _ => simp [isI] at hi
      · have hb : (b && i == 0) = false := by simpa using hb
        rw [hb]
        refine PySem.W.kat_one _ _ (ord_run .lt rfl x y A s v u _ _ r1 r2 c1.1 c2.1 (by omega) ho.1 prog w _ _ ?_)
        exact ⟨rfl, a2⟩
end

/-! ### sorted, any, all, repr -/
def bk : Value → V
  | .bool b => .bl b
  | .int i _ => .int i
  | .str x _ => .str x
  | .ref a => .ref a
  | _ => .non
theorem Rb.bk {hf : D → Int} {H : Hp} {O : Addr → Prop} {d : D} {v : V} {u : Value} (h : Rb hf H O d v) (r : RelV v u) : v = bk u := by
  cases d with
  | none => simp only [Rb] at h; subst h; cases r; rfl
  | bool b => simp only [Rb] at h; subst h; cases r; rfl
  | int i => simp only [Rb] at h; subst h; obtain ⟨t, rfl⟩ := r; rfl
  | str i => simp only [Rb] at h; subst h; obtain ⟨t, rfl⟩ := r; rfl
  | list ds => simp only [Rb] at h; obtain ⟨a, vs, rfl, _⟩ := h; cases r; rfl
  | tuple ds => simp only [Rb] at h; obtain ⟨a, vs, rfl, _⟩ := h; cases r; rfl
  | dict ds => simp only [Rb] at h; obtain ⟨a, es, ep, qs, vs, rfl, _⟩ := h; cases r; rfl
theorem rs_mem {hf : D → Int} {H : Hp} {O : Addr → Prop} : ∀ {ds : List D} {vs : List V} {us : List Value}, Rs hf H O ds vs → Vals vs us → ∀ u ∈ us, ∃ d v, d ∈ ds ∧ Rp hf H O d v ∧ RelV v u
  | [], vs, us, h, r, u, m => by
    simp only [Rs] at h
    subst h
    cases r
    simp at m
  | d :: ds, vs, us, h, r, u, m => by
    obtain ⟨v, vr, rfl, h1, h2⟩ := h.inv
    cases r with
    | cons r1 r2 =>
      rcases List.mem_cons.mp m with e | m
      · subst e
        exact ⟨d, v, List.mem_cons_self, h1, r1⟩
      · obtain ⟨d', v', a1, a2, a3⟩ := rs_mem h2 r2 u m
        exact ⟨d', v', List.mem_cons_of_mem _ a1, a2, a3⟩
theorem rs_back {hf : D → Int} {H : Hp} {O : Addr → Prop} {k : Value → D} : ∀ {us : List Value}, (∀ u ∈ us, ∃ v, Rp hf H O (k u) v ∧ RelV v u) → Rs hf H O (us.map k) (us.map bk) ∧ Vals (us.map bk) us
  | [], _ => ⟨.nil, .nil⟩
  | u :: us, h => by
    obtain ⟨v, h1, h2⟩ := h u List.mem_cons_self
    obtain ⟨i1, i2⟩ := rs_back fun x hx => h x (List.mem_cons_of_mem _ hx)
    have e := h1.1.bk h2
    subst e
    exact ⟨.cons h1 i1, .cons h2 i2⟩
theorem canLay_all : ∀ {ds : List D}, (∀ d ∈ ds, d.canLay0 = true) → PyData.canLayAll0 ds = true
  | [], _ => rfl
  | d :: ds, h => by
    simp only [PyData.canLayAll0, Bool.and_eq_true]
    exact ⟨h d List.mem_cons_self, canLay_all fun x hx => h x (List.mem_cons_of_mem _ hx)⟩
theorem fsts {h : Heap} {p : D → Bool} : ∀ {vs : List Value} {ds : List D} {as : List Addr}, ReadsAll h vs ds as → ds.all (fstIs p) = true → ∃ fs, PySem.W.KatTups h vs fs ∧ fs.length = vs.length ∧ ∀ f ∈ fs, ∃ d bs, Reads h f d bs ∧ p d = true
  | _, _, _, .nil, _ => ⟨[], .nil, rfl, fun f m => by simp at m⟩
  | _, _, _, .cons (d := d) r t, ha => by
    simp only [List.all_cons, Bool.and_eq_true] at ha
    obtain ⟨fs, i1, i2, i3⟩ := fsts t ha.2
    cases r with
    | @tuple a o vs n xs _ k1 k2 k3 k4 =>
      cases xs with
      | nil => simp [fstIs] at ha
      | cons x xs =>
        obtain ⟨z, hz⟩ : ∃ z, z = vs.toList := ⟨_, rfl⟩
        rw [← hz] at k4
        cases k4 with
        | @cons f _ _ _ _ _ q1 q2 =>
          refine ⟨f :: fs, PySem.W.KatTups.cons k1 k2 k3 ?_ i1, by simp [i2], fun g m => ?_⟩
          · rw [← Array.getElem?_toList, ← hz]
            rfl
          · rcases List.mem_cons.mp m with e | m
            · subst e
              exact ⟨_, _, q1, by simpa [fstIs] using ha.1⟩
            · exact i3 g m
    | _ => simp [fstIs] at ha
theorem all_ints {h : Heap} : ∀ {vs : List Value} {ds : List D} {as : List Addr}, ReadsAll h vs ds as → ds.all isI = true → ∃ ns, IntsAre vs ns
  | _, _, _, .nil, _ => ⟨[], .nil⟩
  | _, _, _, .cons (d := d) r t, ha => by
    simp only [List.all_cons, Bool.and_eq_true] at ha
    obtain ⟨ns, i⟩ := all_ints t ha.2
    cases r with
    | int n t => exact ⟨n :: ns, .cons n t i⟩
    | _ => simp [isI] at ha
section
variable {prog : Program} {w : World} {A : Around} {s : Shared}
theorem sortOk_parts {ds : List D} (h : sortOk ds = true) : ds.length ≤ SZ ∧ (ds.all isI = true ∨ ds.all (fstIs isI) = true ∨ ds.all (fstIs isTup) = true) ∧ (∀ d ∈ ds, SeqAt.shaped d = true) ∧ ∀ d ∈ ds, ∀ e ∈ ds, ordOk d e = true := by
  unfold sortOk at h
  simp only [Bool.and_eq_true, Bool.or_eq_true, decide_eq_true_eq, List.all_eq_true] at h
  refine ⟨h.1.1, ?_, fun d m => (h.2 d m).1, fun d m e m2 => (h.2 d m).2 e m2⟩
  simp only [List.all_eq_true]
  rcases h.1.2 with (c | c) | c
  · exact .inl c
  · exact .inr (.inl c)
  · exact .inr (.inr c)
theorem lex_cmp {b : Bool} {vs : List Value} {ds : List D} {as : List Addr} {k : Value → D} (rd : ReadsAll s.heap vs ds as) (hk : ∀ u ∈ vs, ∃ bs, Reads s.heap u (k u) bs) (hm : ∀ u ∈ vs, k u ∈ ds) (hu : A.units + 66 < cLine) (ht : ∀ d ∈ ds, isTup d = true)
    (sh : ∀ d ∈ ds, SeqAt.shaped d = true) (ho : ∀ d ∈ ds, ∀ e ∈ ds, ordOk d e = true) (hb : b = true → ∀ d ∈ ds, fstIs isI d = true) : SrtO.Cmp prog w A s (tuples' b) (fun p => p.1 ∈ vs) (SrtO.lt2 fun v u => ltT (k v) (k u)) := by
  intro p q hp hq
  obtain ⟨bs, r1⟩ := hk _ hp
  obtain ⟨cs, r2⟩ := hk _ hq
  have m1 := hm _ hp
  have m2 := hm _ hq
  show wpAny (model prog w) A (keyLt' (tuples' b) p.1 q.1) (fun r s' => s' = s ∧ r = ltT (k p.1) (k q.1)) (fun _ _ => False) s
  have t1 := ht _ m1
  have t2 := ht _ m2
  have o := ho _ m1 _ m2
  have s1 := sh _ m1
  have s2 := sh _ m2
  have f1 := fun e => hb e _ m1
  generalize k p.1 = d at *
  generalize k q.1 = e at *
  generalize p.1 = u at *
  generalize q.1 = v at *
  cases d with
  | tuple xs =>
    cases e with
    | tuple ys =>
      have l1 := SeqAt.canLay_of_shaped s1
      have l2 := SeqAt.canLay_of_shaped s2
      have dd := SeqAt.depth_of_shaped s1
      have de : (PyData.tuple xs).depth = PyData.depthAll xs + 1 := by simp only [PyData.depth]
      simp only [PyData.canLay0] at l1 l2
      simp only [ordOk] at o
      cases r1 with
      | @tuple a' o1 vs1 n1 _ _ k1 k2 k3 k4 =>
        cases r2 with
        | @tuple b' o2 vs2 n2 _ _ q1 q2 q3 q4 =>
          refine PySem.W.kat_lt k1 k3 q1 q3 ?_
          have := lex_run (prog := prog) (w := w) (A := A) (s := s) (b := b) xs ys _ _ _ _ 0 k4 q4 l1 l2 (by omega) o (fun eb _ x hx => ?_)
          · have e : (fun (r : Bool) (s' : Shared) => s' = s ∧ r = ltT (.tuple xs) (.tuple ys)) = fun r s' => s' = s ∧ r = isLt (cmpTs xs ys) := by
              funext r s'
              unfold ltT
              simp only [cmpT]
              cases cmpTs xs ys <;> rfl
            rw [e]
            exact this
          · have := f1 eb
            cases xs with
            | nil => simp [fstIs] at this
            | cons z zs =>
              simp at hx
              subst hx
              simpa [fstIs] using this
    | _ => simp [isTup] at t2
  | _ => simp [isTup] at t1
theorem fst_tup {p : D → Bool} {d : D} (h : fstIs p d = true) : isTup d = true := by
  cases d <;> simp [fstIs, isTup] at h ⊢
/-- what sortOk lets through can be sorted -/
theorem sortable {vs : List Value} {ds : List D} {as : List Addr} {k : Value → D} (rd : ReadsAll s.heap vs ds as) (hk : ∀ u ∈ vs, ∃ bs, Reads s.heap u (k u) bs) (hm : ∀ u ∈ vs, k u ∈ ds) (ok : sortOk ds = true) (hu : A.units + 66 < cLine) (h2 : 2 ≤ vs.length) {h' : Heap}
    (kp : ∀ b o, s.heap.get? b = some o → h'.get? b = some o) : ∃ κ,
    (∀ (Q : SortKind → Shared → Prop) (E : Value → Shared → Prop), Q κ { s with heap := h' } → wpAny (model prog w) A (keyKind' vs.toArray) Q E { s with heap := h' }) ∧
    SrtO.Cmp prog w A { s with heap := h' } κ (fun p => p.1 ∈ vs) (SrtO.lt2 fun v u => ltT (k v) (k u)) := by
  obtain ⟨_, kinds, sh, ho⟩ := sortOk_parts ok
  have rd' : ReadsAll h' vs ds as := ReadsAll.keeps kp rd
  have hk' : ∀ u ∈ vs, ∃ bs, Reads h' u (k u) bs := fun u m => let ⟨bs, r⟩ := hk u m; ⟨bs, Reads.keeps kp r⟩
  rcases kinds with c | c | c
  · obtain ⟨ns, hI⟩ := all_ints rd' c
    refine ⟨oneType', fun Q E hq => ?_, fun p q hp hq => ?_⟩
    · match vs, hI, h2 with
      | v1 :: v2 :: rest, hI, _ =>
        rw [keyKind_ints hI]
        exact wpAny_pure hq
      | [], _, h => exact absurd h (by decide)
      | [v], _, h => exact absurd h (by simp)
    · obtain ⟨bs, r1⟩ := hk' _ hp
      obtain ⟨cs, r2⟩ := hk' _ hq
      have i1 := List.all_eq_true.mp c _ (hm _ hp)
      have i2 := List.all_eq_true.mp c _ (hm _ hq)
      show wpAny (model prog w) A (keyLt' oneType' p.1 q.1) (fun r s' => s' = { s with heap := h' } ∧ r = ltT (k p.1) (k q.1)) (fun _ _ => False) _
      generalize k p.1 = d at *
      generalize k q.1 = e at *
      generalize p.1 = u at *
      generalize q.1 = v at *
      cases d with
      | int i =>
        cases e with
        | int j =>
          cases r1
          cases r2
          rw [keyLt'_oneType]
          refine oneLt_int ⟨rfl, ?_⟩
          exact ltT_int.symm
        | _ => simp [isI] at i2
      | _ => simp [isI] at i1
  · obtain ⟨fs, t1, t2, t3⟩ := fsts rd' c
    refine ⟨tuples' true, fun Q E hq => ?_, lex_cmp rd' hk' hm hu (fun d m => fst_tup (List.all_eq_true.mp c d m)) sh ho fun _ d m => List.all_eq_true.mp c d m⟩
    refine PySem.W.kat_kind (T := .type "int") t1 (by omega) (fun f hf => ?_) (by rfl) ?_
    · obtain ⟨d, bs, r, hd⟩ := t3 f hf
      cases r with
      | int i t => exact PySem.W.Looks.now
      | _ => simp [isI] at hd
    · have e : (Value.type "int" != Value.type "tuple") = true := by first | decide +kernel | rfl | decide
      rw [e]
      exact hq
  · obtain ⟨fs, t1, t2, t3⟩ := fsts rd' c
    refine ⟨tuples' false, fun Q E hq => ?_, lex_cmp rd' hk' hm hu (fun d m => fst_tup (List.all_eq_true.mp c d m)) sh ho fun e => by cases e⟩
    refine PySem.W.kat_kind (T := .type "tuple") t1 (by omega) (fun f hf => ?_) (by rfl) ?_
    · obtain ⟨d, bs, r, hd⟩ := t3 f hf
      cases r with
      | @tuple a' o vs n xs _ k1 k2 k3 k4 =>
        have : PySem.W.Looks (model prog w) h' (typeOf (.ref a')) o.cls := (PySem.W.Looks.ld k1).andThen .now
        rw [k2] at this
        exact this
      | _ => simp [isTup] at hd
    · have e : (Value.type "tuple" != Value.type "tuple") = false := by first | decide +kernel | rfl | decide
      rw [e]
      exact hq
end
theorem objThere {P : Program} {w : World} {H : Hp} {h : Heap} {a : Addr} {o : HO} (x : ObjOk P w H h a o) : ∃ u, h.get? a = some u := by
  cases o <;> unfold ObjOk at x
  all_goals first
    | exact ⟨_, x⟩
    | exact x
    | exact x.2.1
    | exact ⟨_, x.1⟩
    | (obtain ⟨_, _, _, e⟩ := x; exact ⟨_, e⟩)
    | (obtain ⟨_, _, _, _, e⟩ := x; exact ⟨_, e⟩)
    | (obtain ⟨_, _, _, e, _⟩ := x; exact ⟨_, e⟩)
    | (obtain ⟨_, _, _, _, e, _⟩ := x; exact ⟨_, e⟩)
    | (obtain ⟨_, _, _, _, o, _, _, e, _⟩ := x; exact ⟨_, e⟩)
    | (obtain ⟨o, _, _, _, e, _⟩ := x; exact ⟨_, e⟩)
    | (obtain ⟨_, ⟨_, _, _, e, _⟩, _⟩ := x; exact ⟨_, e⟩)
theorem swoK (k : Value → D) : SrtO.Swo fun v u => ltT (k v) (k u) := ⟨fun x y => swoT.asym _ _, fun x y z => swoT.tr _ _ _⟩
theorem srt_map {k : Value → D} {out vs : List Value} {ds : List D} (e : vs.map k = ds) (h1 : SrtO.Srtd (fun v u => ltT (k v) (k u)) out) (h2 : SrtO.Stb (fun v u => ltT (k v) (k u)) out vs) : out.map k = sortL ds := by
  have a1 := SrtO.srtd_map (lt := ltT) (f := k) h1
  have a2 := SrtO.Stb.map swoT k h2
  rw [e] at a2
  obtain ⟨b1, b2⟩ := sortL_stb ds
  exact SrtO.stb_uniq swoT a1 b1 ⟨a2.perm.trans b2.perm.symm, fun x => (a2.cls x).trans (b2.cls x).symm⟩
theorem call_sorted_src {prog : Program} {w : World} {A : Around} {E : Value → Shared → Prop} {s : Shared} {T : String} {r d : Addr} {n : Nat} {P : Nat → Value → Prop} {OK : Heap → Prop} {ltv : Value → Value → Bool} {Q : Value → Shared → Prop} (O : SrtO.Swo ltv)
    (K : PySem.W.KdlSrc prog w T r d n P OK) (hh : A.handled = none) (hok : OK s.heap) (hn : n ≤ sizeLine) (vs : List Value) (hl : vs.length = n) (hv : ∀ (j : Nat) (v : Value), P j v → vs[j]? = some v)
    (hS : 2 ≤ vs.length → ∀ (h₁ : Heap) (tk : Nat), (∀ b o, s.heap.get? b = some o → h₁.get? b = some o) → ∃ κ,
      (∀ (Q : SortKind → Shared → Prop) (E : Value → Shared → Prop), Q κ { s with heap := h₁, toks := tk } → wpAny (model prog w) A.in1.in1 (keyKind' vs.toArray) Q E { s with heap := h₁, toks := tk }) ∧
      SrtO.Cmp prog w A.in1.in1 { s with heap := h₁, toks := tk } κ (fun p => p.1 ∈ vs) (SrtO.lt2 ltv))
    (h : ∀ (out : List Value) (h' : Heap) (tk : Nat) (a : Addr), SrtO.Srtd ltv out → SrtO.Stb ltv out vs → (∀ b o, s.heap.get? b = some o → h'.get? b = some o) → (∀ b o, s.heap.get? b = some o → b ≠ a) → (∃ e, h'.get? a = some (seqObj "list" out.toArray e)) → Q (.ref a) { s with heap := h', toks := tk }) :
    wpAny (model prog w) A (call (.builtin "sorted") [.ref r]) Q E s := by
  refine Calls.call_function_entry kind_sorted plain_sorted entry_sorted (args_sorted1 _) ?_
  unfold Builtin.«sorted»
  refine wpAny_bind (m := checkCount "sorted" 1 1 _) (wpAny_pure ?_)
  refine wpAny_bind (PySem.W.kdu_collect (A := A.in1) K hh hok hn fun h' tk acc hk hacc => ?_)
  have ea : acc.toList = vs := by
    apply List.ext_getElem?
    intro j
    cases hj : acc.toList[j]? with
    | none =>
      have h1 := List.getElem?_eq_none_iff.mp hj
      rw [Array.length_toList, hacc.1, ← hl] at h1
      rw [List.getElem?_eq_none h1]
    | some v => exact (hv j v (hacc.2 j v (by rw [← Array.getElem?_toList]; exact hj))).symm
  rw [ea]
  have hz : vs.length ≤ sizeLine := by omega
  refine wpAny_bind (wpAny_newList ?_ hz)
  have hoL : (h'.push (seqObj "list" vs.toArray 0)).get? h'.objs.size = some (seqObj "list" vs.toArray 0) := Heap.get?_push_size _ rfl
  have hlt : ∀ b o, s.heap.get? b = some o → b < h'.objs.size := fun b o e => Heap.lt_size (hk b o e)
  have hsz : ∀ b o, s.heap.get? b = some o → b ≠ h'.objs.size := fun b o e => Nat.ne_of_lt (hlt b o e)
  refine wpAny_bind (wpAny_holding (wpAny_call_entry slot_list_sort ⟨_, hoL, rfl⟩ entry_list_sort (SrtO.list_sort_ord O hoL hz (fun h2 => ?_) fun out hs hb => ⟨_, rfl, ?_⟩) (args_list_sort _)))
  · intro h₁ kp
    exact hS h2 h₁ tk fun b o e => kp b o (Nat.ne_of_lt (hlt b o e)) (Heap.get?_push_of_some _ (hk b o e))
  · obtain ⟨e, he⟩ := sortedHeap_at (out := out.toArray) hoL
    refine wpAny_pure ⟨_, rfl, h out _ tk _ hs hb (fun b o eo => ?_) hsz ⟨e, he⟩⟩
    have h1 := hlt b o eo
    show (sortedHeap (h'.push (seqObj "list" vs.toArray 0)) h'.objs.size vs out.toArray).get? b = some o
    rw [sortedHeap_old (Nat.ne_of_lt h1) (by rw [Heap.size_push]; exact Nat.lt_succ_of_lt h1)]
    exact Heap.get?_push_of_some _ (hk b o eo)
end Ev
/-! sorted, any, all, repr as calls. -/
namespace Ev
open PySem PySem.Spec PyProof.Rows L2
section
variable {X : Cx} {hf : D → Int}
theorem Rk.keys {H : Hp} {O : Addr → Prop} : ∀ {kvs : List (D × D)} {qs vs : List V}, Rk hf H O kvs qs vs → Rs hf H O (kvs.map (·.1)) qs
  | [], qs, vs, h => by
    simp only [Rk] at h
    rw [h.1]
    exact .nil
  | (k, d) :: kvs, qs, vs, h => by
    simp only [Rk] at h
    obtain ⟨q, qr, v, vr, rfl, rfl, h1, n1, _, _, h3⟩ := h
    exact .cons ⟨h1, n1⟩ (Rk.keys h3)
section
variable {pins : List (Addr × Obj)} {σ : L2.St} {H : Hp} {s : Shared} {O : Addr → Prop}
/-- the reader of what stands -/
theorem reader (I : L2.Inv X pins σ H s) {ds : List D} {vs : List V} {us : List Value} (h : Rs hf H O ds vs) (r : Vals vs us) (sh : ∀ d ∈ ds, SeqAt.shaped d = true) :
    us.map (SeqAt.readOf s.heap) = ds ∧ (∀ u ∈ us, ∃ bs, Reads s.heap u (SeqAt.readOf s.heap u) bs) ∧ (∀ u ∈ us, SeqAt.readOf s.heap u ∈ ds) ∧ ∀ u ∈ us, ∃ v, Rp hf H O (SeqAt.readOf s.heap u) v ∧ RelV v u := by
  have cl := canLay_all fun d m => SeqAt.canLay_of_shaped (sh d m)
  obtain ⟨as, rd, _⟩ := Rs.reads I ds vs us h r
  have at_ : ∀ u ∈ us, ∃ d v bs, d ∈ ds ∧ Rp hf H O d v ∧ RelV v u ∧ Reads s.heap u d bs ∧ SeqAt.readOf s.heap u = d := fun u m => by
    obtain ⟨d, v, m1, h1, h2⟩ := rs_mem h r u m
    obtain ⟨bs, h3, _⟩ := Rb.reads I d v u h1.1 h2
    exact ⟨d, v, bs, m1, h1, h2, h3, SeqAt.readOf_eq (SeqAt.canLay_of_shaped (sh d m1)) h3⟩
  refine ⟨SeqAt.readsAll_map ds us as cl rd, fun u m => ?_, fun u m => ?_, fun u m => ?_⟩
  · obtain ⟨d, v, bs, _, _, _, h3, e⟩ := at_ u m
    exact ⟨bs, by rw [e]; exact h3⟩
  · obtain ⟨d, v, bs, m1, _, _, _, e⟩ := at_ u m
    rw [e]; exact m1
  · obtain ⟨d, v, bs, _, h1, h2, _, e⟩ := at_ u m
    exact ⟨v, by rw [e]; exact h1, h2⟩
theorem sorted_end (I : L2.Inv X pins σ H s) (dm : DomO O H) {ds : List D} {vs : List V} {us : List Value} (h : Rs hf H O ds vs) (r : Vals vs us) (ok : sortOk ds = true) {Q : VK} (q : Res hf true H O (.list (sortL ds)) Q)
    {out : List Value} {h' : Heap} {tk : Nat} {a : Addr} (hs : SrtO.Srtd (fun v u => ltT (SeqAt.readOf s.heap v) (SeqAt.readOf s.heap u)) out) (hb : SrtO.Stb (fun v u => ltT (SeqAt.readOf s.heap v) (SeqAt.readOf s.heap u)) out us)
    (kp : ∀ b o, s.heap.get? b = some o → h'.get? b = some o) (na : ∀ b o, s.heap.get? b = some o → b ≠ a) (hat : ∃ e, h'.get? a = some (seqObj "list" out.toArray e)) : EP X pins σ Q (.ref a) { s with heap := h', toks := tk } := by
  obtain ⟨hz, _, sh, _⟩ := sortOk_parts ok
  obtain ⟨e1, _, _, e4⟩ := reader I h r sh
  have e5 := srt_map e1 hs hb
  obtain ⟨b1, b2⟩ := rs_back (k := SeqAt.readOf s.heap) fun u (m : u ∈ out) => e4 u (hb.perm.mem_iff.mp m)
  have nH : H a = none := by
    cases hq : H a with
    | none => rfl
    | some o =>
      obtain ⟨u, hu⟩ := objThere (I.hok _ _ hq)
      exact absurd rfl (na _ _ hu)
  have ng : s.heap.get? a = none := by
    cases hq : s.heap.get? a with
    | none => rfl
    | some o => exact absurd rfl (na _ _ hq)
  obtain ⟨ep, he⟩ := hat
  rw [e5] at b1
  have hl : (out.map bk).length ≤ sizeLine := by
    rw [b1.length, sortL_len, szL]
    exact hz
  exact ⟨.ref a, upd H a (.lst (out.map bk)), I.laidN kp ng nH ⟨hl, out, ep, b2, he⟩, rfl, q.lst dm b1 nH⟩
end
theorem bi_sorted (hc : X.calm = true) (hu : X.A.units + 70 < cLine) : CallR X (.builtin "sorted") (rBI hf (biD .sorted)) := by
  intro pins s σ H xs us Q I r h
  obtain ⟨O, ds, d, dm, hb, e, q⟩ := h
  have hu2 : X.A.in1.in1.units + 66 < cLine := by
    show X.A.units + 1 + 1 + 66 < cLine
    omega
  match ds, e with
  | [.list xs], e =>
    simp only [biD, Option.map_eq_some_iff, sortD] at e
    obtain ⟨ys, e1, rfl⟩ := e
    split at e1
    · rename_i ok
      simp only [Option.some.injEq] at e1
      subst e1
      obtain ⟨v, rfl, hx⟩ := hb.one
      obtain ⟨a, vs, rfl, hH, hs⟩ := rb_lst hx
      obtain ⟨its, rv, hl, hz⟩ := I.list (SqL.of hH)
      obtain ⟨_, _, sh, _⟩ := sortOk_parts ok
      obtain ⟨e1, e2, e3, e4⟩ := reader I hs rv sh
      obtain ⟨as, rd, _⟩ := Rs.reads I xs vs its hs rv
      rw [Vals.ref1 r]
      refine SrtO.sorted_ord (swoK (SeqAt.readOf s.heap)) hl.isList (by rw [← rv.length]; exact hz) (fun h2 h₁ a' ha kk => ?_) fun out o1 o2 => ?_
      · intro h' kp
        exact sortable rd e2 e3 ok hu2 h2 fun b o eb => kp b o (kk b o eb).1 (kk b o eb).2
      · obtain ⟨ep, he⟩ := sortedAll_at s.heap its out.toArray
        exact sorted_end (tk := s.toks) I dm hs rv ok q o1 o2 (fun b o eb => sortedAll_old eb) (fun b o eb => Nat.ne_of_lt (Nat.lt_succ_of_lt (Heap.lt_size eb))) ⟨ep, he⟩
    · cases e1
  | [.dict kvs], e =>
    simp only [biD, Option.map_eq_some_iff, sortD] at e
    obtain ⟨ys, e1, rfl⟩ := e
    split at e1
    · rename_i ok
      simp only [Option.some.injEq] at e1
      subst e1
      obtain ⟨v, rfl, hx⟩ := hb.one
      obtain ⟨a, es, ep, qs, vs, rfl, hH, hn, hz, he, hk⟩ := rb_dict hx
      have hs := Rk.keys hk
      obtain ⟨rv, _⟩ := ents_keys he
      obtain ⟨_, _, sh, _⟩ := sortOk_parts ok
      obtain ⟨e1, e2, e3, e4⟩ := reader I hs rv sh
      obtain ⟨as, rd, _⟩ := Rs.reads I _ qs _ hs rv
      obtain ⟨o, ho, hx, hd⟩ := invRaw I hH
      rw [Vals.ref1 r]
      refine call_sorted_src (swoK (SeqAt.readOf s.heap)) (kdl_raw hn hx hd) (I.ok.hd hc) ho (by rw [szL]; exact hz) (es.toList.map (·.key)) (by rw [List.length_map, Array.length_toList]) (fun j v hv => ?_) (fun h2 h₁ tk kp => ?_) fun out h' tk a' o1 o2 kp na hat => ?_
      · obtain ⟨en, h1, rfl⟩ := hv
        rw [List.getElem?_map, Array.getElem?_toList, h1]
        rfl
      · exact sortable (s := { s with toks := tk }) rd e2 e3 ok hu2 h2 kp
      · exact sorted_end I dm hs rv ok q o1 o2 kp na hat
    · cases e1

theorem truL_rs {H : Hp} {O : Addr → Prop} : ∀ {ds : List D} {vs : List V} {us : List Value} {bs : List Bool}, Rs hf H O ds vs → Vals vs us → truL ds = some bs → us.length = bs.length ∧ ∀ (prog : Program) (w : World) (A : Around), TruthOf prog w A (fun i v => us.toArray[i]? = some v) (fun i => bs.getD i false)
  | [], vs, us, bs, h, r, e => by
    simp only [Rs] at h
    subst h
    cases r
    simp only [truL, Option.some.injEq] at e
    subst e
    exact ⟨rfl, fun prog w A i v s Q E hv hq => by simp at hv⟩
  | d :: ds, vs, us, bs, h, r, e => by
    obtain ⟨v, vr, rfl, h1, h2⟩ := h.inv
    cases r with
    | @cons _ u _ us r1 r2 =>
      simp only [truL, Option.bind_eq_some_iff, Option.map_eq_some_iff] at e
      obtain ⟨b, e1, cs, e2, rfl⟩ := e
      obtain ⟨l, ih⟩ := truL_rs h2 r2 e2
      refine ⟨by simp [l], fun prog w A i z s Q E hv hq => ?_⟩
      cases i with
      | zero =>
        have : u = z := by simpa using hv
        subst this
        have hq' : Q b s := hq
        have k := h1.1
        cases d with
        | none =>
          simp only [Rb] at k
          subst k
          cases r1
          simp only [tru1, Option.some.injEq] at e1
          subst e1
          exact truthy_none hq'
        | bool c =>
          simp only [Rb] at k
          subst k
          cases r1
          simp only [tru1, Option.some.injEq] at e1
          subst e1
          exact wpAny_truthy_bool hq'
        | int c =>
          simp only [Rb] at k
          subst k
          obtain ⟨t, rfl⟩ := r1
          simp only [tru1, Option.some.injEq] at e1
          subst e1
          exact truthy_int hq'
        | _ => simp [tru1] at e1
      | succ i => exact ih prog w A i z s Q E (by simpa using hv) hq
theorem bi_any (hc : X.calm = true) : CallR X (.builtin "any") (rBI hf (biD .any)) := by
  intro pins s σ H xs us Q I r h
  obtain ⟨O, ds, d, dm, hb, e, q⟩ := h
  match ds, e with
  | [.list xs], e =>
    simp only [biD, anyD, Option.map_map, Option.map_eq_some_iff] at e
    obtain ⟨bs, e1, rfl⟩ := e
    obtain ⟨v, rfl, hx⟩ := hb.one
    obtain ⟨a, vs, rfl, hH, hs⟩ := rb_lst hx
    obtain ⟨its, rv, hl, hz⟩ := I.list (SqL.of hH)
    obtain ⟨l1, tr⟩ := truL_rs hs rv e1
    rw [Vals.ref1 r]
    refine call_any_walk (iter_any hl.isList fun s₂ e2 st hne => ?_)
    subst e2
    refine ⟨_, _, _, _, _, _, _, rfl, Walks.list (A := X.A.in1) (I.ok.hd hc) _ a hne its.toArray, st, tr _ _ _, fun h' tk hk => ?_⟩
    refine ⟨.bl _, H, I.kept (kept_new hk), rfl, ?_⟩
    have := any_range bs
    rw [← l1] at this
    rw [List.size_toArray, this]
    exact q.bl
  | [.tuple xs], e =>
    simp only [biD, anyD, Option.map_map, Option.map_eq_some_iff] at e
    obtain ⟨bs, e1, rfl⟩ := e
    obtain ⟨v, rfl, hx⟩ := hb.one
    obtain ⟨a, vs, rfl, hH, hs⟩ := rb_seq hx
    obtain ⟨its, rv, hl, hz⟩ := I.tuple (SqT.of hH)
    obtain ⟨l1, tr⟩ := truL_rs hs rv e1
    rw [Vals.ref1 r]
    refine call_any_walk (iter_tup hl fun s₂ e2 st hfp hne => ?_)
    subst e2
    refine ⟨_, _, _, _, _, _, _, rfl, Walks.tuple (A := X.A.in1) (I.ok.hd hc) _ a hne its.toArray, st, tr _ _ _, fun h' tk hk => ?_⟩
    refine ⟨.bl _, H, I.kept (kept_new hk), rfl, ?_⟩
    have := any_range bs
    rw [← l1] at this
    rw [List.size_toArray, this]
    exact q.bl
theorem bi_all (hc : X.calm = true) : CallR X (.builtin "all") (rBI hf (biD .all)) := by
  intro pins s σ H xs us Q I r h
  obtain ⟨O, ds, d, dm, hb, e, q⟩ := h
  match ds, e with
  | [.list xs], e =>
    simp only [biD, allD, Option.map_map, Option.map_eq_some_iff] at e
    obtain ⟨bs, e1, rfl⟩ := e
    obtain ⟨v, rfl, hx⟩ := hb.one
    obtain ⟨a, vs, rfl, hH, hs⟩ := rb_lst hx
    obtain ⟨its, rv, hl, hz⟩ := I.list (SqL.of hH)
    obtain ⟨l1, tr⟩ := truL_rs hs rv e1
    rw [Vals.ref1 r]
    refine call_all_walk (iter_any hl.isList fun s₂ e2 st hne => ?_)
    subst e2
    refine ⟨_, _, _, _, _, _, _, rfl, Walks.list (A := X.A.in1) (I.ok.hd hc) _ a hne its.toArray, st, tr _ _ _, fun h' tk hk => ?_⟩
    refine ⟨.bl _, H, I.kept (kept_new hk), rfl, ?_⟩
    have := all_range bs
    rw [← l1] at this
    rw [List.size_toArray, this]
    exact q.bl
  | [.tuple xs], e =>
    simp only [biD, allD, Option.map_map, Option.map_eq_some_iff] at e
    obtain ⟨bs, e1, rfl⟩ := e
    obtain ⟨v, rfl, hx⟩ := hb.one
    obtain ⟨a, vs, rfl, hH, hs⟩ := rb_seq hx
    obtain ⟨its, rv, hl, hz⟩ := I.tuple (SqT.of hH)
    obtain ⟨l1, tr⟩ := truL_rs hs rv e1
    rw [Vals.ref1 r]
    refine call_all_walk (iter_tup hl fun s₂ e2 st hfp hne => ?_)
    subst e2
    refine ⟨_, _, _, _, _, _, _, rfl, Walks.tuple (A := X.A.in1) (I.ok.hd hc) _ a hne its.toArray, st, tr _ _ _, fun h' tk hk => ?_⟩
    refine ⟨.bl _, H, I.kept (kept_new hk), rfl, ?_⟩
    have := all_range bs
    rw [← l1] at this
    rw [List.size_toArray, this]
    exact q.bl
theorem bi_repr (hg : X.A.guards = some []) (hm : ∀ pins σ H s, L2.Inv X pins σ H s → H sysModules = none) (hu : X.A.units + 70 < cLine) : CallR X (.builtin "repr") (rBI hf (biD .repr)) := by
  have key : ∀ (d : D) (x : V) (pins : List (Addr × Obj)) (s : Shared) (σ : L2.St) (H : Hp) (us : List Value) (Q : VK) (O : Addr → Prop), L2.Inv X pins σ H s → Vals [x] us → Rb hf H O d x → (∃ a, x = .ref a) → d.showable = true → d.depth ≤ 64 → d.shown.length ≤ SZ → Q (.str d.shown) H →
      wpAny (model X.prog X.w) X.A (call (.builtin "repr") us) (EP X pins σ Q) X.xe s := by
    intro d x pins s σ H us Q O I r hx ha h1 h2 h3 q
    obtain ⟨a, rfl⟩ := ha
    rw [Vals.ref1 r]
    obtain ⟨as, rd, ht⟩ := Rb.reads I d (.ref a) (.ref a) hx rfl
    exact repr_of_reads' rd h1 (fun _ m => ht _ m (hm _ _ _ _ I)) hg (by omega) (fun _ _ e => e) (fun h' u tk hk => ⟨.str _, H, I.kept hk, ⟨u, rfl⟩, q⟩) (by rw [szL]; exact h3)
  intro pins s σ H xs us Q I r h
  obtain ⟨O, ds, d, dm, hb, e, q⟩ := h
  match ds, e with
  | [.list xs], e =>
    simp only [biD] at e
    split at e
    · rename_i hs
      simp only [Bool.and_eq_true, decide_eq_true_eq] at hs
      simp only [Option.some.injEq] at e
      subst e
      obtain ⟨v, rfl, hx⟩ := hb.one
      obtain ⟨a, vs, e, _⟩ := rb_lst hx
      exact key _ v pins s σ H us Q O I r hx ⟨a, e⟩ hs.1.1 hs.1.2 hs.2 q.str
    · cases e
  | [.tuple xs], e =>
    simp only [biD] at e
    split at e
    · rename_i hs
      simp only [Bool.and_eq_true, decide_eq_true_eq] at hs
      simp only [Option.some.injEq] at e
      subst e
      obtain ⟨v, rfl, hx⟩ := hb.one
      obtain ⟨a, vs, e, _⟩ := rb_seq hx
      exact key _ v pins s σ H us Q O I r hx ⟨a, e⟩ hs.1.1 hs.1.2 hs.2 q.str
    · cases e
end
end Ev
/-! What is walked: sequences of either kind, ranges, zip, enumerate. -/
namespace Ev
open PySem PySem.Spec PyProof.Rows L2

/-! ### lists and tuples alike: k = false a list, k = true a tuple -/
def SqK (K : PySem.W.Frag) (H : Hp) (a : Addr) (xs : List V) : Bool → Prop
  | false => SqL K H a xs
  | true => SqT K H a xs
def ItAt (h : Heap) (it l : Addr) (i : Nat) : Bool → Prop
  | false => h.IsListIter it l i
  | true => h.IsTupleIter it l i
def SeqIs (h : Heap) (l : Addr) (its : Array Value) : Bool → Prop
  | false => h.IsList l its
  | true => h.IsTuple l its
def itO (a : Addr) : Bool → Obj
  | false => { cls := .type "list_iterator", data := .fields #[.ref a, .int 0 0] }
  | true => { cls := .type "tuple_iterator", data := .fields #[.ref a, .int 0 0] }
section
variable {X : Cx} {pins : List (Addr × Obj)} {σ : L2.St} {H : Hp} {s : Shared} {a : Addr} {xs ys : List V} {h h' : Heap} {it l : Addr} {i : Nat}
theorem sqk (I : L2.Inv X pins σ H s) : ∀ {k : Bool}, SqK X.K H a xs k → ∃ its : List Value, Vals xs its ∧ SeqIs s.heap a its.toArray k
  | false, h => let ⟨its, r, p, _⟩ := I.list h; ⟨its, r, p.isList⟩
  | true, h => let ⟨its, r, p, _⟩ := I.tuple h; ⟨its, r, p⟩
theorem sqk_inj (I : L2.Inv X pins σ H s) : ∀ {k : Bool}, SqK X.K H a xs k → SqK X.K H a ys k → xs = ys
  | false, h, h' => I.list_inj h h'
  | true, h, h' => I.tuple_inj h h'
theorem ItAt.at : ∀ {k : Bool}, ItAt h it l i k → (∀ o, h.get? it = some o → h'.get? it = some o) → ItAt h' it l i k
  | false, x, e => Heap.IsListIter.at x e
  | true, x, e => Heap.IsTupleIter.at x e
theorem ItAt.there : ∀ {k : Bool}, ItAt h it l i k → ∃ o, h.get? it = some o ∧ ∀ v, o.data ≠ .cell v
  | false, ⟨o, e, _, d⟩ => ⟨o, e, fun v z => by rw [d] at z; cases z⟩
  | true, ⟨o, e, _, d⟩ => ⟨o, e, fun v z => by rw [d] at z; cases z⟩
theorem ItAt.new : ∀ {k : Bool}, h.get? it = some (itO l k) → ItAt h it l 0 k
  | false, e => ⟨_, e, rfl, rfl⟩
  | true, e => ⟨_, e, rfl, rfl⟩
theorem SeqIs.lt : ∀ {k : Bool} {its : Array Value}, SeqIs h l its k → l < h.objs.size
  | false, _, ⟨_, e, _⟩ => Heap.lt_size e
  | true, _, ⟨_, e, _⟩ => Heap.lt_size e
theorem beginsK (a : Addr) (its : Array Value) : ∀ k : Bool, Begins (.ref a) (itO a k) fun h => SeqIs h a its k
  | false => begins_list a its
  | true => begins_tuple a its
theorem drawsK {prog : Program} {w : World} {A : Around} (hh : A.handled = none) (it l : Addr) (hne : l ≠ it) (its : Array Value) : ∀ k : Bool, Draws prog w A it [it, l] its.size (fun i v => its[i]? = some v) (fun i h => ItAt h it l i k ∧ SeqIs h l its k)
  | false => Draws.list hh it l hne its
  | true => Draws.tuple hh it l hne its
end

/-! ### zip -/
def ItZ (K : PySem.W.Frag) (k1 k2 : Bool) (a b : Addr) : It :=
  ⟨fun i H => ∃ (xs ys : List V) (x y : V), SqK K H a xs k1 ∧ SqK K H b ys k2 ∧ xs[i]? = some x ∧ ys[i]? = some y,
    fun i H v H' => ∃ T x y, v = .ref T ∧ H T = none ∧ H' = upd H T (.tup [x, y]) ∧ (∀ xs, SqK K H a xs k1 → xs[i]? = some x) ∧ ∀ ys, SqK K H b ys k2 → ys[i]? = some y,
    fun i H => ∃ xs ys : List V, SqK K H a xs k1 ∧ SqK K H b ys k2 ∧ i ≤ xs.length ∧ i ≤ ys.length ∧ (i = xs.length ∨ i = ys.length)⟩
theorem turnZ {P : Program} {w : World} {K : PySem.W.Frag} {elts : List Expr} {kk : Nat} {tpos : Pos} {k1 k2 : Bool} {a b z TI TO i1 i2 : Addr} (S : ZipSep2 z TI TO i1 i2 [i1, a] [i2, b]) (n1 : a ≠ i1) (n2 : b ≠ i2) :
    Turn P w K (.Tuple elts kk tpos) (ItZ K k1 k2 a b) [z, TI, TO, i1, i2] z (fun i h => IsZip h z TI TO .none ∧ IsTupOf2 h TI (.ref i1) (.ref i2) ∧ (∃ x y, IsTupOf2 h TO x y) ∧ ItAt h i1 a i k1 ∧ ItAt h i2 b i k2) where
  mem := by simp
  obj := fun i h st c hc => by
    obtain ⟨hz, hTI, ⟨x, y, hTO⟩, h1, h2⟩ := st
    simp only [List.mem_cons, List.not_mem_nil, or_false] at hc
    rcases hc with q | q | q | q | q
    · subst q; exact ⟨_, hz, fun v => nofun⟩
    · subst q; exact ⟨_, hTI, fun v => nofun⟩
    · subst q; exact ⟨_, hTO, fun v => nofun⟩
    · subst q; exact h1.there
    · subst q; exact h2.there
  keep := fun i h h' ⟨hz, hTI, ⟨x, y, hTO⟩, h1, h2⟩ k => ⟨k z (by simp) _ hz, k TI (by simp) _ hTI, ⟨x, y, k TO (by simp) _ hTO⟩, h1.at (k i1 (by simp)), h2.at (k i2 (by simp))⟩
  item := by
    intro X hP hw hK hc i pins s σ H E I hf st ⟨xs, ys, x, y, hqx, hqy, hx, hy⟩
    subst hP hw hK
    obtain ⟨hz, hTI, ⟨x0, y0, hTO⟩, h1, h2⟩ := st
    obtain ⟨its, rv, p⟩ := sqk I hqx
    obtain ⟨its2, rv2, p2⟩ := sqk I hqy
    obtain ⟨u, hu, ru⟩ := rv.get hx
    obtain ⟨u2, hu2, ru2⟩ := rv2.get hy
    have hzl : z < s.heap.objs.size := Heap.lt_size hz
    have l1 : i < its.toArray.size := by rw [List.size_toArray]; exact (List.getElem?_eq_some_iff.mp hu).1
    have l2 : i < its2.toArray.size := by rw [List.size_toArray]; exact (List.getElem?_eq_some_iff.mp hu2).1
    refine wpAny_pyNext_zipD2_item S (drawsK (A := X.A.in1) (I.ok.hd hc) i1 a n1 its.toArray k1) (drawsK (A := X.A.in1) (I.ok.hd hc) i2 b n2 its2.toArray k2) hz hTI hTO ⟨h1, p⟩ ⟨h2, p2⟩ l1 l2 fun x1 x2 h' tk e1 e2 z' TO' h1' h2' hT hsz hk => ?_
    have e1 : u = x1 := by rw [List.getElem?_toArray, hu] at e1; exact Option.some.inj e1
    have e2 : u2 = x2 := by rw [List.getElem?_toArray, hu2] at e2; exact Option.some.inj e2
    subst e1 e2
    refine ⟨_, rfl, wpAny_letOwnedTupleGo_zip (s := { s with heap := h', toks := tk }) z' fun h'' z'' sb => ?_⟩
    have hT2 : h''.get? s.heap.objs.size = some { cls := .type "tuple", data := .seq #[u, u2] } := (sb.2 _ (Nat.ne_of_gt hzl)).trans hT
    have I1 : L2.Inv X pins σ (upd H s.heap.objs.size (.tup [x, y])) { s with heap := h'', toks := tk } :=
      I.turnedNew (t' := tk) (ch := [z, TI, TO, i1, i2]) (fun c o hb q => by
        simp only [List.mem_cons, List.not_mem_nil, or_false, not_or] at hb
        exact (sb.2 c hb.1).trans (hk c o hb.1 hb.2.2.1 hb.2.2.2.1 hb.2.2.2.2 q)) hf (Nat.le_refl _) ⟨by show 2 ≤ sizeLine; decide, [u, u2], .cons ru (.cons ru2 .nil), ⟨_, hT2, rfl, _, rfl⟩⟩
    have nz1 : i1 ≠ z := S.zi1.symm
    have nz2 : i2 ≠ z := S.zi2.symm
    refine ⟨.ref s.heap.objs.size, _, I1, rfl, ⟨_, x, y, rfl, I.hok.fresh (Nat.le_refl _), rfl, fun l hl => by rw [sqk_inj I hl hqx]; exact hx, fun l hl => by rw [sqk_inj I hl hqy]; exact hy⟩, ⟨z'', ?_, ⟨u, u2, ?_⟩, ?_, ?_⟩, fun c hcm => ?_⟩
    · exact (sb.2 _ S.TIz).trans (hk _ _ S.TIz S.TITO S.TIi1 S.TIi2 hTI)
    · exact (sb.2 _ S.TOz).trans TO'
    · exact h1'.1.at fun o q => (sb.2 _ nz1).trans q
    · exact h2'.1.at fun o q => (sb.2 _ nz2).trans q
    · have hlt : c < s.heap.objs.size := by
        simp only [List.mem_cons, List.not_mem_nil, or_false] at hcm
        rcases hcm with q | q | q | q | q
        · subst q; exact hzl
        · subst q; exact Heap.lt_size hTI
        · subst q; exact Heap.lt_size hTO
        · subst q; obtain ⟨_, e, _⟩ := h1.there; exact Heap.lt_size e
        · subst q; obtain ⟨_, e, _⟩ := h2.there; exact Heap.lt_size e
      rw [upd_ne (Nat.ne_of_lt hlt)]
      exact (hf c hcm).1
  done := by
    intro X hP hw hK hc i pins s σ H E I hf st ⟨xs, ys, hqx, hqy, b1, b2, hend⟩
    subst hP hw hK
    obtain ⟨hz, hTI, ⟨x0, y0, hTO⟩, h1, h2⟩ := st
    obtain ⟨its, rv, p⟩ := sqk I hqx
    obtain ⟨its2, rv2, p2⟩ := sqk I hqy
    have l1 := rv.length
    have l2 := rv2.length
    refine wpAny_pyNext_zipD2_end S (drawsK (A := X.A.in1) (I.ok.hd hc) i1 a n1 its.toArray k1) (drawsK (A := X.A.in1) (I.ok.hd hc) i2 b n2 its2.toArray k2) hz hTI hTO ⟨h1, p⟩ ⟨h2, p2⟩ (by rw [List.size_toArray]; omega) (by rw [List.size_toArray]; omega) (by rw [List.size_toArray, List.size_toArray]; omega) fun h' tk hk => ⟨rfl, ?_⟩
    exact I.turnedL (t' := tk) (ch := [z, TI, TO, i1, i2]) (fun c o hb q => by
      simp only [List.mem_cons, List.not_mem_nil, or_false, not_or] at hb
      exact hk c o hb.1 hb.2.2.1 hb.2.2.2.1 hb.2.2.2.2 q) hf
  self := fun A i s Q E st h => wpAny_pyIter_zip st.1 h

/-! ### enumerate -/
def ItE (K : PySem.W.Frag) (k : Bool) (a : Addr) : It :=
  ⟨fun i H => ∃ (xs : List V) (x : V), SqK K H a xs k ∧ xs[i]? = some x,
    fun i H v H' => ∃ T x, v = .ref T ∧ H T = none ∧ H' = upd H T (.tup [.int (i : Nat), x]) ∧ ∀ xs, SqK K H a xs k → xs[i]? = some x,
    fun i H => ∃ xs : List V, SqK K H a xs k ∧ i = xs.length⟩
theorem turnE {P : Program} {w : World} {K : PySem.W.Frag} {elts : List Expr} {kk : Nat} {tpos : Pos} {k : Bool} {a e it : Addr} (nei : e ≠ it) (nea : e ≠ a) (nai : a ≠ it) :
    Turn P w K (.Tuple elts kk tpos) (ItE K k a) [e, it] e (fun i h => (∃ old, IsEnum h e it ((i : Nat) : Int) old) ∧ ItAt h it a i k) where
  mem := by simp
  obj := fun i h st c hc => by
    obtain ⟨⟨old, he⟩, h1⟩ := st
    simp only [List.mem_cons, List.not_mem_nil, or_false] at hc
    rcases hc with q | q
    · subst q; exact ⟨_, he, fun v => nofun⟩
    · subst q; exact h1.there
  keep := fun i h h' ⟨⟨old, he⟩, h1⟩ k => ⟨⟨old, k e (by simp) _ he⟩, h1.at (k it (by simp))⟩
  item := by
    intro X hP hw hK hc i pins s σ H E I hf st ⟨xs, x, hqx, hx⟩
    subst hP hw hK
    obtain ⟨⟨old, he⟩, h1⟩ := st
    obtain ⟨its, rv, p⟩ := sqk I hqx
    obtain ⟨u, hu, ru⟩ := rv.get hx
    have hel : e < s.heap.objs.size := Heap.lt_size he
    have l1 : i < its.toArray.size := by rw [List.size_toArray]; exact (List.getElem?_eq_some_iff.mp hu).1
    refine wpAny_pyNext_enum_itemD (drawsK (A := X.A.in1) (I.ok.hd hc) it a nai its.toArray k) he ⟨h1, p⟩ l1 nei (by simp [nei, nea]) fun x1 h' tk e1 he' h1' hT hsz hk => ?_
    have e1 : u = x1 := by rw [List.getElem?_toArray, hu] at e1; exact Option.some.inj e1
    subst e1
    refine ⟨_, rfl, wpAny_letOwnedTupleGo_enum (s := { s with heap := h', toks := tk + 1 }) he' fun h'' he'' sb => ?_⟩
    have hT2 : h''.get? s.heap.objs.size = some { cls := .type "tuple", data := .seq #[.int i tk, u] } := (sb.2 _ (Nat.ne_of_gt hel)).trans hT
    have I1 : L2.Inv X pins σ (upd H s.heap.objs.size (.tup [.int (i : Nat), x])) { s with heap := h'', toks := tk + 1 } :=
      I.turnedNew (t' := tk + 1) (ch := [e, it]) (fun c o hb q => by
        simp only [List.mem_cons, List.not_mem_nil, or_false, not_or] at hb
        exact (sb.2 c hb.1).trans (hk c o hb.1 hb.2 q)) hf (Nat.le_refl _) ⟨by show 2 ≤ sizeLine; decide, [.int i tk, u], .cons ⟨_, rfl⟩ (.cons ru .nil), ⟨_, hT2, rfl, _, rfl⟩⟩
    refine ⟨.ref s.heap.objs.size, _, I1, rfl, ⟨_, x, rfl, I.hok.fresh (Nat.le_refl _), rfl, fun l hl => by rw [sqk_inj I hl hqx]; exact hx⟩, ⟨⟨u, ?_⟩, ?_⟩, fun c hcm => ?_⟩
    · have e1 : ((i + 1 : Nat) : Int) = (i : Int) + 1 := by omega
      rw [e1]; exact he''
    · exact h1'.1.at fun o q => (sb.2 _ nei.symm).trans q
    · have hlt : c < s.heap.objs.size := by
        simp only [List.mem_cons, List.not_mem_nil, or_false] at hcm
        rcases hcm with q | q
        · subst q; exact hel
        · subst q; obtain ⟨_, e, _⟩ := h1.there; exact Heap.lt_size e
      rw [upd_ne (Nat.ne_of_lt hlt)]
      exact (hf c hcm).1
  done := by
    intro X hP hw hK hc i pins s σ H E I hf st ⟨xs, hqx, hend⟩
    subst hP hw hK
    obtain ⟨⟨old, he⟩, h1⟩ := st
    obtain ⟨its, rv, p⟩ := sqk I hqx
    have l1 := rv.length
    have ei : i = its.toArray.size := by rw [List.size_toArray]; omega
    subst ei
    exact wpAny_pyNext_enum_endD (drawsK (A := X.A.in1) (I.ok.hd hc) it a nai its.toArray k) he ⟨h1, p⟩ fun h' hk => ⟨rfl, I.turnedL (t' := s.toks) (ch := [e, it]) (fun c o hb q => by
      simp only [List.mem_cons, List.not_mem_nil, or_false, not_or] at hb
      exact hk c o hb.2 q) hf⟩
  self := fun A i s Q E st h => let ⟨⟨_, he⟩, _⟩ := st; wpAny_pyIter_enum he h

set_option maxHeartbeats 1000000 in
theorem enum_new1 {v : Value} {o : Obj} {H : Heap → Prop} (B : Begins v o H) :
    Meets (Builtin.«enumerate.__new__» ⟨[.type "enumerate", v], []⟩) (fun _ R s => H s.heap ∧
      R (.ok (.ret (.ref (s.heap.push o).objs.size))) { s with heap := (s.heap.push o).push { cls := .type "enumerate", data := .fields #[.none, .bool false, .ref s.heap.objs.size, rawInt 0, .none, .none] } }) :=
  .of_wp fun prog w A R s h => by
    obtain ⟨hp, g, d, tk, os⟩ := s
    obtain ⟨h1, h⟩ := h
    have hsub := sub_enumerate
    have q1 : ∀ {A' : Around} {E : Value → Shared → Prop} {Q : Value → Shared → Prop}, Q (.ref hp.objs.size) ⟨hp.push o, g, d, tk, os⟩ → wpAny (model prog w) A' (pyIter v) Q E ⟨hp, g, d, tk, os⟩ := fun q => B.iter prog w _ _ ⟨hp, g, d, tk, os⟩ _ h1 q
    wp_walk using q1
    refine wpAny_stack_any fun st => wpAny_pure ?_
    split
    · rename_i c _ _ _ _ _
      cases (c == Value.type "enumerate") <;> (wp_walk using q1; exact ⟨_, rfl, h⟩)
    · wp_walk using q1
      exact ⟨_, rfl, h⟩
section
variable {prog : Program} {w : World} {A : Around} {E : Value → Shared → Prop} {s : Shared}
theorem call_enum1 {v : Value} {o : Obj} {H : Heap → Prop} {Q : Value → Shared → Prop} (B : Begins v o H) (h1 : H s.heap)
    (h : ∀ h', IsEnum h' (s.heap.objs.size + 1) s.heap.objs.size 0 .none → h'.get? s.heap.objs.size = some o → (∀ b o, s.heap.get? b = some o → h'.get? b = some o) → Q (.ref (s.heap.objs.size + 1)) { s with heap := h' }) :
    wpAny (model prog w) A (call (.type "enumerate") [v]) Q E s := by
  refine callType_new F.called_enumerate (by decide) (F.typeCall_enumerate_1 _) (F.newCall_enumerate_1 _) (fun obj => F.args_object_init_2 obj _) F.entry_enumerate_new (enum_new1 B) ⟨h1, ?_⟩
  have hz : (s.heap.push o).objs.size = s.heap.objs.size + 1 := Heap.size_push ..
  have he : ((s.heap.push o).push { cls := .type "enumerate", data := .fields #[.none, .bool false, .ref s.heap.objs.size, rawInt 0, .none, .none] }).get? (s.heap.push o).objs.size = some { cls := .type "enumerate", data := .fields #[.none, .bool false, .ref s.heap.objs.size, rawInt 0, .none, .none] } := Heap.get?_push_size _ rfl
  show _ ∧ _
  rw [hz] at he ⊢
  exact ⟨⟨_, he, rfl⟩, h _ he (Heap.get?_push_of_some _ (Heap.get?_push_size _ B.free)) fun b o x => Heap.get?_push_of_some _ (Heap.get?_push_of_some _ x)⟩
end

/-! ### by value -/
/-- the iterator J gives xs, of the sources vs that stand for ds -/
structure Src (hf : D → Int) (J : It) (ds : List D) (vs : List V) (xs : List D) : Prop where
  goes : ∀ H O i, Bs hf H O ds vs → i < xs.length → J.go i H
  stops : ∀ H O, Bs hf H O ds vs → J.stop xs.length H
  yields : ∀ H O i x H', DomO O H → Bs hf H O ds vs → J.yld i H x H' → ∀ d, xs[i]? = some d → Same H H' ∧ Rp hf H' O d x
def iD (hf : D → Int) (ta : TA) (k : ItK) : TI := fun σ H R => ta σ H fun vs H1 => ∃ O ds xs, DomO O H1 ∧ Bs hf H1 O ds vs ∧ itemsOf k ds = some xs ∧ ∀ J, Src hf J ds vs xs → R J H1
section
variable {X : Cx} {hf : D → Int} {tg : Expr}
/-- the one sequence at a, as data -/
def seqD (k : Bool) (ds : List D) : D := match k with
  | false => .list ds
  | true => .tuple ds
theorem seqD_at {H : Hp} {O : Addr → Prop} {ds : List D} {a : Addr} : ∀ {k : Bool}, Rb hf H O (seqD k ds) (.ref a) → ∃ vs, SqK X.K H a vs k ∧ Rs hf H O ds vs
  | false, h => by
    obtain ⟨b, vs, e, hH, hs⟩ := rb_lst h
    cases e
    exact ⟨vs, SqL.of hH, hs⟩
  | true, h => by
    obtain ⟨b, vs, e, hH, hs⟩ := rb_seq h
    cases e
    exact ⟨vs, SqT.of hH, hs⟩
theorem seqOf_at {H : Hp} {O : Addr → Prop} {d : D} {ds : List D} {v : V} (h : Rb hf H O d v) (e : seqOf d = some ds) : ∃ k a, d = seqD k ds ∧ v = .ref a := by
  cases d with
  | list xs =>
    simp only [seqOf, Option.some.injEq] at e
    subst e
    obtain ⟨a, vs, rfl, _⟩ := rb_lst h
    exact ⟨false, a, rfl, rfl⟩
  | tuple xs =>
    simp only [seqOf, Option.some.injEq] at e
    subst e
    obtain ⟨a, vs, rfl, _⟩ := rb_seq h
    exact ⟨true, a, rfl, rfl⟩
  | _ => simp [seqOf] at e
theorem enumL_get : ∀ (n : Nat) (xs : List D) (i : Nat), (enumL n xs)[i]? = (xs[i]?).map fun x => .tuple [.int ((n + i : Nat) : Int), x]
  | n, [], i => by simp [enumL]
  | n, x :: xs, 0 => by simp [enumL]
  | n, x :: xs, i + 1 => by
    simp only [enumL, List.getElem?_cons_succ]
    rw [enumL_get (n + 1) xs i]
    congr 1
    funext y
    have : n + 1 + i = n + (i + 1) := by omega
    rw [this]
theorem enumL_len : ∀ (n : Nat) (xs : List D), (enumL n xs).length = xs.length
  | _, [] => rfl
  | n, x :: xs => by simp [enumL, enumL_len (n + 1) xs]
theorem zipL_get : ∀ (xs ys : List D) (i : Nat), (zipL xs ys)[i]? = (xs[i]?).bind fun x => (ys[i]?).map fun y => .tuple [x, y]
  | [], ys, i => by simp [zipL]
  | x :: xs, [], i => by
    simp only [zipL, List.getElem?_nil, Option.map_none]
    cases (x :: xs)[i]? <;> rfl
  | x :: xs, y :: ys, 0 => by simp [zipL]
  | x :: xs, y :: ys, i + 1 => by
    simp only [zipL, List.getElem?_cons_succ]
    exact zipL_get xs ys i
theorem zipL_len : ∀ (xs ys : List D), (zipL xs ys).length = min xs.length ys.length
  | [], ys => by simp [zipL]
  | x :: xs, [] => by simp [zipL]
  | x :: xs, y :: ys => by
    simp only [zipL, List.length_cons, zipL_len xs ys]
    omega
theorem rngL_get (i j : Int) (n : Nat) {d : D} (h : (rngL i j)[n]? = some d) : d = .int (i + n) := by
  unfold rngL at h
  rw [List.getElem?_map] at h
  obtain ⟨m, h1, rfl⟩ := Option.map_eq_some_iff.mp h
  have := List.getElem?_eq_some_iff.mp h1
  obtain ⟨hl, e⟩ := this
  rw [List.getElem_range] at e
  rw [e]
theorem rngL_len (i j : Int) : (rngL i j).length = (j - i).toNat := by simp [rngL]
theorem Rp.pair {H : Hp} {O : Addr → Prop} (dm : DomO O H) {d e : D} {x y : V} (h1 : Rp hf H O d x) (h2 : Rp hf H O e y) {T : Addr} (nt : H T = none) : Same H (upd H T (.tup [x, y])) ∧ Rp hf (upd H T (.tup [x, y])) O (.tuple [d, e]) (.ref T) := by
  have sm := same_new (o := HO.tup [x, y]) nt
  refine ⟨sm, ?_, fun a ea => ?_⟩
  · simp only [Rb]
    exact ⟨T, [x, y], rfl, upd_same, .cons (h1.grow sm) (.cons (h2.grow sm) .nil)⟩
  · cases ea
    exact fun o => dm.no o nt
theorem at_get {H : Hp} {O : Addr → Prop} {ds : List D} {vs : List V} {i : Nat} {d : D} {x : V} (hs : Rs hf H O ds vs) (hd : ds[i]? = some d) (hx : vs[i]? = some x) : Rp hf H O d x := by
  obtain ⟨v, e, r⟩ := hs.get hd
  rw [hx] at e
  cases e
  exact r
theorem src_seq {K : PySem.W.Frag} {k : Bool} {xs : List D} {a : Addr} (hK : ∀ H O, Rb hf H O (seqD k xs) (.ref a) → ∃ vs, SqK K H a vs k ∧ Rs hf H O xs vs) : Src hf (match k with | false => Itl K a | true => Itt K a) [seqD k xs] [.ref a] xs := by
  have at_ : ∀ H O, Bs hf H O [seqD k xs] [.ref a] → ∃ vs, SqK K H a vs k ∧ Rs hf H O xs vs := fun H O hb => by
    obtain ⟨v, e, h⟩ := hb.one
    cases e
    exact hK H O h
  cases k with
  | false =>
    refine ⟨fun H O i hb hi => ?_, fun H O hb => ?_, fun H O i x H' dm hb y d hd => ?_⟩
    · obtain ⟨vs, h1, h2⟩ := at_ H O hb
      have := h2.length
      exact ⟨vs, vs[i], h1, List.getElem?_eq_getElem (by omega)⟩
    · obtain ⟨vs, h1, h2⟩ := at_ H O hb
      have := h2.length
      exact ⟨vs, h1, by omega⟩
    · obtain ⟨vs, h1, h2⟩ := at_ H O hb
      obtain ⟨rfl, y2⟩ := y
      exact ⟨Same.refl _, at_get h2 hd (y2 vs h1)⟩
  | true =>
    refine ⟨fun H O i hb hi => ?_, fun H O hb => ?_, fun H O i x H' dm hb y d hd => ?_⟩
    · obtain ⟨vs, h1, h2⟩ := at_ H O hb
      have := h2.length
      exact ⟨vs, vs[i], h1, List.getElem?_eq_getElem (by omega)⟩
    · obtain ⟨vs, h1, h2⟩ := at_ H O hb
      have := h2.length
      exact ⟨vs, h1, by omega⟩
    · obtain ⟨vs, h1, h2⟩ := at_ H O hb
      obtain ⟨rfl, y2⟩ := y
      exact ⟨Same.refl _, at_get h2 hd (y2 vs h1)⟩
theorem src_zip {K : PySem.W.Frag} {k1 k2 : Bool} {xs ys : List D} {a b : Addr} (h1 : ∀ H O, Rb hf H O (seqD k1 xs) (.ref a) → ∃ vs, SqK K H a vs k1 ∧ Rs hf H O xs vs) (h2 : ∀ H O, Rb hf H O (seqD k2 ys) (.ref b) → ∃ vs, SqK K H b vs k2 ∧ Rs hf H O ys vs) :
    Src hf (ItZ K k1 k2 a b) [seqD k1 xs, seqD k2 ys] [.ref a, .ref b] (zipL xs ys) := by
  have at_ : ∀ H O, Bs hf H O [seqD k1 xs, seqD k2 ys] [.ref a, .ref b] → ∃ vs us, SqK K H a vs k1 ∧ Rs hf H O xs vs ∧ SqK K H b us k2 ∧ Rs hf H O ys us := fun H O hb => by
    obtain ⟨v, w, e, g1, g2⟩ := hb.two
    cases e
    obtain ⟨vs, q1, q2⟩ := h1 H O g1
    obtain ⟨us, q3, q4⟩ := h2 H O g2
    exact ⟨vs, us, q1, q2, q3, q4⟩
  refine ⟨fun H O i hb hi => ?_, fun H O hb => ?_, fun H O i x H' dm hb y d hd => ?_⟩
  · obtain ⟨vs, us, q1, q2, q3, q4⟩ := at_ H O hb
    have := q2.length
    have := q4.length
    rw [zipL_len] at hi
    exact ⟨vs, us, vs[i], us[i], q1, q3, List.getElem?_eq_getElem (by omega), List.getElem?_eq_getElem (by omega)⟩
  · obtain ⟨vs, us, q1, q2, q3, q4⟩ := at_ H O hb
    have := q2.length
    have := q4.length
    rw [zipL_len]
    exact ⟨vs, us, q1, q3, by omega, by omega, by omega⟩
  · obtain ⟨vs, us, q1, q2, q3, q4⟩ := at_ H O hb
    obtain ⟨T, x', y', rfl, nt, rfl, y1, y2⟩ := y
    rw [zipL_get] at hd
    simp only [Option.bind_eq_some_iff, Option.map_eq_some_iff] at hd
    obtain ⟨dx, ex, dy, ey, rfl⟩ := hd
    exact Rp.pair dm (at_get q2 ex (y1 vs q1)) (at_get q4 ey (y2 us q3)) nt
theorem src_enum {K : PySem.W.Frag} {k : Bool} {xs : List D} {a : Addr} (h1 : ∀ H O, Rb hf H O (seqD k xs) (.ref a) → ∃ vs, SqK K H a vs k ∧ Rs hf H O xs vs) :
    Src hf (ItE K k a) [seqD k xs] [.ref a] (enumL 0 xs) := by
  have at_ : ∀ H O, Bs hf H O [seqD k xs] [.ref a] → ∃ vs, SqK K H a vs k ∧ Rs hf H O xs vs := fun H O hb => by
    obtain ⟨v, e, h⟩ := hb.one
    cases e
    exact h1 H O h
  refine ⟨fun H O i hb hi => ?_, fun H O hb => ?_, fun H O i x H' dm hb y d hd => ?_⟩
  · obtain ⟨vs, q1, q2⟩ := at_ H O hb
    have := q2.length
    rw [enumL_len] at hi
    exact ⟨vs, vs[i], q1, List.getElem?_eq_getElem (by omega)⟩
  · obtain ⟨vs, q1, q2⟩ := at_ H O hb
    have := q2.length
    rw [enumL_len]
    exact ⟨vs, q1, by omega⟩
  · obtain ⟨vs, q1, q2⟩ := at_ H O hb
    obtain ⟨T, x', rfl, nt, rfl, y1⟩ := y
    rw [enumL_get] at hd
    simp only [Option.map_eq_some_iff] at hd
    obtain ⟨dx, ex, rfl⟩ := hd
    rw [Nat.zero_add]
    exact Rp.pair dm .int (at_get q2 ex (y1 vs q1)) nt
theorem src_rng {ds : List D} {vs : List V} {lo hi : Int} : Src hf (Itr lo (hi - lo).toNat) ds vs (rngL lo hi) := by
  refine ⟨fun H O i hb hi => ?_, fun H O hb => ?_, fun H O i x H' dm hb y d hd => ?_⟩
  · rw [rngL_len] at hi
    exact hi
  · rw [rngL_len]
    exact Nat.le_refl _
  · obtain ⟨rfl, rfl⟩ := y
    rw [rngL_get _ _ _ hd]
    exact ⟨Same.refl _, .int⟩

/-! the rules -/
theorem piSeq {e : Expr} {te : TE} (he : PE X e te) : PI X tg e (iD hf (fun σ H Q => te σ H fun v H1 => Q [v] H1) .seq) := by
  refine ⟨fun pins s σ H R I h => ?_⟩
  refine thn (he.run pins s σ H _ I h) fun v s1 ⟨x, H1, I1, r1, O, ds, xs, dm, hb, e, q⟩ => ?_
  have key : ∀ k a, ds = [seqD k xs] → x = .ref a → wpAny (model X.prog X.w) X.A (pyIter v) (PIE X pins σ tg R) X.xe s1 := fun k a e1 e2 => by
    subst e1 e2
    cases r1
    obtain ⟨u, eu, hu⟩ := hb.one
    cases eu
    have q1 := q _ (src_seq (K := X.K) (k := k) fun H O h => seqD_at h)
    obtain ⟨vs, h1, h2⟩ := seqD_at (X := X) hu
    obtain ⟨its, rv, p⟩ := sqk I1 h1
    have I2 : ∀ o : Obj, L2.Inv X pins σ H1 { s1 with heap := s1.heap.push o } := fun o => I1.kept (t' := s1.toks) fun b ob z => Heap.get?_push_of_some _ z
    have fp : ∀ b ∈ [s1.heap.objs.size], FpOk X pins H1 b := fun b hb => by
      rw [List.mem_singleton.mp hb]
      exact I1.fpOk (Nat.le_refl _) (I1.hok.fresh (Nat.le_refl _))
    cases k with
    | false =>
      refine wpAny_pyIter_list p ?_
      exact ⟨s1.heap.objs.size, [s1.heap.objs.size], _, _, H1, rfl, I2 _, turn_list a _, ⟨_, Heap.get?_push_size _ rfl, rfl, rfl⟩, fp, q1⟩
    | true =>
      refine wpAny_pyIter_tuple p ?_
      exact ⟨s1.heap.objs.size, [s1.heap.objs.size], _, _, H1, rfl, I2 _, turn_tuple a _, ⟨_, Heap.get?_push_size _ rfl, rfl, rfl⟩, fp, q1⟩
  match ds, e with
  | [.list zs], e =>
    simp only [itemsOf, Option.some.injEq] at e
    subst e
    obtain ⟨u, eu, hu⟩ := hb.one
    cases eu
    obtain ⟨a, vs, ea, _⟩ := rb_lst hu
    exact key false a rfl ea
  | [.tuple zs], e =>
    simp only [itemsOf, Option.some.injEq] at e
    subst e
    obtain ⟨u, eu, hu⟩ := hb.one
    cases eu
    obtain ⟨a, vs, ea, _⟩ := rb_seq hu
    exact key true a rfl ea
end
end Ev
/-! zip, enumerate, range as iterators; argument lists. -/
namespace Ev
open PySem PySem.Spec PyProof.Rows L2
/-- written without a star -/
def noStar : Expr → Bool
  | .Starred _ _ => false
  | _ => true
theorem star_cons {e : Expr} {es : List Expr} {env : PySem.Env} (h : noStar e = true) : starEach (e :: es) env = (false, eval e env) :: starEach es env := by
  cases e <;> first | rfl | cases h
theorem star_any {pos : Pos} {env : PySem.Env} : ∀ {es : List Expr}, es.all noStar = true → (backTo pos (starEach es env)).any (·.1) = false
  | [], _ => rfl
  | e :: es, h => by
    simp only [List.all_cons, Bool.and_eq_true] at h
    rw [star_cons h.1]
    show (false || (backTo pos (starEach es env)).any (·.1)) = false
    rw [star_any h.2]
    rfl
section
variable {X : Cx} {hf : D → Int} {tg : Expr}
theorem PE_imp {e : Expr} {t t' : TE} (h : PE X e t) (i : ∀ σ H Q, t' σ H Q → t σ H Q) : PE X e t' := ⟨fun pins s σ H Q I q => h.run pins s σ H Q I (i σ H Q q)⟩
theorem PT_imp {e : Expr} {t t' : TT} (h : PT X e t) (i : ∀ σ H Q, t' σ H Q → t σ H Q) : PT X e t' := ⟨fun pins s σ H Q I q => h.run pins s σ H Q I (i σ H Q q)⟩
theorem PA_imp {e : List Expr} {t t' : TA} (h : PA X e t) (i : ∀ σ H Q, t' σ H Q → t σ H Q) : PA X e t' := ⟨fun pos pins s σ H Q I q => h.run pos pins s σ H Q I (i σ H Q q)⟩
theorem PI_imp {tg e : Expr} {t t' : TI} (h : PI X tg e t) (i : ∀ σ H R, t' σ H R → t σ H R) : PI X tg e t' := ⟨fun pins s σ H R I q => h.run pins s σ H R I (i σ H R q)⟩
theorem PS_imp {e : Stmt} {t t' : TS} (h : L2.PS X e t) (i : ∀ D σ H, t' D σ H → t D σ H) : L2.PS X e t' := ⟨fun pins s σ H D I q => h.run pins s σ H D I (i D σ H q)⟩
theorem PSs_imp {e : List Stmt} {t t' : TS} (h : PSs X e t) (i : ∀ D σ H, t' D σ H → t D σ H) : PSs X e t' := ⟨fun pins s σ H D I q => h.run pins s σ H D I (i D σ H q)⟩
/-- with a stronger wish -/
def upA (t : TA) : TA := fun σ H Q => ∃ Q', t σ H Q' ∧ ∀ vs H1, Q' vs H1 → Q vs H1
theorem PA_up {es : List Expr} {t : TA} (h : PA X es t) : PA X es (upA t) := ⟨fun pos pins s σ H Q I ⟨Q', h1, h2⟩ => wpAny_mono (h.run pos pins s σ H Q' I h1) (fun us s1 ⟨vs, H1, I1, r, q⟩ => ⟨vs, H1, I1, r, h2 vs H1 q⟩) fun _ _ e => e⟩

theorem piZip {e e2 : Expr} {ta : TA} {p pos tpos : Pos} {elts : List Expr} {kk : Nat} (hg : Gl X "zip") (hm : X.mg "zip" = none) (ha : PA X [e, e2] ta) (n1 : noStar e = true) (n2 : noStar e2 = true) :
    PI X (.Tuple elts kk tpos) (.Call (.Name "zip" p) [e, e2] [] pos) (iD hf ta .zip) := by
  refine ⟨fun pins s σ H R I h => ?_⟩
  refine Call_ (ld_blt I hg hm PyProof.Rows.boot_zip (PyProof.Rows.callWith_type1 (thn (ha.run pos pins s σ H _ I h) fun us s1 ⟨vs, H1, I1, r1, q1⟩ => ?_) (star_cons n1) (star_any (by simp [n2]))))
  obtain ⟨O, ds, xs, dm, hb, ei, q⟩ := q1
  match ds, ei with
  | [d1, d2], ei =>
    simp only [itemsOf, Option.bind_eq_some_iff, Option.map_eq_some_iff] at ei
    obtain ⟨xs1, e1, xs2, e2, rfl⟩ := ei
    obtain ⟨v, w, rfl, h1, h2⟩ := hb.two
    obtain ⟨k1, a, rfl, rfl⟩ := seqOf_at h1 e1
    obtain ⟨k2, b, rfl, rfl⟩ := seqOf_at h2 e2
    have q1 := q _ (src_zip (K := X.K) (k1 := k1) (k2 := k2) (fun H O h => seqD_at h) fun H O h => seqD_at h)
    obtain ⟨vs1, s1', _⟩ := seqD_at (X := X) h1
    obtain ⟨vs2, s2', _⟩ := seqD_at (X := X) h2
    obtain ⟨its, rv, p1⟩ := sqk I1 s1'
    obtain ⟨its2, rv2, p2⟩ := sqk I1 s2'
    have eu : us = [Value.ref a, Value.ref b] := by
      cases r1 with
      | cons r rr =>
        cases rr with
        | cons r' rr =>
          cases rr
          cases r
          cases r'
          rfl
    subst eu
    have la := p1.lt
    have lb := p2.lt
    generalize hn : s1.heap.objs.size = n at la lb
    have na : ∀ k, ¬ (n + k = a) := fun k e => absurd (show n + k < n from by rw [e]; exact la) (Nat.not_lt.mpr (Nat.le_add_right _ _))
    have nb : ∀ k, ¬ (n + k = b) := fun k e => absurd (show n + k < n from by rw [e]; exact lb) (Nat.not_lt.mpr (Nat.le_add_right _ _))
    have na0 : a ≠ n := Nat.ne_of_lt la
    have nb0 : b ≠ n + 1 := Nat.ne_of_lt (Nat.lt_succ_of_lt lb)
    have nb1 : ¬ n = b := fun e => nb 0 e
    refine zip_begins2 (beginsK a its.toArray k1) (beginsK b its2.toArray k2) p1 p2 fun h' hz hTI hTO g1 g2 hsz hk => ?_
    refine wpAny_pyIter_zip hz ?_
    have I2 : L2.Inv X pins σ H1 { s1 with heap := h' } := I1.kept (t' := s1.toks) hk
    rw [hn] at hz hTI hTO g1 g2
    have S : ZipSep2 (n + 4) (n + 2) (n + 3) n (n + 1) [n, a] [n + 1, b] := by
      refine ⟨?_, ?_, ?_, ?_, ?_, ?_, ?_, ?_, ?_, ?_, ?_, ?_, ?_⟩ <;> simp [na, nb, nb1]
    refine ⟨n + 4, [n + 4, n + 2, n + 3, n, n + 1], _, _, H1, by rw [hn], I2, turnZ (k1 := k1) (k2 := k2) S na0 nb0, ⟨hz, hTI, ⟨_, _, hTO⟩, .new g1, .new g2⟩, fun c hc => ?_, q1⟩
    have hle : s1.heap.objs.size ≤ c := by
      rw [hn]
      simp only [List.mem_cons, List.not_mem_nil, or_false] at hc
      rcases hc with e | e | e | e | e <;> subst e <;> first | exact Nat.le_refl _ | exact Nat.le_add_right _ _
    exact I1.fpOk hle (I1.hok.fresh hle)
theorem piEnum {e : Expr} {ta : TA} {p pos tpos : Pos} {elts : List Expr} {kk : Nat} (hg : Gl X "enumerate") (hm : X.mg "enumerate" = none) (ha : PA X [e] ta) (n1 : noStar e = true) :
    PI X (.Tuple elts kk tpos) (.Call (.Name "enumerate" p) [e] [] pos) (iD hf ta .enum) := by
  refine ⟨fun pins s σ H R I h => ?_⟩
  refine Call_ (ld_blt I hg hm boot_enumerate (PyProof.Rows.callWith_type1 (thn (ha.run pos pins s σ H _ I h) fun us s1 ⟨vs, H1, I1, r1, q1⟩ => ?_) (star_cons n1) rfl))
  obtain ⟨O, ds, xs, dm, hb, ei, q⟩ := q1
  match ds, ei with
  | [d1], ei =>
    simp only [itemsOf, Option.map_eq_some_iff] at ei
    obtain ⟨xs1, e1, rfl⟩ := ei
    obtain ⟨v, rfl, h1⟩ := hb.one
    obtain ⟨k1, a, rfl, rfl⟩ := seqOf_at h1 e1
    have q1 := q _ (src_enum (K := X.K) (k := k1) fun H O h => seqD_at h)
    obtain ⟨vs1, s1', _⟩ := seqD_at (X := X) h1
    obtain ⟨its, rv, p1⟩ := sqk I1 s1'
    rw [Vals.ref1 r1]
    have la := p1.lt
    refine call_enum1 (beginsK a its.toArray k1) p1 fun h' he g1 hk => wpAny_pyIter_enum he ?_
    have I2 : L2.Inv X pins σ H1 { s1 with heap := h' } := I1.kept (t' := s1.toks) hk
    refine ⟨s1.heap.objs.size + 1, [s1.heap.objs.size + 1, s1.heap.objs.size], _, _, H1, rfl, I2, turnE (k := k1) (Nat.succ_ne_self _) (Nat.ne_of_gt (Nat.lt_succ_of_lt la)) (Nat.ne_of_lt la), ⟨⟨.none, he⟩, .new g1⟩, fun c hc => ?_, q1⟩
    have hle : s1.heap.objs.size ≤ c := by
      simp only [List.mem_cons, List.not_mem_nil, or_false] at hc
      rcases hc with e | e <;> subst e <;> first | exact Nat.le_refl _ | exact Nat.le_add_right _ _
    exact I1.fpOk hle (I1.hok.fresh hle)
theorem in62_ok {i : Int} (h : in62 i = true) : -(2 ^ 62) ≤ i ∧ i < 2 ^ 62 := by
  unfold in62 at h
  simp only [Bool.and_eq_true, decide_eq_true_eq] at h
  exact h
def upE (t : TE) : TE := fun σ H Q => ∃ Q', t σ H Q' ∧ ∀ v H1, Q' v H1 → Q v H1
theorem PE_up {e : Expr} {t : TE} (h : PE X e t) : PE X e (upE t) := ⟨fun pins s σ H Q I ⟨Q', h1, h2⟩ => wpAny_mono (h.run pins s σ H Q' I h1) (fun us s1 ⟨vs, H1, I1, r, q⟩ => ⟨vs, H1, I1, r, h2 vs H1 q⟩) fun _ _ e => e⟩
theorem rng_one {H : Hp} {O : Addr → Prop} {ds xs : List D} {v : V} (hb : Bs hf H O ds [v]) (e : itemsOf .rng ds = some xs) : ∃ j, ds = [.int j] ∧ v = .int j ∧ in62 j = true ∧ xs = rngL 0 j := by
  cases ds with
  | nil => exact hb.elim
  | cons d r =>
    cases r with
    | cons _ _ => exact hb.2.elim
    | nil =>
      cases d with
      | int j =>
        simp only [itemsOf] at e
        split at e
        · rename_i hj
          exact ⟨j, rfl, rb_int hb.1, hj, (Option.some.inj e).symm⟩
        · cases e
      | _ => cases e
theorem rng_two {H : Hp} {O : Addr → Prop} {ds xs : List D} {v u : V} (hb : Bs hf H O ds [v, u]) (e : itemsOf .rng ds = some xs) : ∃ i j, ds = [.int i, .int j] ∧ v = .int i ∧ u = .int j ∧ in62 i = true ∧ in62 j = true ∧ xs = rngL i j := by
  cases ds with
  | nil => exact hb.elim
  | cons d r =>
    cases r with
    | nil => exact hb.2.elim
    | cons d2 r =>
      cases r with
      | cons _ _ => exact hb.2.2.elim
      | nil =>
        cases d with
        | int i =>
          cases d2 with
          | int j =>
            simp only [itemsOf] at e
            split at e
            · rename_i hj
              simp only [Bool.and_eq_true] at hj
              exact ⟨i, j, rfl, rb_int hb.1, rb_int hb.2.1, hj.1, hj.2, (Option.some.inj e).symm⟩
            · cases e
          | _ => cases e
        | _ => cases e
theorem piRng1 {a : Expr} {ta : TE} {p pos : Pos} (hg : Gl X "range") (hm : X.mg "range" = none) (ha : PE X a ta) (n1 : noStar a = true) : PI X tg (.Call (.Name "range" p) [a] [] pos) (iD hf (tCons ta tNil) .rng) := by
  have h1 : PA X [a] (tCons (upE ta) tNil) := pa_cons (PE_up ha) pa_nil (star_cons n1)
  have h2 : PI X tg (.Call (.Name "range" p) [a] [] pos) (iRng1 (tCons (upE ta) tNil)) := pi_range1 hg hm h1 (star_cons n1)
  refine PI_imp h2 fun σ H R h => ?_
  refine ⟨_, h, fun v H1 ⟨O, ds, xs, dm, hb, ei, q⟩ => ?_⟩
  obtain ⟨j, rfl, rfl, hj, rfl⟩ := rng_one hb ei
  obtain ⟨b1, b2⟩ := in62_ok hj
  have q1 := q _ (src_rng (ds := [.int j]) (vs := [.int j]) (lo := 0) (hi := j))
  rw [Int.sub_zero] at q1
  exact ⟨j, rfl, b1, b2, q1⟩
theorem piRng2 {a b : Expr} {ta tb : TE} {p pos : Pos} (hg : Gl X "range") (hm : X.mg "range" = none) (ha : PE X a ta) (hb : PE X b tb) (n1 : noStar a = true) (n2 : noStar b = true) : PI X tg (.Call (.Name "range" p) [a, b] [] pos) (iD hf (tCons ta (tCons tb tNil)) .rng) := by
  have h1 : PA X [a, b] (tCons (upE ta) (tCons (upE tb) tNil)) := pa_cons (PE_up ha) (pa_cons (PE_up hb) pa_nil (star_cons n2)) (star_cons n1)
  have s2 : starEach [b] X.env = [(false, eval b X.env)] := star_cons n2
  have s1 : starEach [a, b] X.env = [(false, eval a X.env), (false, eval b X.env)] := by rw [star_cons n1, s2]
  have h2 : PI X tg (.Call (.Name "range" p) [a, b] [] pos) (iRng2 (tCons (upE ta) (tCons (upE tb) tNil))) := pi_range2 hg hm h1 s1 s2
  refine PI_imp h2 fun σ H R h => ?_
  refine ⟨_, h, fun v H1 h1 => ⟨_, h1, fun u H2 ⟨O, ds, xs, dm, hb, ei, q⟩ => ?_⟩⟩
  obtain ⟨i, j, rfl, rfl, rfl, hi, hj, rfl⟩ := rng_two hb ei
  obtain ⟨b1, b2⟩ := in62_ok hi
  obtain ⟨b3, b4⟩ := in62_ok hj
  exact ⟨i, j, rfl, ⟨b1, b2, b3, b4⟩, q _ (src_rng (ds := [.int i, .int j]) (vs := [.int i, .int j]) (lo := i) (hi := j))⟩
end
end Ev
/-! The slots of a def in the abstract heap, and what an expression's value is to be. -/
namespace Ev
open PySem PySem.Spec PyProof.Rows L2

/-- fixed in a text: how keys hash, what the defs do, the pot's slot, what is wished of errors -/
structure EC where
  hf : D → Int
  F : Nat → List D → M D
  pi : Nat
  hp : Bool
  xq : Nat → List D → PS → Prop
/-- of one entry: what data may not lean on, the heap at the entry, the pot -/
structure RC where
  O0 : Addr → Prop
  H0 : Hp
  pt : Option (Addr × Addr)
def isP (pt : Option (Addr × Addr)) (a : Addr) : Prop := match pt with
  | some (P, C) => a = P ∨ a = C
  | none => False
def PotIs (pt : Option (Addr × Addr)) (H : Hp) (ps : PS) : Prop := match pt with
  | some (P, C) => P ≠ C ∧ H P = some (.lst [.ref C, .int ps.mixed, .int ps.count]) ∧ H C = some (.lst (ps.cells.map V.int))
  | none => True
/-- all but the pot is kept -/
def KB (pt : Option (Addr × Addr)) (H H' : Hp) : Prop := ∀ a o, ¬ isP pt a → H a = some o → H' a = some o
def OO (c : RC) (ad : Nat → Addr) (env : Env) : Addr → Prop := fun a => c.O0 a ∨ ∃ (i : Nat) (d : D), env[i]? = some (.ow d) ∧ a = ad i
section
variable {pt : Option (Addr × Addr)} {H H' H'' : Hp} {ps ps' : PS}
theorem KB.refl (H : Hp) : KB pt H H := fun _ _ _ h => h
theorem KB.trans (h : KB pt H H') (k : KB pt H' H'') : KB pt H H'' := fun a o n e => k a o n (h a o n e)
theorem Same.kb (h : Same H H') : KB pt H H' := fun a o _ e => h a o e
theorem PotIs.same (h : Same H H') (p : PotIs pt H ps) : PotIs pt H' ps := by
  unfold PotIs at p ⊢
  split
  · obtain ⟨n, p1, p2⟩ := p
    exact ⟨n, h _ _ p1, h _ _ p2⟩
  · trivial
theorem PotIs.stands (p : PotIs pt H ps) {a : Addr} (h : isP pt a) : ∃ xs, H a = some (.lst xs) := by
  unfold isP at h
  unfold PotIs at p
  split at h
  · obtain ⟨n, p1, p2⟩ := p
    rcases h with e | e
    · subst e; exact ⟨_, p1⟩
    · subst e; exact ⟨_, p2⟩
  · exact h.elim
theorem KB.none (k : KB pt H H') (p : PotIs pt H' ps) {a : Addr} (h : H' a = .none) : H a = .none := by
  cases e : H a with
  | none => rfl
  | some o =>
    by_cases n : isP pt a
    · obtain ⟨xs, e2⟩ := p.stands n
      rw [h] at e2; cases e2
    · rw [k a o n e] at h; cases h
end
/-- looked at (b), or handed on -/
def Rq (E : EC) (pt : Option (Addr × Addr)) (O : Addr → Prop) (b : Bool) (H : Hp) (d : D) (v : V) : Prop := Rb E.hf H O d v ∧ NoO (if b then isP pt else O) v
structure Rl (E : EC) (c : RC) (ad : Nat → Addr) (env : Env) (ps : PS) (σ : L2.St) (H : Hp) : Prop where
  len : env.length ≤ σ.length
  va : ∀ (i : Nat) (d : D), env[i]? = some (.va d) → ∃ v, σ[i]? = some (some v) ∧ Rp E.hf H (OO c ad env) d v
  ow : ∀ (i : Nat) (d : D), env[i]? = some (.ow d) → σ[i]? = some (some (.ref (ad i))) ∧ OwnAt E.hf H (OO c ad env) (ad i) d ∧ c.H0 (ad i) = none
  inj : ∀ (i j : Nat) (d e : D), env[i]? = some (.ow d) → env[j]? = some (.ow e) → ad i = ad j → i = j
  dom : DomO (OO c ad env) H
  keep : KB c.pt c.H0 H
  pot : PotIs c.pt H ps
  po : ∀ a, isP c.pt a → c.O0 a ∧ c.H0 a ≠ none
  pv : ∀ P C, c.pt = some (P, C) → σ[E.pi]? = some (some (.ref P))
  hp : E.hp = true → c.pt ≠ none
section
variable {E : EC} {c : RC} {ad : Nat → Addr} {env : Env} {ps ps' : PS} {σ : L2.St} {H H' : Hp}
theorem Rl.notP (R : Rl E c ad env ps σ H) {i : Nat} {d : D} (h : env[i]? = some (.ow d)) : ¬ isP c.pt (ad i) := fun p => (R.po _ p).2 (R.ow i d h).2.2
theorem rp_kb (po : ∀ a, isP c.pt a → OO c ad env a) (k : KB c.pt H H') {d : D} {v : V} (h : Rp E.hf H (OO c ad env) d v) : Rp E.hf H' (OO c ad env) d v :=
  h.move (fun a o n e => k a o (fun p => n (po a p)) e) fun a o n _ => n
theorem rs_kb (po : ∀ a, isP c.pt a → OO c ad env a) (k : KB c.pt H H') {ds : List D} {vs : List V} (h : Rs E.hf H (OO c ad env) ds vs) : Rs E.hf H' (OO c ad env) ds vs :=
  Rs.move (fun a o n e => k a o (fun p => n (po a p)) e) (fun a o n _ => n) ds vs h
theorem rb_kb (po : ∀ a, isP c.pt a → OO c ad env a) (k : KB c.pt H H') {d : D} {v : V} (h : Rb E.hf H (OO c ad env) d v) (n : NoO (isP c.pt) v) : Rb E.hf H' (OO c ad env) d v := by
  have mv : ∀ {ds : List D} {vs : List V}, Rs E.hf H (OO c ad env) ds vs → Rs E.hf H' (OO c ad env) ds vs := fun h => rs_kb po k h
  cases d with
  | none => simpa only [Rb] using h
  | bool b => simpa only [Rb] using h
  | int i => simpa only [Rb] using h
  | str s => simpa only [Rb] using h
  | list ds =>
    simp only [Rb] at h ⊢
    obtain ⟨a, vs, e, hr, hs⟩ := h
    exact ⟨a, vs, e, k a _ (n a e) hr, mv hs⟩
  | tuple ds =>
    simp only [Rb] at h ⊢
    obtain ⟨a, vs, e, hr, hs⟩ := h
    exact ⟨a, vs, e, k a _ (n a e) hr, mv hs⟩
  | dict ds =>
    simp only [Rb] at h ⊢
    obtain ⟨a, es, ep, qs, vs, e, hr, hn, hz, he, hk⟩ := h
    exact ⟨a, es, ep, qs, vs, e, rdKeep (fun o => k a o (n a e)) hr, hn, hz, he, Rk.move (fun a o n e => k a o (fun p => n (po a p)) e) (fun a o n _ => n) ds qs vs hk⟩
theorem Rl.pOO (R : Rl E c ad env ps σ H) : ∀ a, isP c.pt a → OO c ad env a := fun a p => .inl (R.po a p).1
theorem Rq.kb (R : Rl E c ad env ps σ H) (k : KB c.pt H H') {b : Bool} {d : D} {v : V} (h : Rq E c.pt (OO c ad env) b H d v) : Rq E c.pt (OO c ad env) b H' d v := by
  cases b with
  | true => exact ⟨rb_kb R.pOO k h.1 h.2, h.2⟩
  | false => exact rp_kb (E := E) R.pOO k h
theorem Rq.bor (R : Rl E c ad env ps σ H) {H1 : Hp} {b : Bool} {d : D} {v : V} (h : Rq E c.pt (OO c ad env) b H1 d v) : Rb E.hf H1 (OO c ad env) d v := h.1
theorem Rq.of_rp (R : Rl E c ad env ps σ H) {H1 : Hp} {b : Bool} {d : D} {v : V} (h : Rp E.hf H1 (OO c ad env) d v) : Rq E c.pt (OO c ad env) b H1 d v := by
  cases b with
  | true => exact ⟨h.1, fun a e p => h.2 a e (R.pOO a p)⟩
  | false => exact h
/-- the heap goes on: all but the pot kept -/
theorem Rl.step (R : Rl E c ad env ps σ H) (k : KB c.pt H H') (p : PotIs c.pt H' ps') : Rl E c ad env ps' σ H' where
  len := R.len
  va := fun i d h => by
    obtain ⟨v, e, r⟩ := R.va i d h
    exact ⟨v, e, rp_kb (E := E) R.pOO k r⟩
  ow := fun i d h => by
    obtain ⟨e, o, n⟩ := R.ow i d h
    exact ⟨e, o.move (fun o e => k _ o (R.notP h) e) (fun a o n e => k a o (fun p => n (R.pOO a p)) e) (fun a o n _ => n), n⟩
  inj := R.inj
  dom := fun a o => by
    by_cases hp : isP c.pt a
    · obtain ⟨xs, e⟩ := p.stands hp
      exact ⟨_, e, rfl⟩
    · obtain ⟨u, e, t⟩ := R.dom a o
      exact ⟨u, k a u hp e, t⟩
  keep := R.keep.trans k
  pot := p
  po := R.po
  pv := R.pv
  hp := R.hp
theorem Rl.same (R : Rl E c ad env ps σ H) (h : Same H H') : Rl E c ad env ps σ H' := R.step (Same.kb h) (R.pot.same h)
end

/-- what a value is to be, from the heap H on -/
def Cont (E : EC) (c : RC) (O : Addr → Prop) (b fr : Bool) (H : Hp) (d : D) (ps : PS) (Q : VK) : Prop :=
  ∀ v H', KB c.pt H H' → PotIs c.pt H' ps → Rq E c.pt O b H' d v → (fr = true → ownable d = true → ∃ a, v = .ref a ∧ H a = none ∧ OwnAt E.hf H' (fun b => O b ∨ b = a) a d) → Q v H'
/-- does an expression make its list or dict anew -/
def isFr : IE → Bool
  | .lst _ => true
  | .dct0 => true
  | .bin _ _ _ => true
  | .sl _ _ _ => true
  | .rev _ => true
  | .bi _ _ => true
  | .lc _ _ _ _ _ _ => true
  | .ife _ a b => isFr a && isFr b
  | _ => false
def TEv (E : EC) (b : Bool) (ie : IE) : TE := fun σ H Q => ∃ c ad env ps, Rl E c ad env ps σ H ∧ (ev E.F b ie env ps).Wp (fun d ps' => Cont E c (OO c ad env) b (isFr ie) H d ps' Q) E.xq
def TTv (E : EC) (b : Bool) (ie : IE) : TT := fun σ H Q => ∃ c ad env ps, Rl E c ad env ps σ H ∧ (ev E.F b ie env ps).Wp (fun d ps' => ∃ t, tru d = some t ∧ ∀ H', KB c.pt H H' → PotIs c.pt H' ps' → Q t H') E.xq
/-- many -/
def Bq (E : EC) (pt : Option (Addr × Addr)) (O : Addr → Prop) (b : Bool) (H : Hp) : List D → List V → Prop
  | [], [] => True
  | d :: ds, v :: vs => Rq E pt O b H d v ∧ Bq E pt O b H ds vs
  | _, _ => False
def TAv (E : EC) (b : Bool) (es : List IE) : TA := fun σ H Q => ∃ c ad env ps, Rl E c ad env ps σ H ∧ (evs E.F b es env ps).Wp (fun ds ps' => ∀ vs H', KB c.pt H H' → PotIs c.pt H' ps' → Bq E c.pt (OO c ad env) b H' ds vs → Q vs H') E.xq
section
variable {E : EC} {c : RC} {ad : Nat → Addr} {env : Env} {ps ps' : PS} {σ : L2.St} {H H' : Hp} {b fr : Bool} {O : Addr → Prop} {Q : VK} {d : D}
theorem Bq.bs : ∀ {ds : List D} {vs : List V} {pt : Option (Addr × Addr)}, Bq E pt O b H ds vs → Bs E.hf H O ds vs
  | [], [], _, _ => trivial
  | [], _ :: _, _, h => h
  | _ :: _, [], _, h => h
  | d :: ds, v :: vs, _, h => ⟨h.1.1, Bq.bs h.2⟩
theorem Bq.rs : ∀ {ds : List D} {vs : List V} {pt : Option (Addr × Addr)}, Bq E pt O false H ds vs → Rs E.hf H O ds vs
  | [], [], _, _ => .nil
  | [], _ :: _, _, h => h.elim
  | _ :: _, [], _, h => h.elim
  | d :: ds, v :: vs, _, h => .cons h.1 (Bq.rs h.2)
theorem Bq.kb (R : Rl E c ad env ps σ H) (k : KB c.pt H H') : ∀ {ds : List D} {vs : List V}, Bq E c.pt (OO c ad env) b H ds vs → Bq E c.pt (OO c ad env) b H' ds vs
  | [], [], _ => trivial
  | [], _ :: _, h => h
  | _ :: _, [], h => h
  | d :: ds, v :: vs, h => ⟨Rq.kb R k h.1, Bq.kb R k h.2⟩
/-- a later heap to start from -/
theorem Cont.later (h : Cont E c O b fr H d ps Q) (k : KB c.pt H H') (p : PotIs c.pt H' ps') : Cont E c O b fr H' d ps Q := fun v H2 k2 p2 r f => h v H2 (k.trans k2) p2 r fun e o => by
  obtain ⟨a, e1, e2, e3⟩ := f e o
  exact ⟨a, e1, k.none p e2, e3⟩
theorem Cont.res (R : Rl E c ad env ps σ H) (h : Cont E c (OO c ad env) b fr H d ps Q) {fr' : Bool} (hf : fr = true → fr' = true) : Res E.hf fr' H (OO c ad env) d Q := fun v H2 sm r f => h v H2 (Same.kb sm) (R.pot.same sm) (Rq.of_rp R r) fun e o => f (hf e) o
/-- a value that stands already, and is not new -/
theorem Cont.here (R : Rl E c ad env ps σ H) (h : Cont E c (OO c ad env) b fr H d ps Q) {v : V} (r : Rq E c.pt (OO c ad env) b H d v) (hn : fr = false ∨ ownable d = false) : Q v H := h v H (KB.refl _) R.pot r fun e o => by
  rcases hn with n | n
  · rw [n] at e; cases e
  · rw [n] at o; cases o
theorem Cont.imp {Q' : VK} (h : Cont E c O b fr H d ps Q) (i : ∀ v H', PotIs c.pt H' ps → Rq E c.pt O b H' d v → Q v H' → Q' v H') : Cont E c O b fr H d ps Q' := fun v H' k p r f => i v H' p r (h v H' k p r f)
end
/-! ### two operands -/
section
variable {E : EC} {b fr : Bool} {σ : L2.St} {H : Hp} {Q : VK}
theorem comp2 {c : RC} {ad : Nat → Addr} {env : Env} {ps : PS} {f : D → D → Option D} {x y : IE} {fr' : Bool} (R : Rl E c ad env ps σ H) (hf : fr = true → fr' = true)
    (w : ((ev E.F true x env ps).bind fun dx p => (ev E.F true y env p).bind fun dy p => opt (f dx dy) p).Wp (fun d ps' => Cont E c (OO c ad env) b fr H d ps' Q) E.xq) :
    tOp (rD2 E.hf fr' f) (TEv E true x) (TEv E true y) σ H Q := by
  refine ⟨c, ad, env, ps, R, (Out.wp_bind.mp w).mono (fun dx p1 _ w1 => fun v H1 k1 q1 r1 _ => ?_) fun _ _ _ _ h => h⟩
  refine ⟨c, ad, env, p1, R.step k1 q1, (Out.wp_bind.mp w1).mono (fun dy p2 _ w2 => fun u H2 k2 q2 r2 _ => ?_) fun _ _ _ _ h => h⟩
  obtain ⟨d, e, w3⟩ := wp_opt.mp w2
  have R2 := (R.step k1 q1).step k2 q2
  exact ⟨_, dx, dy, d, R2.dom, (Rq.kb (R.step k1 q1) k2 r1).1, r2.1, e, (w3.later (k1.trans k2) q2).res R2 hf⟩
/-- a test whose value is a truth -/
theorem test_of {ie : IE} {R : Bool → Hp → Prop} (hb : ∀ env p d p', ev E.F b ie env p = .ok d p' → ∃ t, d = .bool t) (h : TTv E b ie σ H R) : TEv E b ie σ H fun x H' => ∃ k, x = .bl k ∧ R k H' := by
  obtain ⟨c, ad, env, ps, Rr, w⟩ := h
  refine ⟨c, ad, env, ps, Rr, w.mono (fun d p e w1 => fun v H' k q r _ => ?_) fun _ _ _ _ h => h⟩
  obtain ⟨t, rfl⟩ := hb _ _ _ _ e
  obtain ⟨t', e', w2⟩ := w1
  simp only [tru, Option.some.injEq] at e'
  subst e'
  exact ⟨t, by simpa only [Rb] using r.1, w2 H' k q⟩
/-- a test by any value -/
theorem test_val {K : PySem.W.Frag} {ie : IE} {R : Bool → Hp → Prop} (h : TTv E b ie σ H R) : TEv E b ie σ H fun x H' => ∃ k, TruV K x H' k ∧ R k H' := by
  obtain ⟨c, ad, env, ps, Rr, w⟩ := h
  refine ⟨c, ad, env, ps, Rr, w.mono (fun d p e w1 => fun v H' k q r _ => ?_) fun _ _ _ _ h => h⟩
  obtain ⟨t, e', w2⟩ := w1
  exact ⟨t, truV r.1 e', w2 H' k q⟩
theorem tav_cons {e : IE} {es : List IE} {R : List V → Hp → Prop} (h : TAv E b (e :: es) σ H R) : tCons (TEv E b e) (TAv E b es) σ H R := by
  obtain ⟨c, ad, env, ps, Rr, w⟩ := h
  simp only [evs] at w
  refine ⟨c, ad, env, ps, Rr, (Out.wp_bind.mp w).mono (fun dx p1 _ w1 => fun v H1 k1 q1 r1 _ => ?_) fun _ _ _ _ h => h⟩
  refine ⟨c, ad, env, p1, Rr.step k1 q1, (Out.wp_bind.mp w1).mono (fun ds p2 _ w2 => fun vs H2 k2 q2 r2 => ?_) fun _ _ _ _ h => h⟩
  exact w2 _ _ (k1.trans k2) q2 ⟨Rq.kb (Rr.step k1 q1) k2 r1, r2⟩
theorem tav_end {R : List V → Hp → Prop} (h : TAv E b [] σ H R) : tNil σ H R := by
  obtain ⟨c, ad, env, ps, Rr, w⟩ := h
  simp only [evs] at w
  exact w [] H (KB.refl _) Rr.pot trivial
end
end Ev
/-! What a def promises (no error passes), calls; a text's facts; how the written text is matched. -/
namespace Ev
open PySem PySem.Spec PyProof.Rows L2

abbrev cx0 : CXT := C8.CX0
/-- a def's promise where nothing is being shown -/
structure FnG (P : Program) (w : World) (K : PySem.W.Frag) (mg : Str → Option Value) (base : Heap) (k : Nat) (f : Addr) (fd : FuncData) (ps : List Str) (sp : Sp) : Prop where
  run : ∀ (A : Around) (outer : List PySem.Env) (s : Shared) (H : Hp) (args : Args) (us : List Value) (vs : List V) (Q : VK) (E : XK), Room k A → A.guards = some [] → Env0 P w K mg base A outer s H → BindsTo s fd args (ps.zip us) → Vals vs us → vs.length = ps.length → sp vs H Q E →
    codeAny (model P w) A (.call (.ref f) args) (CR cx0 outer P w H s Q E) s
theorem FnG.mono {P : Program} {w : World} {K : PySem.W.Frag} {mg : Str → Option Value} {base : Heap} {j k : Nat} {f : Addr} {fd : FuncData} {ps : List Str} {sp : Sp} (F : FnG P w K mg base j f fd ps sp) (h : j ≤ k) : FnG P w K mg base k f fd ps sp :=
  ⟨fun A outer s H args us vs Q E hr => F.run A outer s H args us vs Q E (hr.mono h)⟩
/-- how written arguments reach the parameters -/
def Shape (K : PySem.W.Frag) (fd : FuncData) (ps : List Str) (n : Nat) (ks : List Str) (pm : List Nat) : Prop :=
  ∀ (s : Shared) (us ws as : List Value), K.In s.heap → us.length = n → ws.length = ks.length → pick (us ++ ws) pm = some as → as.length = ps.length ∧ BindsTo s fd ⟨us, ks.zip ws⟩ (ps.zip as)
/-- what a def does: its data, the pot where it takes one -/
def SpG (hf : D → Int) (pot : Bool) (G : List D → M D) : Sp := fun vs H Q _ => ∃ (O : Addr → Prop) (ds : List D) (ps : PS) (pt : Option (Addr × Addr)) (vs' : List V), DomO O H ∧ PotIs pt H ps ∧ (∀ a, isP pt a → O a) ∧
  (match pot with
    | false => pt = none ∧ vs = vs'
    | true => ∃ P C, pt = some (P, C) ∧ vs = .ref P :: vs') ∧ Rs hf H O ds vs' ∧
  (G ds ps).Wp (fun d ps' => ∀ v H', KB pt H H' → PotIs pt H' ps' → Rp hf H' O d v → Q v H') fun _ _ _ => False
theorem pick_rel {vs : List V} {us : List Value} (r : Vals vs us) : ∀ {pm : List Nat} {as : List V}, pick vs pm = some as → ∃ bs, pick us pm = some bs ∧ Vals as bs
  | [], as, h => by
    simp only [pick, Option.some.injEq] at h
    subst h
    exact ⟨[], rfl, .nil⟩
  | j :: pm, as, h => by
    simp only [pick, Option.bind_eq_some_iff, Option.map_eq_some_iff] at h
    obtain ⟨v, h1, r', h2, rfl⟩ := h
    obtain ⟨u, hu, ru⟩ := r.get h1
    obtain ⟨bs, hb, rb⟩ := pick_rel r h2
    exact ⟨u :: bs, by simp [pick, hu, hb], .cons ru rb⟩
theorem pick_rs {hf : D → Int} {H : Hp} {O : Addr → Prop} {ds : List D} {vs : List V} (r : Rs hf H O ds vs) : ∀ {pm : List Nat} {as : List D}, pick ds pm = some as → ∃ bs, pick vs pm = some bs ∧ Rs hf H O as bs
  | [], as, h => by
    simp only [pick, Option.some.injEq] at h
    subst h
    exact ⟨[], rfl, .nil⟩
  | j :: pm, as, h => by
    simp only [pick, Option.bind_eq_some_iff, Option.map_eq_some_iff] at h
    obtain ⟨v, h1, r', h2, rfl⟩ := h
    obtain ⟨u, hu, ru⟩ := r.get h1
    obtain ⟨bs, hb, rb⟩ := pick_rs r h2
    exact ⟨u :: bs, by simp [pick, hu, hb], .cons ru rb⟩
theorem pick_up {α : Type} (x : α) (xs : List α) : ∀ {pm : List Nat} {as : List α}, pick xs pm = some as → pick (x :: xs) (0 :: pm.map (· + 1)) = some (x :: as) := by
  have h : ∀ {pm : List Nat} {as : List α}, pick xs pm = some as → pick (x :: xs) (pm.map (· + 1)) = some as := by
    intro pm
    induction pm with
    | nil => intro as h; exact h
    | cons j pm ih =>
      intro as h
      simp only [pick, Option.bind_eq_some_iff, Option.map_eq_some_iff] at h
      obtain ⟨v, h1, r', h2, rfl⟩ := h
      simp [pick, h1, ih h2]
  intro pm as e
  simp [pick, h e]
section
variable {X : Cx} {k : Nat} {f : Addr} {fd : FuncData} {ps ks : List Str} {n : Nat} {pm : List Nat} {sp : Sp}
theorem runG {pins : List (Addr × Obj)} {σ : L2.St} {H : Hp} {s : Shared} {Q : VK} {us ws : List Value} {vs zs as : List V} {E : XK} (F : FnG X.prog X.w X.K X.mg X.base k f fd ps sp) (hr : Room k X.A) (hg : X.A.guards = some []) (hb : Shape X.K fd ps n ks pm)
    (I : L2.Inv X pins σ H s) (r : Vals vs us) (rz : Vals zs ws) (h1 : us.length = n) (h2 : ws.length = ks.length) (hp : pick (vs ++ zs) pm = some as) (h : sp as H Q E) : wpAny (model X.prog X.w) X.A (call (.ref f) us (ks.zip ws)) (EP X pins σ Q) X.xe s := by
  obtain ⟨bs, e, rb⟩ := pick_rel (r.append rz) hp
  obtain ⟨hl, hB⟩ := hb s us ws bs I.kIn h1 h2 e
  refine wpAny_call (codeAny_mono (F.run X.A X.stack s H ⟨us, ks.zip ws⟩ bs as Q E hr hg I.env0 hB rb (by rw [rb.length]; exact hl) h) fun r s' hq => ?_)
  cases r with
  | error e => exact False.elim hq
  | ok fl =>
    cases fl with
    | ret u => exact I.after hq
    | next => exact False.elim hq
    | brk => exact False.elim hq
    | cont => exact False.elim hq
end

/-! ### what is known of a text -/
/-- slots, the pot's slot, the defs (name, pot or not), the ways they are called (positional ones, keywords, order), the constants -/
structure Inf where
  N : List Str
  pi : Nat
  hp : Bool
  defs : List (Str × Bool)
  shapes : List (Nat × Nat × List Str × List Nat)
  cs : List (Str × Int)
def biStr : BI → Str
  | .len => "len"
  | .tuple => "tuple"
  | .list => "list"
  | .int => "int"
  | .abs => "abs"
  | .sum => "sum"
  | .max => "max"
  | .min => "min"
  | .sorted => "sorted"
  | .any => "any"
  | .all => "all"
  | .repr => "repr"
def blNames : List Str := ["len", "tuple", "list", "int", "abs", "sum", "max", "min", "sorted", "any", "all", "repr", "range", "zip", "enumerate", "isinstance", "bool", "str", "dict"]
structure Call1 (X : Cx) (E : EC) (x : Str) (pot : Bool) (G : List D → M D) (shapes : List (Nat × List Str × List Nat)) : Prop where
  ok : ∃ (k : Nat) (fa : Addr) (fd : FuncData) (ps : List Str), X.mg x = some (.ref fa) ∧ PySem.W.keepIn X.K (.ref fa) = true ∧ Room k X.A ∧ FnG X.prog X.w X.K X.mg X.base k fa fd ps (SpG E.hf pot G) ∧ ∀ q ∈ shapes, Shape X.K fd ps q.1 q.2.1 q.2.2
structure XOk (X : Cx) (J : Inf) (E : EC) (sc : Scope) : Prop where
  sc : X.env.scope = sc
  N : X.N = J.N
  nd : X.N.Nodup
  calm : X.calm = true
  un : X.A.units + 70 < cLine
  gd : X.A.guards = some []
  sm : ∃ o, X.base.get? sysModules = some o
  bl : ∀ x ∈ blNames, X.mg x = none
  cs : ∀ x n, (x, n) ∈ J.cs → ∃ t, X.mg x = some (.int n t)
  pi : E.pi = J.pi
  hp : E.hp = J.hp
  nx : ∀ cc fs p, E.xq cc fs p → False
  pure : ∀ (f : Nat) x, J.defs[f]? = some (x, false) → ∀ ds ps, (∃ d, E.F f ds ps = .ok d ps) ∨ E.F f ds ps = .bad
  call : ∀ (f : Nat) x pot, J.defs[f]? = some (x, pot) → Call1 X E x pot (E.F f) ((J.shapes.filter fun q => q.1 == f).map (·.2))

/-! ### the written text against the slots' text -/
def notDbg (x : Str) : Bool := !(x == ("__debug__" : Str)) && !(x == ("__classdict__" : Str))
def visB (sc : Scope) (x : Str) : Bool := match sc.names.lookup x with
  | some .local => true
  | some .cell => true
  | some .free => true
  | _ => false
def glB (sc : Scope) (x : Str) : Bool := match sc.names.lookup x with
  | some .globalImplicit => true
  | _ => false
def locB (sc : Scope) (fb : Str → Bool) (x : Str) : Bool := match sc.names.lookup x with
  | some .local => true
  | some .cell => fb x
  | _ => false
def isOp : BOp → Operator → Bool
  | .add, .Add => true
  | .sub, .Sub => true
  | .mul, .Mult => true
  | .fdiv, .FloorDiv => true
  | .mod, .Mod => true
  | .pow, .Pow => true
  | _, _ => false
theorem isOp_eq {a : BOp} {o : Operator} (h : isOp a o = true) : o = opOf a := by
  cases a <;> cases o <;> first | rfl | cases h
def isCo : COp → CmpOp → Bool
  | .eq, .Eq => true
  | .ne, .NotEq => true
  | .lt, .Lt => true
  | .le, .LtE => true
  | .gt, .Gt => true
  | .ge, .GtE => true
  | _, _ => false
theorem isCo_eq {a : COp} {o : CmpOp} (h : isCo a o = true) : o = cmpOf a := by
  cases a <;> cases o <;> first | rfl | cases h
def isBo : Bool → BoolOp → Bool
  | true, .And => true
  | false, .Or => true
  | _, _ => false
def isIs : Bool → CmpOp → Bool
  | false, .Is => true
  | true, .IsNot => true
  | _, _ => false
def isMe : Bool → CmpOp → Bool
  | false, .In => true
  | true, .NotIn => true
  | _, _ => false
def notSet : Expr → Bool
  | .Set _ _ _ => false
  | _ => true
def notSl : Expr → Bool
  | .Slice _ _ _ _ => false
  | _ => true
def isTy : Ty → Str → Bool
  | .int, x => decide (x = "int")
  | .bool, x => decide (x = "bool")
  | .tuple, x => decide (x = "tuple")
  | .list, x => decide (x = "list")
  | .str, x => decide (x = "str")
  | .dict, x => decide (x = "dict")
def okVar (J : Inf) (sc : Scope) (i : Nat) (x : Str) : Bool := decide (J.N[i]? = some x) && visB sc x && notDbg x
mutual
def isTg (J : Inf) (sc : Scope) (fb : Str → Bool) : Tg → Expr → Bool
  | .nm i, .Name x _ => decide (J.N[i]? = some x) && locB sc fb x && decide (i ≠ J.pi)
  | .tp ts, .Tuple es _ _ => isTgs J sc fb ts es
  | _, _ => false
def isTgs (J : Inf) (sc : Scope) (fb : Str → Bool) : List Tg → List Expr → Bool
  | [], [] => true
  | t :: ts, e :: es => noStar e && isTg J sc fb t e && isTgs J sc fb ts es
  | _, _ => false
end
mutual
def tgIx : Tg → List Nat
  | .nm i => [i]
  | .tp ts => tgIxs ts
def tgIxs : List Tg → List Nat
  | [] => []
  | t :: ts => tgIx t ++ tgIxs ts
end
def isTup0 : Expr → Bool
  | .Tuple _ _ _ => true
  | _ => false
/-- the function's name, the way it is called -/
def okCall (J : Inf) (sc : Scope) (f : Nat) (pot : Bool) (x : Str) (n : Nat) (ks : List Str) (pm : List Nat) : Bool :=
  decide (J.defs[f]? = some (x, pot)) && glB sc x && notDbg x && decide ((f, n, ks, pm) ∈ J.shapes)
/-! what is walked: the iterator's call, its arguments -/
def itArgs : ItK → Expr → List Expr
  | .seq, x => [x]
  | _, .Call _ xs _ _ => xs
  | _, _ => []
def itN : ItK → Str → Nat → Bool
  | .rng, r, n => decide (r = "range") && (n == 1 || n == 2)
  | .zip, r, n => decide (r = "zip") && n == 2
  | .enum, r, n => decide (r = "enumerate") && n == 1
  | _, _, _ => false
def itTup : ItK → Bool
  | .zip => true
  | .enum => true
  | _ => false
def callName : Expr → Option Str
  | .Call (.Name r _) _ [] _ => some r
  | _ => none
def itOk (sc : Scope) (tg : Expr) (k : ItK) (x : Expr) : Bool := match k with
  | .seq => true
  | k => match callName x with
    | some r => glB sc r && itN k r (itArgs k x).length && (!itTup k || isTup0 tg)
    | none => false
/-! t: as a test (what isTrue takes apart) -/
mutual
def isE (J : Inf) : Scope → Bool → IE → Expr → Bool
  | sc, _, .var i, .Name x _ => okVar J sc i x
  | sc, _, .glc x n, .Name y _ => decide (x = y) && glB sc y && notDbg y && decide ((y, n) ∈ J.cs)
  | _, _, .lit .none, .Constant .none _ _ => true
  | _, _, .lit (.bool b), .Constant (.bool c) _ _ => decide (b = c)
  | _, _, .lit (.int b), .Constant (.int c) _ _ => decide (b = c)
  | _, _, .lit (.str b), .Constant (.str c) _ _ => decide (b = c)
  | sc, _, .tup es, .Tuple xs _ _ => isEs J sc es xs
  | sc, _, .lst es, .List xs _ => isEs J sc es xs
  | _, _, .dct0, .Dict [] [] _ => true
  | sc, _, .bin op a b, .BinOp x o y _ => isOp op o && isE J sc false a x && isE J sc false b y
  | sc, _, .neg a, .UnaryOp .USub x _ => isE J sc false a x
  | sc, t, .not a, .UnaryOp .Not x _ => isE J sc t a x
  | sc, t, .bop c es, .BoolOp o xs _ => isBo c o && isBs J sc t es xs
  | sc, t, .ife c a b, .IfExp x y z _ => !t && isE J sc true c x && isE J sc false a y && isE J sc false b z
  | sc, _, .cmp op a b, .Compare x [o] [y] _ => isCo op o && isE J sc false a x && isE J sc false b y
  | sc, _, .chn o1 o2 a b c, .Compare x [p1, p2] [y, z] _ => isCo o1 p1 && isCo o2 p2 && isE J sc false a x && isE J sc false b y && isE J sc false c z
  | sc, _, .isn ng a, .Compare x [o] [.Constant .none _ _] _ => isIs ng o && isE J sc false a x
  | sc, _, .mem ng a b, .Compare x [o] [y] _ => isMe ng o && notSet y && isE J sc false a x && isE J sc false b y
  | sc, _, .ix a b, .Subscript x y _ => notSl y && isE J sc false a x && isE J sc false b y
  | sc, _, .sl a lo hi, .Subscript x (.Slice l h none _) _ => isE J sc false a x && isO J sc lo l && isO J sc hi h
  | sc, _, .rev a, .Subscript x (.Slice none none (some (.UnaryOp .USub (.Constant (.int c) _ _) _)) _) _ => decide (c = 1) && isE J sc false a x
  | sc, _, .cal f pot es ks vs pm, .Call (.Name x _) xs kws _ => (match pot with
      | false => okCall J sc f pot x xs.length ks pm && !(xs.isEmpty && kws.isEmpty) && isEs J sc es xs && isKs J sc ks vs kws
      | true => (match xs with
        | .Name y _ :: xs => J.hp && okVar J sc J.pi y && okCall J sc f pot x (xs.length + 1) ks (0 :: pm.map (· + 1)) && isEs J sc es xs && isKs J sc ks vs kws
        | _ => false))
  | sc, _, .bi b es, .Call (.Name x _) xs [] _ => decide (x = biStr b) && glB sc x && !xs.isEmpty && isEs J sc es xs
  | sc, _, .isi ty a, .Call (.Name x _) [y, .Name z _] [] _ => decide (x = "isinstance") && glB sc x && glB sc z && isTy ty z && noStar y && isE J sc false a y
  | sc, _, .lc own tg k args cond elt, .ListComp y [⟨te, it, ifs, 0⟩] scope _ =>
      blkC J.N sc scope own && isTg J (relS scope sc) (fun x => scope.names.lookup x == some .cell) tg te && (tgIx tg).all (fun i => decide (i ∈ own.map (·.2))) && decide (J.pi ∉ own.map (·.2)) && itOk sc te k it && isEs J sc args (itArgs k it) && isCs J (relS scope sc) cond ifs && isE J (relS scope sc) false elt y && notSet it
  | _, _, _, _ => false
def isEs (J : Inf) : Scope → List IE → List Expr → Bool
  | _, [], [] => true
  | sc, e :: es, x :: xs => noStar x && isE J sc false e x && isEs J sc es xs
  | _, _, _ => false
def isBs (J : Inf) : Scope → Bool → List IE → List Expr → Bool
  | sc, t, [e], [x] => isE J sc t e x
  | sc, t, e :: es, x :: xs => isE J sc t e x && isBs J sc t es xs
  | _, _, _, _ => false
def isO (J : Inf) : Scope → Option IE → Option Expr → Bool
  | _, none, none => true
  | sc, some e, some x => isE J sc false e x
  | _, _, _ => false
def isKs (J : Inf) : Scope → List Str → List IE → List Keyword → Bool
  | _, [], [], [] => true
  | sc, k :: ks, e :: es, ⟨some y, x, _⟩ :: xs => decide (k = y) && isE J sc false e x && isKs J sc ks es xs
  | _, _, _, _ => false
def isCs (J : Inf) : Scope → List IE → List Expr → Bool
  | _, [], [] => true
  | sc, [e], [x] => isE J sc true e x
  | _, _, _ => false
end
end Ev
/-! Targets; the lesser lemmas of the expressions' walk. -/
namespace Ev
open PySem PySem.Spec PyProof.Rows L2

section
variable {E : EC} {c : RC} {ad : Nat → Addr} {env : Env} {ps ps' : PS} {σ : L2.St} {H H' : Hp}
theorem oo_set {i : Nat} {d : D} : ∀ a, OO c ad (env.set i (.va d)) a → OO c ad env a := fun a h => by
  rcases h with h | ⟨j, e, h1, h2⟩
  · exact .inl h
  · by_cases hj : i = j
    · subst hj
      rw [List.getElem?_set_self' ] at h1
      cases hq : env[i]? with
      | none => rw [hq] at h1; cases h1
      | some s => rw [hq] at h1; cases h1
    · rw [List.getElem?_set_ne hj] at h1
      exact .inr ⟨j, e, h1, h2⟩
/-- a name is given a value that may be handed on -/
theorem Rl.setVa (R : Rl E c ad env ps σ H) {i : Nat} {d : D} {v : V} (hi : i < env.length) (hp : i ≠ E.pi) (r : Rp E.hf H (OO c ad env) d v) : Rl E c ad (env.set i (.va d)) ps (σ.set i (some v)) H := by
  have hs : i < σ.length := Nat.lt_of_lt_of_le hi R.len
  have less : ∀ {d : D} {v : V}, Rp E.hf H (OO c ad env) d v → Rp E.hf H (OO c ad (env.set i (.va d))) d v := fun h => h.move (fun a o _ e => e) fun a o n _ q => n (oo_set a q)
  have lessO : ∀ {d0 : D} {a : Addr} {d : D}, OwnAt E.hf H (OO c ad env) a d → OwnAt E.hf H (OO c ad (env.set i (.va d0))) a d := fun h => h.move (fun o e => e) (fun a o _ e => e) fun a o n _ q => n (oo_set a q)
  refine ⟨by simpa using R.len, fun j e h => ?_, fun j e h => ?_, fun j k e f h1 h2 h3 => ?_, fun a o => R.dom a (oo_set a o), R.keep, R.pot, R.po, fun P C e => ?_, R.hp⟩
  · by_cases hj : i = j
    · subst hj
      rw [List.getElem?_set_self hi] at h
      cases h
      exact ⟨v, List.getElem?_set_self hs, r.move (fun a o _ e => e) fun a o n _ q => n (oo_set a q)⟩
    · rw [List.getElem?_set_ne hj] at h
      obtain ⟨u, hu, ru⟩ := R.va j e h
      exact ⟨u, by rw [List.getElem?_set_ne hj]; exact hu, ru.move (fun a o _ e => e) fun a o n _ q => n (oo_set a q)⟩
  · by_cases hj : i = j
    · subst hj
      rw [List.getElem?_set_self hi] at h
      cases h
    · rw [List.getElem?_set_ne hj] at h
      obtain ⟨a1, a2, a3⟩ := R.ow j e h
      exact ⟨by rw [List.getElem?_set_ne hj]; exact a1, lessO a2, a3⟩
  · by_cases hj : i = j
    · subst hj
      rw [List.getElem?_set_self hi] at h1
      cases h1
    · by_cases hk : i = k
      · subst hk
        rw [List.getElem?_set_self hi] at h2
        cases h2
      · rw [List.getElem?_set_ne hj] at h1
        rw [List.getElem?_set_ne hk] at h2
        exact R.inj j k e f h1 h2 h3
  · rw [List.getElem?_set_ne hp]
    exact R.pv P C e
end
/-- several names at once, by a target -/
def TGv (E : EC) (tg : Tg) : TG := fun v σ H Q => ∃ c ad env ps d env', Rl E c ad env ps σ H ∧ Rp E.hf H (OO c ad env) d v ∧ asgT tg d env = some env' ∧
  ∀ σ', σ'.length = σ.length → (∀ j, j ∉ tgIx tg → σ'[j]? = σ[j]?) → (∀ a, OO c ad env' a → OO c ad env a) → Rl E c ad env' ps σ' H → Q σ' H
def TGsv (E : EC) (tgs : List Tg) : TGs := fun vs σ H Q => ∃ c ad env ps ds env', Rl E c ad env ps σ H ∧ Rs E.hf H (OO c ad env) ds vs ∧ asgTs tgs ds env = some env' ∧
  ∀ σ', σ'.length = σ.length → (∀ j, j ∉ tgIxs tgs → σ'[j]? = σ[j]?) → (∀ a, OO c ad env' a → OO c ad env a) → Rl E c ad env' ps σ' H → Q σ' H
theorem assign_each {es : List Expr} {env : PySem.Env} (h : es.all noStar = true) : assignEach es env = es.map fun t => (false, assign t env) := by
  induction es with
  | nil => rfl
  | cons e es ih =>
    simp only [List.all_cons, Bool.and_eq_true] at h
    rw [List.map_cons, ← ih h.2]
    cases e <;> first | rfl | cases h.1
section
variable {X : Cx} {J : Inf} {E : EC} {sc : Scope} {fb : Str → Bool}
theorem isTgs_star : ∀ {ts : List Tg} {es : List Expr}, isTgs J sc fb ts es = true → es.all noStar = true
  | [], [], _ => rfl
  | [], _ :: _, h => by simp [isTgs] at h
  | _ :: _, [], h => by simp [isTgs] at h
  | t :: ts, e :: es, h => by
    simp only [isTgs, Bool.and_eq_true] at h
    simp only [List.all_cons, Bool.and_eq_true]
    exact ⟨h.1.1, isTgs_star h.2⟩
theorem isTgs_len : ∀ {ts : List Tg} {es : List Expr}, isTgs J sc fb ts es = true → ts.length = es.length
  | [], [], _ => rfl
  | [], _ :: _, h => by simp [isTgs] at h
  | _ :: _, [], h => by simp [isTgs] at h
  | t :: ts, e :: es, h => by
    simp only [isTgs, Bool.and_eq_true] at h
    simp [isTgs_len h.2]
theorem asgTs_len : ∀ {ts : List Tg} {ds : List D} {env env' : Env}, asgTs ts ds env = some env' → ts.length = ds.length
  | [], [], _, _, _ => rfl
  | [], _ :: _, _, _, h => by simp [asgTs] at h
  | _ :: _, [], _, _, h => by simp [asgTs] at h
  | t :: ts, d :: ds, env, env', h => by
    simp only [asgTs, Option.bind_eq_some_iff] at h
    obtain ⟨e1, _, h2⟩ := h
    simp [asgTs_len h2]
mutual
theorem sndG (ok : XOk X J E sc) (hfb : ∀ x, fb x = true → X.fn x = true) : ∀ (tg : Tg) (e : Expr), isTg J sc fb tg e = true → PG X e (TGv E tg)
  | .nm i, e, h => by
    cases e with
    | Name x pos =>
      simp only [isTg, Bool.and_eq_true, decide_eq_true_eq] at h
      obtain ⟨⟨h1, h2⟩, h3⟩ := h
      have hl : Loc X.env.scope x ∧ (X.fn x = true ∨ X.env.scope.names.lookup x = some .local) := by
        rw [ok.sc]
        unfold locB at h2
        split at h2
        · rename_i e
          exact ⟨.inl e, .inr e⟩
        · rename_i e
          exact ⟨.inr e, .inl (hfb x h2)⟩
        · cases h2
      have := pg_name (X := X) (i := i) (x := x) (pos := pos) ok.nd (by rw [ok.N]; exact h1) hl.1 hl.2
      refine ⟨fun pins s σ H v u Q I r q => this.run pins s σ H v u Q I r ?_⟩
      obtain ⟨c, ad, env, ps, d, env', R, rv, ha, hq⟩ := q
      simp only [asgT] at ha
      split at ha
      · rename_i hi
        cases ha
        have hp : i ≠ E.pi := by rw [ok.pi]; exact h3
        refine hq _ (by simp) (fun j hj => ?_) (fun a => oo_set a) (R.setVa hi hp rv)
        simp only [tgIx, List.mem_singleton] at hj
        rw [List.getElem?_set_ne fun e => hj e.symm]
      · cases ha
    | _ => simp [isTg] at h
  | .tp ts, e, h => by
    cases e with
    | Tuple es k pos =>
      simp only [isTg] at h
      have hs := isTgs_star h
      have ha := assign_each (env := X.env) hs
      have := pg_tup (X := X) (k := k) (pos := pos) ok.calm (sndGs ok hfb ts es h) (n := es.length) (by rw [ha, List.length_map]) (by rw [ha, List.findIdx?_map]; simp)
      refine ⟨fun pins s σ H v u Q I r q => this.run pins s σ H v u Q I r ?_⟩
      obtain ⟨c, ad, env, ps, d, env', R, rv, ha, hq⟩ := q
      cases d with
      | tuple ds =>
        simp only [asgT] at ha
        obtain ⟨a, xs, rfl, hH, hs⟩ := rb_seq rv.1
        exact ⟨a, xs, rfl, SqT.of hH, by rw [hs.length, ← asgTs_len ha, isTgs_len h], c, ad, env, ps, ds, env', R, hs, ha, hq⟩
      | _ => simp [asgT] at ha
    | _ => simp [isTg] at h
theorem sndGs (ok : XOk X J E sc) (hfb : ∀ x, fb x = true → X.fn x = true) : ∀ (tgs : List Tg) (es : List Expr), isTgs J sc fb tgs es = true → PGs X es (TGsv E tgs)
  | [], [], h => by
    refine ⟨fun pins s σ H vs us Q I r q => pgs_nil.run pins s σ H vs us Q I r ?_⟩
    obtain ⟨c, ad, env, ps, ds, env', R, rv, ha, hq⟩ := q
    cases ds with
    | nil =>
      simp only [asgTs, Option.some.injEq] at ha
      subst ha
      simp only [Rs] at rv
      exact ⟨rv, hq σ rfl (fun _ _ => rfl) (fun _ h => h) R⟩
    | cons _ _ => simp [asgTs] at ha
  | [], _ :: _, h => by simp [isTgs] at h
  | _ :: _, [], h => by simp [isTgs] at h
  | t :: ts, e :: es, h => by
    have hst := isTgs_star h
    simp only [isTgs, Bool.and_eq_true] at h
    have h1 := sndG ok hfb t e h.1.2
    have h2 := sndGs ok hfb ts es h.2
    have ha := assign_each (env := X.env) hst
    simp only [List.all_cons, Bool.and_eq_true] at hst
    have ha2 := assign_each (env := X.env) hst.2
    have := pgs_cons h1 h2 (by rw [ha, ha2]; simp)
    refine ⟨fun pins s σ H vs us Q I r q => this.run pins s σ H vs us Q I r ?_⟩
    obtain ⟨c, ad, env, ps, ds, env', R, rv, hasg, hq⟩ := q
    cases ds with
    | nil => simp [asgTs] at hasg
    | cons d ds =>
      simp only [asgTs, Option.bind_eq_some_iff] at hasg
      obtain ⟨env1, e1, e2⟩ := hasg
      obtain ⟨v, vr, rfl, r1, r2⟩ := rv.inv
      refine ⟨v, vr, rfl, c, ad, env, ps, d, env1, R, r1, e1, fun σ1 l1 o1 s1 R1 => ?_⟩
      refine ⟨c, ad, env1, ps, ds, env', R1, Rs.move (fun a o _ e => e) (fun a o n _ q => n (s1 a q)) ds vr r2, e2, fun σ2 l2 o2 s2 R2 => ?_⟩
      refine hq σ2 (l2.trans l1) (fun j hj => ?_) (fun a x => s1 a (s2 a x)) R2
      simp only [tgIxs, List.mem_append, not_or] at hj
      rw [o2 j hj.2, o1 j hj.1]
end
end
/-! ### what is wiped -/
theorem wipe_same {σ σ' : L2.St} : ∀ {vs : List Nat}, σ'.length = σ.length → (∀ j, j ∉ vs → σ'[j]? = σ[j]?) → wipe σ' vs = wipe σ vs
  | vs, hl, h => by
    apply List.ext_getElem?
    have wp : ∀ (σ : L2.St) (vs : List Nat) (j : Nat), (wipe σ vs)[j]? = if j ∈ vs then (σ[j]?).map (fun _ => none) else σ[j]? := by
      intro σ vs
      induction vs with
      | nil => intro j; simp [wipe]
      | cons v vs ih =>
        intro j
        by_cases hv : v = j
        · subst hv
          have e : (wipe σ (v :: vs)) = (wipe σ vs).set v none := rfl
          rw [e, if_pos (List.mem_cons_self)]
          cases hq : σ[v]? with
          | none =>
            have : σ.length ≤ v := List.getElem?_eq_none_iff.mp hq
            rw [List.getElem?_eq_none (by rw [List.length_set, wipe_length]; exact this)]
            rfl
          | some x =>
            have : v < σ.length := (List.getElem?_eq_some_iff.mp hq).1
            rw [List.getElem?_set_self (by rw [wipe_length]; exact this)]
            rfl
        · have e : (wipe σ (v :: vs)) = (wipe σ vs).set v none := rfl
          rw [e, List.getElem?_set_ne hv, ih j]
          by_cases hm : j ∈ vs
          · rw [if_pos hm, if_pos (List.mem_cons_of_mem _ hm)]
          · rw [if_neg hm, if_neg (by simp only [List.mem_cons, not_or]; exact ⟨fun e => hv e.symm, hm⟩)]
    intro j
    rw [wp, wp]
    by_cases hm : j ∈ vs
    · rw [if_pos hm, if_pos hm]
      by_cases hj : j < σ.length
      · rw [List.getElem?_eq_getElem hj, List.getElem?_eq_getElem (by omega)]
        rfl
      · rw [List.getElem?_eq_none (by omega), List.getElem?_eq_none (by omega)]
    · rw [if_neg hm, if_neg hm, h j hm]
theorem wipe_wipe (σ : L2.St) (vs : List Nat) : wipe (wipe σ vs) vs = wipe σ vs := by
  refine wipe_same (wipe_length σ vs) fun j hj => ?_
  induction vs with
  | nil => rfl
  | cons v vs ih =>
    simp only [List.mem_cons, not_or] at hj
    show ((wipe σ vs).set v none)[j]? = _
    rw [List.getElem?_set_ne fun e => hj.1 e.symm]
    exact ih hj.2
end Ev
/-! List comprehensions. -/
namespace Ev
open PySem PySem.Spec PyProof.Rows L2
theorem Out.bind_ok_iff {α β : Type} {x : Out α} {f : α → M β} {b : β} {p : PS} (h : x.bind f = .ok b p) : ∃ a q, x = .ok a q ∧ f a q = .ok b p := by
  cases x with
  | ok a q => exact ⟨a, q, rfl, h⟩
  | exc c fs q => cases h
  | bad => cases h
theorem opt_ok_iff {α : Type} {o : Option α} {p q : PS} {a : α} (h : opt o p = .ok a q) : o = some a ∧ p = q := by
  cases o with
  | none => cases h
  | some b => cases h; exact ⟨rfl, rfl⟩
def EC.mute (E : EC) : EC := { E with xq := fun _ _ _ => False }
theorem wipeE_len (env : Env) : ∀ vs : List Nat, (wipeE vs env).length = env.length
  | [] => rfl
  | v :: vs => by
    show ((wipeE vs env).set v .un).length = _
    rw [List.length_set, wipeE_len env vs]
theorem wipeE_get (env : Env) (j : Nat) : ∀ vs : List Nat, (wipeE vs env)[j]? = if j ∈ vs then (env[j]?).map (fun _ => Slot.un) else env[j]?
  | [] => by simp [wipeE]
  | v :: vs => by
    have ih := wipeE_get env j vs
    have e : wipeE (v :: vs) env = (wipeE vs env).set v .un := rfl
    by_cases hv : v = j
    · subst hv
      rw [e, if_pos List.mem_cons_self]
      cases hq : env[v]? with
      | none =>
        rw [List.getElem?_eq_none (by rw [List.length_set, wipeE_len]; exact List.getElem?_eq_none_iff.mp hq)]
        rfl
      | some x =>
        rw [List.getElem?_set_self (by rw [wipeE_len]; exact (List.getElem?_eq_some_iff.mp hq).1)]
        rfl
    · rw [e, List.getElem?_set_ne hv, ih]
      by_cases hm : j ∈ vs
      · rw [if_pos hm, if_pos (List.mem_cons_of_mem _ hm)]
      · rw [if_neg hm, if_neg (by simp only [List.mem_cons, not_or]; exact ⟨fun e => hv e.symm, hm⟩)]
theorem wipe_get (σ : L2.St) (j : Nat) : ∀ vs : List Nat, j ∉ vs → (wipe σ vs)[j]? = σ[j]?
  | [], _ => rfl
  | v :: vs, h => by
    simp only [List.mem_cons, not_or] at h
    show ((wipe σ vs).set v none)[j]? = _
    rw [List.getElem?_set_ne fun e => h.1 e.symm]
    exact wipe_get σ j vs h.2
theorem wipeE_some {env : Env} {j : Nat} {vs : List Nat} {s : Slot} (h : (wipeE vs env)[j]? = some s) (hs : s ≠ .un) : env[j]? = some s ∧ j ∉ vs := by
  rw [wipeE_get] at h
  split at h
  · obtain ⟨x, _, rfl⟩ := Option.map_eq_some_iff.mp h
    exact absurd rfl hs
  · exact ⟨h, by assumption⟩
section
variable {E : EC} {c : RC} {ad : Nat → Addr} {env : Env} {ps ps' : PS} {σ : L2.St} {H H' : Hp} {D0 : Addr}
/-- inside: the new list is one's own, too -/
def inC (c : RC) (ad : Nat → Addr) (env : Env) (D0 : Addr) : RC := ⟨fun a => OO c ad env a ∨ a = D0, c.H0, c.pt⟩
theorem oo_in {env' : Env} (h : ∀ (i : Nat) (d : D), env'[i]? = some (Slot.ow d) → env[i]? = some (Slot.ow d)) : OO (inC c ad env D0) ad env' = fun a => OO c ad env a ∨ a = D0 := by
  funext a
  refine propext ⟨fun x => ?_, fun x => .inl x⟩
  rcases x with x | ⟨i, d, h1, h2⟩
  · exact x
  · exact .inl (.inr ⟨i, d, h i d h1, h2⟩)
theorem rb_at {hf : D → Int} {O O' : Addr → Prop} (kt : ∀ a o, ¬ O a → H a = some o → H' a = some o) (ko : ∀ a o, ¬ O a → H a = some o → ¬ O' a) {d : D} {v : V} (ka : ∀ a o, v = .ref a → H a = some o → H' a = some o) (h : Rb hf H O d v) : Rb hf H' O' d v := by
  cases d with
  | none => simpa only [Rb] using h
  | bool b => simpa only [Rb] using h
  | int i => simpa only [Rb] using h
  | str s => simpa only [Rb] using h
  | list ds =>
    simp only [Rb] at h ⊢
    obtain ⟨a, vs, e, hr, hs⟩ := h
    exact ⟨a, vs, e, ka a _ e hr, Rs.move kt ko ds vs hs⟩
  | tuple ds =>
    simp only [Rb] at h ⊢
    obtain ⟨a, vs, e, hr, hs⟩ := h
    exact ⟨a, vs, e, ka a _ e hr, Rs.move kt ko ds vs hs⟩
  | dict ds =>
    simp only [Rb] at h ⊢
    obtain ⟨a, es, ep, qs, vs, e, hr, hn, hz, he, hk⟩ := h
    exact ⟨a, es, ep, qs, vs, e, rdKeep (fun o => ka a o e) hr, hn, hz, he, Rk.move kt ko ds qs vs hk⟩
theorem Rl.inner (R : Rl E c ad env ps σ H) (nD : H D0 = none) {own : List Nat} (hp : E.pi ∉ own) : Rl E.mute (inC c ad env D0) ad (wipeE own env) ps (wipe σ own) (upd H D0 (.lst [])) := by
  have nw : OO (inC c ad env D0) ad (wipeE own env) = fun a => OO c ad env a ∨ a = D0 := oo_in fun i d h => (wipeE_some h (by simp)).1
  have sm : Same H (upd H D0 (.lst [])) := same_new nD
  have ko : ∀ a o, ¬ OO c ad env a → H a = some o → ¬ (OO c ad env a ∨ a = D0) := fun a o n e q => by
    rcases q with q | q
    · exact n q
    · subst q; rw [nD] at e; cases e
  refine ⟨by rw [wipeE_len, wipe_length]; exact R.len, fun i d h => ?_, fun i d h => ?_, fun i j d e h1 h2 h3 => R.inj i j d e (wipeE_some h1 (by simp)).1 (wipeE_some h2 (by simp)).1 h3, ?_, fun a o n e => sm _ _ (R.keep a o n e), R.pot.same sm, fun a p => ⟨.inl (R.pOO a p), (R.po a p).2⟩, fun P C e => ?_, R.hp⟩
  · obtain ⟨h, n⟩ := wipeE_some h (by simp)
    obtain ⟨v, e, r⟩ := R.va i d h
    refine ⟨v, by rw [wipe_get _ _ _ n]; exact e, ?_⟩
    rw [nw]
    exact r.move (fun a o _ e => sm a o e) ko
  · obtain ⟨h, n⟩ := wipeE_some h (by simp)
    obtain ⟨e, o, z⟩ := R.ow i d h
    refine ⟨by rw [wipe_get _ _ _ n]; exact e, ?_, z⟩
    rw [nw]
    exact o.move (fun o e => sm _ _ e) (fun a o _ e => sm a o e) ko
  · rw [nw]
    intro a o
    rcases o with o | o
    · obtain ⟨u, e, t⟩ := R.dom a o
      exact ⟨u, sm _ _ e, t⟩
    · subst o; exact ⟨_, upd_same, rfl⟩
  · show (wipe σ own)[E.pi]? = _
    rw [wipe_get _ _ _ hp]
    exact R.pv P C e
/-- the new list grows -/
theorem Rl.grow {c' : RC} (R : Rl E c' ad env ps σ H) (hD : c'.O0 D0) (h0 : c'.H0 D0 = none) (hp : ¬ isP c'.pt D0) (hd : ∀ (i : Nat) (d : D), env[i]? = some (Slot.ow d) → ad i ≠ D0) {xs : List V} : Rl E c' ad env ps σ (upd H D0 (.lst xs)) := by
  have kt : ∀ a o, ¬ OO c' ad env a → H a = some o → upd H D0 (.lst xs) a = some o := fun a o n e => by
    rw [upd_ne fun q => n (.inl (by rw [q]; exact hD))]; exact e
  refine ⟨R.len, fun i d h => ?_, fun i d h => ?_, R.inj, fun a o => ?_, fun a o n e => ?_, ?_, R.po, R.pv, R.hp⟩
  · obtain ⟨v, e, r⟩ := R.va i d h
    exact ⟨v, e, r.move kt fun a o n _ => n⟩
  · obtain ⟨e, o, z⟩ := R.ow i d h
    exact ⟨e, o.move (fun o e => by rw [upd_ne (hd i d h)]; exact e) kt fun a o n _ => n, z⟩
  · by_cases ha : a = D0
    · subst ha; exact ⟨_, upd_same, rfl⟩
    · rw [upd_ne ha]; exact R.dom a o
  · rw [upd_ne fun q => by subst q; rw [h0] at e; cases e]
    exact R.keep a o n e
  · have p := R.pot
    unfold PotIs at p ⊢
    split
    · rename_i P C hpt
      rw [hpt] at p hp
      obtain ⟨n, p1, p2⟩ := p
      have n1 : P ≠ D0 := fun q => hp (.inl q.symm)
      have n2 : C ≠ D0 := fun q => hp (.inr q.symm)
      exact ⟨n, by rw [upd_ne n1]; exact p1, by rw [upd_ne n2]; exact p2⟩
    · trivial
end
def TCv (E : EC) (cond : List IE) : TT := fun σ H Q => ∃ c ad env ps, Rl E c ad env ps σ H ∧ (evC E.F cond env ps).Wp (fun t ps' => ∀ H', KB c.pt H H' → PotIs c.pt H' ps' → Q t H') E.xq
theorem asg_ow : ∀ {tg : Tg} {d : D} {env env' : Env}, asgT tg d env = some env' → ∀ (i : Nat) (d : D), env'[i]? = some (Slot.ow d) → env[i]? = some (Slot.ow d) := by
  have key : (∀ tg : Tg, ∀ (d : D) (env env' : Env), asgT tg d env = some env' → ∀ (i : Nat) (d : D), env'[i]? = some (Slot.ow d) → env[i]? = some (Slot.ow d)) ∧ True := by
    refine ⟨fun tg => ?_, trivial⟩
    refine Tg.rec (motive_1 := fun tg => ∀ (d : D) (env env' : Env), asgT tg d env = some env' → ∀ (i : Nat) (d : D), env'[i]? = some (Slot.ow d) → env[i]? = some (Slot.ow d))
      (motive_2 := fun tgs => ∀ (ds : List D) (env env' : Env), asgTs tgs ds env = some env' → ∀ (i : Nat) (d : D), env'[i]? = some (Slot.ow d) → env[i]? = some (Slot.ow d)) ?_ ?_ ?_ ?_ tg
    · intro j d env env' h i e hi
      simp only [asgT] at h
      split at h
      · cases h
        by_cases hj : j = i
        · subst hj
          rename_i hl
          rw [List.getElem?_set_self hl] at hi
          cases hi
        · rw [List.getElem?_set_ne hj] at hi
          exact hi
      · cases h
    · intro ts ih d env env' h
      cases d with
      | tuple ds => exact ih ds env env' (by simpa only [asgT] using h)
      | _ => simp [asgT] at h
    · intro ds env env' h
      cases ds with
      | nil =>
        simp only [asgTs, Option.some.injEq] at h
        subst h
        exact fun i d h => h
      | cons _ _ => simp [asgTs] at h
    · intro t ts h1 h2 ds env env' h
      cases ds with
      | nil => simp [asgTs] at h
      | cons d ds =>
        simp only [asgTs, Option.bind_eq_some_iff] at h
        obtain ⟨env1, e1, e2⟩ := h
        exact fun i e hi => h1 d env env1 e1 i e (h2 ds env1 env' e2 i e hi)
  exact fun {tg d env env'} h => key.1 tg d env env' h
theorem lc_read {E : EC} {b : Bool} {own : List (Str × Nat)} {tg : Tg} {k : ItK} {args cond : List IE} {elt : IE} {ta : TA} {σ : L2.St} {H : Hp} {Q : VK} (hta : ∀ σ H R, TAv E true args σ H R → ta σ H R) (htg : ∀ i ∈ tgIx tg, i ∈ own.map (·.2)) (hp : E.pi ∉ own.map (·.2))
    (h : TEv E b (.lc own tg k args cond elt) σ H Q) : tLc (iD E.hf ta k) (TGv E.mute tg) (TCv E.mute cond) (TEv E.mute false elt) (own.map (·.2)) σ H Q := by
  obtain ⟨c, ad, env, ps, R, w⟩ := h
  simp only [ev] at w
  refine hta _ _ _ ⟨c, ad, env, ps, R, (Out.wp_bind.mp w).mono (fun ds p1 _ w2 => fun vs H1 k1 q1 r1 => ?_) fun _ _ _ _ h => h⟩
  obtain ⟨xs, ex, w3⟩ := wp_opt.mp (Out.wp_bind.mp w2)
  have R1 := R.step k1 q1
  refine ⟨OO c ad env, ds, xs, R1.dom, r1.bs, ex, fun J hJ D0 nD => ?_⟩
  obtain ⟨ysF, p2, hcomp, w4⟩ := Out.calm_wp.mp (Out.wp_bind.mp w3)
  obtain ⟨hlen, w5⟩ : ysF.length ≤ SZ ∧ Cont E c (OO c ad env) b true H (.list ysF) p2 Q := by
    simp only [lenOk] at w4
    split at w4
    · exact ⟨by assumption, w4⟩
    · exact False.elim w4
  clear w w2 w3 w4
  generalize hfn : (fun x p => (opt (asgT tg x (wipeE (own.map (·.2)) env)) p).bind fun env1 p => (evC E.F cond env1 p).bind fun t p => if t then (ev E.F false elt env1 p).bind fun y p => Out.ok (some y) p else Out.ok none p : D → M (Option D)) = fn at hcomp
  have hH0 : c.H0 D0 = none := R1.keep.none R1.pot nD
  have hnp : ¬ isP c.pt D0 := fun q => by
    obtain ⟨zs, e⟩ := R1.pot.stands q
    rw [nD] at e; cases e
  have hnO : ¬ OO c ad env D0 := fun q => R1.dom.no q nD
  have hnd : ∀ (i : Nat) (d : D), (wipeE (own.map (·.2)) env)[i]? = some (Slot.ow d) → ad i ≠ D0 := fun i d h e => hnO (.inr ⟨i, d, (wipeE_some h (by simp)).1, e.symm⟩)
  have nw : OO (inC c ad env D0) ad (wipeE (own.map (·.2)) env) = fun a => OO c ad env a ∨ a = D0 := oo_in fun i d h => (wipeE_some h (by simp)).1
  have ko : ∀ a o, ¬ OO c ad env a → H1 a = some o → ¬ (OO c ad env a ∨ a = D0) := fun a o n e q => by
    rcases q with q | q
    · exact n q
    · subst q; rw [nD] at e; cases e
  -- the sources stand at every turn
  have src : ∀ H', KB c.pt H1 H' → Bs E.hf H' (fun a => OO c ad env a ∨ a = D0) ds vs := fun H' kb => by
    have mv : ∀ {ds : List D} {vs : List V}, Bq E c.pt (OO c ad env) true H1 ds vs → Bs E.hf H' (fun a => OO c ad env a ∨ a = D0) ds vs := by
      intro ds
      induction ds with
      | nil =>
        intro vs h
        cases vs with
        | nil => trivial
        | cons _ _ => exact h.elim
      | cons d ds ih =>
        intro vs h
        cases vs with
        | nil => exact h.elim
        | cons v vs => exact ⟨rb_at (fun a o n e => kb a o (fun p => n (R.pOO a p)) e) ko (fun a o e => kb a o (h.1.2 a e)) h.1.1, ih h.2⟩
    exact mv r1
  refine ⟨fun i m H' => m = xs.length - i ∧ i ≤ xs.length ∧ ∃ p ys zs acc, Rl E.mute (inC c ad env D0) ad (wipeE (own.map (·.2)) env) p (wipe σ (own.map (·.2))) H' ∧ H' D0 = some (.lst acc) ∧ Rs E.hf H' (fun a => OO c ad env a ∨ a = D0) ys acc ∧
    KB c.pt H1 H' ∧ compL fn (xs.drop i) p = .ok zs p2 ∧ ys ++ zs = ysF, ⟨xs.length, by simp, Nat.zero_le _, p1, [], ysF, [], R1.inner nD hp, upd_same, .nil, fun a o _ e => same_new nD a o e, by simpa using hcomp, rfl⟩, ?_⟩
  rintro i m H' ⟨rfl, hi, p, ys, zs, acc, R2, hD, hacc, kb, hc, hy⟩
  have hsrc := src H' kb
  by_cases hlt : i < xs.length
  · refine .inr ⟨hJ.goes _ _ _ hsrc hlt, fun H'' => ∃ p ys zs acc, Rl E.mute (inC c ad env D0) ad (wipeE (own.map (·.2)) env) p (wipe σ (own.map (·.2))) H'' ∧ H'' D0 = some (.lst acc) ∧ Rs E.hf H'' (fun a => OO c ad env a ∨ a = D0) ys acc ∧
      KB c.pt H1 H'' ∧ compL fn (xs.drop (i + 1)) p = .ok zs p2 ∧ ys ++ zs = ysF, fun H'' q => ⟨xs.length - (i + 1), by omega, rfl, hlt, q⟩, fun x H3 y => ?_⟩
    have hdm := R2.dom
    rw [nw] at hdm
    obtain ⟨sm, rx⟩ := hJ.yields _ _ _ _ _ hdm hsrc y xs[i] (List.getElem?_eq_getElem hlt)
    rw [List.drop_eq_getElem_cons hlt] at hc
    simp only [compL] at hc
    obtain ⟨o, p3, h1, hc⟩ := Out.bind_ok_iff hc
    obtain ⟨zs', p3', h2, hc⟩ := Out.bind_ok_iff hc
    cases hc
    rw [← hfn] at h1
    obtain ⟨env1, p4, h3o, h1⟩ := Out.bind_ok_iff h1
    obtain ⟨h3, e4⟩ := opt_ok_iff h3o
    subst e4
    obtain ⟨t, p5, h4, h1⟩ := Out.bind_ok_iff h1
    have nw1 : OO (inC c ad env D0) ad env1 = fun a => OO c ad env a ∨ a = D0 := oo_in fun i d h => (wipeE_some (asg_ow h3 i d h) (by simp)).1
    have hnd1 : ∀ (i : Nat) (d : D), env1[i]? = some (Slot.ow d) → ad i ≠ D0 := fun i d h => hnd i d (asg_ow h3 i d h)
    refine ⟨inC c ad env D0, ad, _, p, xs[i], env1, R2.same sm, by rw [nw]; exact rx, h3, fun σ2 l2 o2 s2 R3 => ⟨?_, inC c ad env D0, ad, env1, p, R3, ?_⟩⟩
    · rw [wipe_same (σ := wipe σ (own.map (·.2))) l2 fun j hj => o2 j fun hm => hj (htg j hm)]
      exact wipe_wipe _ _
    · show (evC E.F cond env1 p).Wp _ _
      rw [h4]
      intro H4 k4 q4
      have k14 : KB c.pt H' H4 := KB.trans (Same.kb sm) k4
      cases t with
      | false =>
        simp only [Bool.false_eq_true, if_false] at h1
        cases h1
        rw [if_neg (by simp)]
        exact ⟨_, ys, zs', acc, R2.step k14 q4, k14 _ _ hnp hD, Rs.move (fun a o n e => k14 a o (fun p => n (.inl (R.pOO a p))) e) (fun a o n _ => n) ys acc hacc, kb.trans k14, h2, hy⟩
      | true =>
        simp only [if_true] at h1
        obtain ⟨yv, p6, h5, h1⟩ := Out.bind_ok_iff h1
        cases h1
        rw [if_pos rfl]
        refine ⟨inC c ad env D0, ad, env1, p5, R3.step k4 q4, ?_⟩
        show (ev E.F false elt env1 p5).Wp _ _
        rw [h5]
        intro v H5 k5 q5 r5 _
        have k15 : KB c.pt H' H5 := k14.trans k5
        have hD5 := k15 _ _ hnp hD
        have hl : ys.length < SZ := by
          have := congrArg List.length hy
          simp at this
          omega
        refine ⟨acc, hD5, by rw [hacc.length, szL]; exact hl, p3, ys ++ [yv], zs', acc ++ [v], ?_, upd_same, ?_, fun a o n e => ?_, h2, by rw [← hy]; simp⟩
        · exact (R2.step k15 q5).grow (.inr rfl) hH0 hnp hnd
        · have r5' : Rp E.hf H5 (fun a => OO c ad env a ∨ a = D0) yv v := by
            have := r5
            unfold Rq at this
            rw [nw1] at this
            exact this
          refine Rs.move (fun a o n e => ?_) (fun a o n _ => n) _ _ ((Rs.move (fun a o n e => k15 a o (fun p => n (.inl (R.pOO a p))) e) (fun a o n _ => n) ys acc hacc).append (.cons r5' .nil))
          rw [upd_ne fun q => n (.inr q)]
          exact e
        · rw [upd_ne fun q => by subst q; rw [nD] at e; cases e]
          exact k15 a o n (kb a o n e)
  · have ei : i = xs.length := by omega
    subst ei
    refine .inl ⟨hJ.stops _ _ hsrc, ?_⟩
    rw [List.drop_eq_nil_of_le (Nat.le_refl _)] at hc
    simp only [compL, ret] at hc
    cases hc
    rw [List.append_nil] at hy
    subst hy
    have hacc' : Rs E.hf H' (OO c ad env) ys acc := Rs.move (fun a o _ e => e) (fun a o n _ q => n (.inl q)) ys acc hacc
    refine w5 (.ref D0) H' (k1.trans kb) R2.pot (Rq.of_rp R ⟨?_, fun a e => by cases e; exact hnO⟩) fun _ _ => ⟨D0, rfl, k1.none q1 nD, acc, hD, hacc⟩
    simp only [Rb]
    exact ⟨D0, acc, rfl, hD, hacc'⟩
end Ev
/-! The expressions' walk: what is matched does as the evaluator says. -/
namespace Ev
open PySem PySem.Spec PyProof.Rows L2

section
variable {X : Cx} {E : EC} {b fr : Bool} {c : RC} {ad : Nat → Addr} {env : Env} {ps : PS} {σ : L2.St} {H : Hp} {Q : VK}
theorem esc_inv {i : Nat} {d : D} (h : escV env i = some d) : env[i]? = some (.va d) := by
  unfold escV at h
  obtain ⟨s, h1, h2⟩ := Option.bind_eq_some_iff.mp h
  cases s with
  | va e => cases h2; exact h1
  | _ => cases h2
theorem bor_inv {i : Nat} {d : D} (h : borV env i = some d) : env[i]? = some (.va d) ∨ env[i]? = some (.ow d) := by
  unfold borV at h
  obtain ⟨s, h1, h2⟩ := Option.bind_eq_some_iff.mp h
  cases s with
  | va e => cases h2; exact .inl h1
  | ow e => cases h2; exact .inr h1
  | un => cases h2
theorem Cont.drop (R : Rl E c ad env ps σ H) {d : D} {ps' : PS} {fr' : Bool} {H1 : Hp} (h : Cont E c (OO c ad env) b fr H1 d ps' Q) (hf : fr = true → fr' = true) : Cont E c (OO c ad env) false fr' H1 d ps' Q := fun v H' k p r f => h v H' k p (Rq.of_rp R r) fun e o => f (hf e) o
/-- by a value that stands -/
theorem tev_c {ie : IE} {d : D} {v : V} (hv : ∀ F env, ev F b ie env = ret d) (hr : ∀ H O, Rp E.hf H O d v) (ho : ownable d = false) (h : TEv E b ie σ H Q) : tC v σ H Q := by
  obtain ⟨c, ad, env, ps, R, w⟩ := h
  rw [hv] at w
  exact Cont.here R w (Rq.of_rp R (hr _ _)) (.inr ho)
theorem plain {ie : IE} {e : Expr} (h : ∀ b, PE X e (TEv E b ie)) (he : ∀ whole, isTrue e X.env whole = (do let v ← whole; standAt e.pos; holding [v] (truthy v))) : ∀ b, PT X e (TTv E b ie) := fun b =>
  PT_imp (pt_truth (h b) he) fun σ H Q q => test_val q
/-- what else is read of an expression in a chain of and, or -/
def TBv (E : EC) (c : Bool) (es : List IE) : TE := fun σ H Q => ∃ rc ad env ps, Rl E rc ad env ps σ H ∧ (evBop E.F c es env ps).Wp (fun d ps' => Cont E rc (OO rc ad env) false false H d ps' Q) E.xq
def TBt (E : EC) (c : Bool) (es : List IE) : TT := fun σ H Q => ∃ rc ad env ps, Rl E rc ad env ps σ H ∧ (evBop E.F c es env ps).Wp (fun d ps' => ∃ t, tru d = some t ∧ ∀ H', KB rc.pt H H' → PotIs rc.pt H' ps' → Q t H') E.xq
def TOv (E : EC) (o : Option IE) : TO := fun σ H Q => ∃ c ad env ps, Rl E c ad env ps σ H ∧ (evO E.F o env ps).Wp (fun i ps' => ∀ H', KB c.pt H H' → PotIs c.pt H' ps' → Q i H') E.xq
theorem gl_of {J : Inf} {sc : Scope} (ok : XOk X J E sc) {x : Str} (h : glB sc x = true) : Gl X x := by
  unfold glB at h
  show X.env.kindOf x = _
  unfold Env.kindOf
  rw [ok.sc]
  split at h
  · assumption
  · cases h
theorem dbg_of {x : Str} (h : notDbg x = true) : (x == ("__debug__" : Str)) = false ∧ (x == ("__classdict__" : Str)) = false := by
  unfold notDbg at h
  simpa using h
theorem vis_of {J : Inf} {sc : Scope} (ok : XOk X J E sc) {x : Str} (h : visB sc x = true) : Vis X.env.scope x := by
  rw [ok.sc]
  unfold visB at h
  split at h
  · exact .inl (by assumption)
  · exact .inr (.inl (by assumption))
  · exact .inr (.inr (by assumption))
  · cases h
theorem tav_one {e : IE} {R : List V → Hp → Prop} (h : TAv E b [e] σ H R) : TEv E b e σ H fun v H1 => R [v] H1 := by
  have := tav_cons h
  obtain ⟨c, ad, env, ps, Rr, w⟩ := this
  refine ⟨c, ad, env, ps, Rr, w.mono (fun d p _ w1 => fun v H1 k q r f => ?_) fun _ _ _ _ h => h⟩
  obtain ⟨c', ad', env', ps', R', w'⟩ := w1 v H1 k q r f
  simp only [evs] at w'
  exact w' [] H1 (KB.refl _) R'.pot trivial
def BiR (X : Cx) (E : EC) (t : BI) : Prop := match t with
  | .tuple => CallR X (.type "tuple") (rBI E.hf (biD .tuple))
  | .list => CallR X (.type "list") (rBI E.hf (biD .list))
  | .int => CallR X (.type "int") (rBI E.hf (biD .int))
  | t => ∃ id, bootBuiltins (biStr t) = some (.builtin id) ∧ CallR X (.builtin id) (rBI E.hf (biD t))
theorem bi_all_ok {J : Inf} {sc : Scope} (ok : XOk X J E sc) : ∀ t : BI, BiR X E t
  | .tuple => bi_tuple
  | .list => bi_list
  | .int => bi_int
  | .len => ⟨"len", by first | rfl | decide +kernel, bi_len⟩
  | .abs => ⟨"abs", by first | rfl | decide +kernel, bi_abs⟩
  | .sum => ⟨"sum", by first | rfl | decide +kernel, bi_sum ok.calm⟩
  | .max => ⟨"max", by first | rfl | decide +kernel, bi_max ok.calm⟩
  | .min => ⟨"min", by first | rfl | decide +kernel, bi_min ok.calm⟩
  | .sorted => ⟨"sorted", by first | rfl | decide +kernel, bi_sorted ok.calm ok.un⟩
  | .any => ⟨"any", by first | rfl | decide +kernel, bi_any ok.calm⟩
  | .all => ⟨"all", by first | rfl | decide +kernel, bi_all ok.calm⟩
  | .repr => ⟨"repr", by first | rfl | decide +kernel, bi_repr ok.gd (fun _ _ _ _ I => let ⟨_, h⟩ := ok.sm; (I.bs _ _ h).2) ok.un⟩
theorem bl_ne {x : Str} (h : x ∈ blNames) : x ≠ "__name__" ∧ (x == ("__debug__" : Str)) = false := by
  have : ∀ x ∈ blNames, x ≠ "__name__" ∧ (x == ("__debug__" : Str)) = false := by decide +kernel
  exact this x h
theorem pe_bi {J : Inf} {sc : Scope} (ok : XOk X J E sc) {t : BI} {x : Str} {e : Expr} {es : List Expr} {ta : TA} {p pos : Pos} (hx : x = biStr t) (hg : glB sc x = true) (n1 : noStar e = true) (n2 : es.all noStar = true) (ha : PA X (e :: es) ta) :
    PE X (.Call (.Name x p) (e :: es) [] pos) (tCB (rBI E.hf (biD t)) ta) := by
  subst hx
  have hm : biStr t ∈ blNames := by cases t <;> decide +kernel
  obtain ⟨hn, hd⟩ := bl_ne hm
  have key := bi_all_ok ok t
  have hl := gl_of ok hg
  have hb := ok.bl _ hm
  cases t with
  | tuple => exact pe_callTy key hl hb (by first | rfl | decide +kernel) ha hn hd (star_cons n1) (star_any n2)
  | list => exact pe_callTy key hl hb (by first | rfl | decide +kernel) ha hn hd (star_cons n1) (star_any n2)
  | int => exact pe_callTy key hl hb (by first | rfl | decide +kernel) ha hn hd (star_cons n1) (star_any n2)
  | _ =>
    obtain ⟨id, h1, h2⟩ := key
    exact pe_callB h2 hl hb h1 ha hn hd (star_cons n1) (star_any n2)
theorem pe_dct0 {pos : Pos} : PE X (.Dict [] [] pos) (fun σ H Q => ∀ p, H p = none → (p == sysModules) = false → Q (.ref p) (upd H p (rawO p #[] 0))) := by
  refine ⟨fun pins s σ H Q I h => ?_⟩
  refine wpAny_Dict_empty ?_
  have hb : sysModules < s.heap.objs.size := I.big
  have hp := I.hok.fresh (Nat.le_refl s.heap.objs.size)
  refine ⟨.ref s.heap.objs.size, _, I.laid (t' := s.toks) (o := rawO s.heap.objs.size #[] 0) (fun b u e => Heap.get?_push_of_some _ e) (Nat.le_refl _) ?_, rfl, h _ hp ?_⟩
  · refine ⟨⟨_, Heap.get?_push_size _ rfl, ?_, rfl⟩, ⟨_, Heap.get?_push_size _ rfl⟩, fun h1 h2 ⟨o, e, x⟩ k => ⟨o, k o e, x⟩⟩
    exact ⟨rfl, rfl, rfl⟩
  · exact beq_eq_false_iff_ne.mpr (Nat.ne_of_gt hb)
theorem isn_dec {hf : D → Int} {H : Hp} {O : Addr → Prop} {d : D} {v : V} (h : Rb hf H O d v) : decide (v = .non) = isNone d := by
  cases d with
  | none => simp only [Rb] at h; subst h; rfl
  | bool b => simp only [Rb] at h; subst h; rfl
  | int i => simp only [Rb] at h; subst h; rfl
  | str s => simp only [Rb] at h; subst h; rfl
  | list ds => obtain ⟨a, vs, rfl, _⟩ := rb_lst h; rfl
  | tuple ds => obtain ⟨a, vs, rfl, _⟩ := rb_seq h; rfl
  | dict ds => obtain ⟨a, es, ep, qs, vs, rfl, _⟩ := rb_dict h; rfl
end
section
variable {J : Inf}
theorem isEs_star : ∀ {sc : Scope} {es : List IE} {xs : List Expr}, isEs J sc es xs = true → xs.all noStar = true
  | _, [], [], _ => rfl
  | _, [], _ :: _, h => by simp [isEs] at h
  | _, _ :: _, [], h => by simp [isEs] at h
  | _, e :: es, x :: xs, h => by
    simp only [isEs, Bool.and_eq_true] at h
    simp only [List.all_cons, Bool.and_eq_true]
    exact ⟨h.1.1, isEs_star h.2⟩
theorem isEs_len : ∀ {sc : Scope} {es : List IE} {xs : List Expr}, isEs J sc es xs = true → xs.length = es.length
  | _, [], [], _ => rfl
  | _, [], _ :: _, h => by simp [isEs] at h
  | _, _ :: _, [], h => by simp [isEs] at h
  | _, e :: es, x :: xs, h => by
    simp only [isEs, Bool.and_eq_true] at h
    simp [isEs_len h.2]
theorem isKs_names {env : PySem.Env} {pos : Pos} : ∀ {sc : Scope} {ks : List Str} {es : List IE} {xs : List Keyword}, isKs J sc ks es xs = true →
    (backToKw pos (keywordEach xs env)).all (·.1.isSome) = true ∧ (backToKw pos (keywordEach xs env)).filterMap (·.1) = ks ∧ (backToKw pos (keywordEach xs env)).any (·.1.isNone) = false ∧ ks.length = es.length
  | _, [], [], [], _ => ⟨rfl, rfl, rfl, rfl⟩
  | _, [], _ :: _, _, h => by simp [isKs] at h
  | _, [], [], _ :: _, h => by simp [isKs] at h
  | _, _ :: _, [], _, h => by simp [isKs] at h
  | _, _ :: _, _ :: _, [], h => by simp [isKs] at h
  | sc, k :: ks, e :: es, ⟨nm, x, kp⟩ :: xs, h => by
    cases nm with
    | none => simp [isKs] at h
    | some y =>
      simp only [isKs, Bool.and_eq_true, decide_eq_true_eq] at h
      obtain ⟨⟨hk, _⟩, h2⟩ := h
      subst hk
      obtain ⟨a1, a2, a3, a4⟩ := isKs_names (env := env) (pos := pos) h2
      refine ⟨?_, ?_, ?_, by simp [a4]⟩
      · show (true && (backToKw pos (keywordEach xs env)).all (·.1.isSome)) = true
        rw [a1]; rfl
      · show k :: (backToKw pos (keywordEach xs env)).filterMap (·.1) = k :: ks
        rw [a2]
      · show (false || (backToKw pos (keywordEach xs env)).any (·.1.isNone)) = false
        rw [a3]; rfl
end
end Ev
set_option maxHeartbeats 20000000
/-! The expressions' walk, joined. -/
namespace Ev
open PySem PySem.Spec PyProof.Rows L2

theorem XOk.blk {X : Cx} {J : Inf} {E : EC} {sc : Scope} (ok : XOk X J E sc) (s : Shared) (H : Hp) (scope : Scope) (C : Addr) (cl : List (Str × Addr)) (fp : List Addr) : XOk (X.blk s H scope (compEnvC scope cl C X.env) fp) J E.mute (relS scope sc) where
  sc := by
    show relS scope X.env.scope = _
    rw [ok.sc]
  N := ok.N
  nd := ok.nd
  calm := ok.calm
  un := ok.un
  gd := ok.gd
  sm := ok.sm
  bl := ok.bl
  cs := ok.cs
  pi := ok.pi
  hp := ok.hp
  nx := fun _ _ _ h => h
  pure := ok.pure
  call := fun f x pot h => ⟨(ok.call f x pot h).ok⟩

section
variable {X : Cx} {E : EC} {b : Bool} {σ : L2.St} {H : Hp} {Q : VK}
/-- a call without the pot, the arguments at hand -/
theorem call_end {J : Inf} {sc : Scope} (ok : XOk X J E sc) {f : Nat} {x : Str} {n : Nat} {ks : List Str} {pm : List Nat} {pins : List (Addr × Obj)} {s : Shared} {us ws : List Value} {vs zs : List V} {c : RC} {ad : Nat → Addr} {env : Env} {ps : PS} {ds es as : List D} {fr : Bool}
    (I : L2.Inv X pins σ H s) (hd : J.defs[f]? = some (x, false)) (hs : (f, n, ks, pm) ∈ J.shapes) (r : Vals vs us) (rz : Vals zs ws) (h1 : us.length = n) (h2 : ws.length = ks.length) (R : Rl E c ad env ps σ H) (rs : Rs E.hf H (OO c ad env) ds vs) (rz' : Rs E.hf H (OO c ad env) es zs)
    (hp : pick (ds ++ es) pm = some as) (w : (E.F f as ps).Wp (fun d ps' => Cont E c (OO c ad env) b false H d ps' Q) E.xq) {fa : Addr} (hfa : X.mg x = some (.ref fa)) : wpAny (model X.prog X.w) X.A (call (.ref fa) us (ks.zip ws)) (EP X pins σ Q) X.xe s := by
  obtain ⟨k, fa', fd, pr, hm, hk, hr, F, sh⟩ := (ok.call f x false hd).ok
  rw [hfa] at hm
  cases hm
  have hsh := sh (n, ks, pm) (List.mem_map.mpr ⟨(f, n, ks, pm), List.mem_filter.mpr ⟨hs, by simp⟩, rfl⟩)
  obtain ⟨bs, e, rb⟩ := pick_rs (rs.append rz') hp
  refine runG (E := fun _ _ _ => False) F hr ok.gd hsh I r rz h1 h2 e ⟨OO c ad env, as, ps, none, bs, R.dom, trivial, fun a p => p.elim, ⟨rfl, rfl⟩, rb, ?_⟩
  rcases ok.pure f x hd as ps with ⟨d, e⟩ | e
  · rw [e] at w ⊢
    intro v H' kb _ rv
    have sm : Same H H' := fun a o e => kb a o (fun p => p) e
    exact w v H' (Same.kb sm) (R.pot.same sm) (Rq.of_rp R rv) fun e => by cases e
  · rw [e] at w
    exact w.elim
theorem call_endP {J : Inf} {sc : Scope} (ok : XOk X J E sc) {f : Nat} {x : Str} {n : Nat} {ks : List Str} {pm : List Nat} {pins : List (Addr × Obj)} {s : Shared} {us ws : List Value} {vs zs : List V} {c : RC} {ad : Nat → Addr} {env : Env} {ps : PS} {ds es as : List D} {fr : Bool} {P C : Addr}
    (I : L2.Inv X pins σ H s) (hd : J.defs[f]? = some (x, true)) (hs : (f, n, ks, 0 :: pm.map (· + 1)) ∈ J.shapes) (r : Vals vs us) (rz : Vals zs ws) (h1 : us.length + 1 = n) (h2 : ws.length = ks.length) (R : Rl E c ad env ps σ H) (hpt : c.pt = some (P, C)) (rs : Rs E.hf H (OO c ad env) ds vs) (rz' : Rs E.hf H (OO c ad env) es zs)
    (hp : pick (ds ++ es) pm = some as) (w : (E.F f as ps).Wp (fun d ps' => Cont E c (OO c ad env) b false H d ps' Q) E.xq) {fa : Addr} (hfa : X.mg x = some (.ref fa)) : wpAny (model X.prog X.w) X.A (call (.ref fa) (.ref P :: us) (ks.zip ws)) (EP X pins σ Q) X.xe s := by
  obtain ⟨k, fa', fd, pr, hm, hk, hr, F, sh⟩ := (ok.call f x true hd).ok
  rw [hfa] at hm
  cases hm
  have hsh := sh (n, ks, 0 :: pm.map (· + 1)) (List.mem_map.mpr ⟨(f, n, ks, 0 :: pm.map (· + 1)), List.mem_filter.mpr ⟨hs, by simp⟩, rfl⟩)
  obtain ⟨bs, e, rb⟩ := pick_rs (rs.append rz') hp
  have r' : Vals (V.ref P :: vs) (Value.ref P :: us) := .cons rfl r
  refine runG (E := fun _ _ _ => False) F hr ok.gd hsh I r' rz (by simp [h1]) h2 (pick_up (V.ref P) _ e) ⟨OO c ad env, as, ps, some (P, C), bs, R.dom, by rw [← hpt]; exact R.pot, fun a p => R.pOO a (by rw [hpt]; exact p), ⟨P, C, rfl, rfl⟩, rb, ?_⟩
  refine w.mono (fun d ps' _ w1 => fun v H' kb pi rv => ?_) fun cc fs p _ h => ok.nx cc fs p h
  rw [← hpt] at kb pi
  exact w1 v H' kb pi (Rq.of_rp R rv) fun e => by cases e
end

theorem evs_len {F : Nat → List D → M D} {b : Bool} : ∀ {es : List IE} {env : Env} {p p' : PS} {ds : List D}, evs F b es env p = .ok ds p' → ds.length = es.length
  | [], env, p, p', ds, h => by
    simp only [evs, ret] at h
    cases h
    rfl
  | e :: es, env, p, p', ds, h => by
    simp only [evs] at h
    obtain ⟨d, q, _, h⟩ := Out.bind_ok_iff h
    obtain ⟨r, q2, h2, h⟩ := Out.bind_ok_iff h
    cases h
    simp [evs_len h2]
/-- behind the arguments of a call -/
def PV (E : EC) (b : Bool) (σ : L2.St) (Q : VK) (f n m : Nat) (pm : List Nat) (vs zs : List V) (H : Hp) : Prop := ∃ c ad env p ds es as, Rl E c ad env p σ H ∧ Rs E.hf H (OO c ad env) ds vs ∧ Rs E.hf H (OO c ad env) es zs ∧ ds.length = n ∧ es.length = m ∧ pick (ds ++ es) pm = some as ∧
  (E.F f as p).Wp (fun d ps' => Cont E c (OO c ad env) b false H d ps' Q) E.xq
/-- the same, the pot ahead -/
def PVP (E : EC) (b : Bool) (σ : L2.St) (Q : VK) (f n m : Nat) (pm : List Nat) (P : Addr) (vs zs : List V) (H : Hp) : Prop := ∃ C c ad env p ds es as, Rl E c ad env p σ H ∧ c.pt = some (P, C) ∧ Rs E.hf H (OO c ad env) ds vs ∧ Rs E.hf H (OO c ad env) es zs ∧ ds.length = n ∧ es.length = m ∧ pick (ds ++ es) pm = some as ∧
  (E.F f as p).Wp (fun d ps' => Cont E c (OO c ad env) b false H d ps' Q) E.xq
structure CalR (E : EC) (b : Bool) (σ : L2.St) (H : Hp) (Q : VK) (f : Nat) (es zs : List IE) (pm : List Nat) : Prop where
  go : TAv E false es σ H fun vs H1 => TAv E false zs σ H1 fun zs' H2 => PV E b σ Q f es.length zs.length pm vs zs' H2
  pot : E.hp = true → ∃ P, σ[E.pi]? = some (some (.ref P)) ∧ TAv E false es σ H fun vs H1 => ∃ vs', V.ref P :: vs = V.ref P :: vs' ∧ TAv E false zs σ H1 fun zs' H2 => PVP E b σ Q f es.length zs.length pm P vs' zs' H2
theorem cal_read0 {E : EC} {b pot : Bool} {σ : L2.St} {H : Hp} {Q : VK} {f : Nat} {es zs : List IE} {ks : List Str} {pm : List Nat} (h : TEv E b (.cal f pot es ks zs pm) σ H Q) : CalR E b σ H Q f es zs pm := by
  obtain ⟨c, ad, env, ps, R, w⟩ := h
  simp only [ev] at w
  have main : TAv E false es σ H fun vs H1 => TAv E false zs σ H1 fun zs' H2 => ∃ p ds es' as, Rl E c ad env p σ H2 ∧ Rs E.hf H2 (OO c ad env) ds vs ∧ Rs E.hf H2 (OO c ad env) es' zs' ∧ ds.length = es.length ∧ es'.length = zs.length ∧ pick (ds ++ es') pm = some as ∧ (E.F f as p).Wp (fun d ps' => Cont E c (OO c ad env) b false H2 d ps' Q) E.xq := by
    refine ⟨c, ad, env, ps, R, (Out.wp_bind.mp w).mono (fun ds p1 e1 w1 => fun vs H1 k1 q1 r1 => ?_) fun _ _ _ _ h => h⟩
    have R1 := R.step k1 q1
    refine ⟨c, ad, env, p1, R1, (Out.wp_bind.mp w1).mono (fun es' p2 e2 w2 => fun zs' H2 k2 q2 r2 => ?_) fun _ _ _ _ h => h⟩
    have R2 := R1.step k2 q2
    obtain ⟨as, hp, w3⟩ := wp_opt.mp (Out.wp_bind.mp w2)
    exact ⟨p2, ds, es', as, R2, (Bq.kb R1 k2 r1).rs, r2.rs, evs_len e1, evs_len e2, hp, w3.mono (fun d p _ w4 => w4.later (k1.trans k2) R2.pot) fun _ _ _ _ h => h⟩
  have up : ∀ {b : Bool} {es : List IE} {σ : L2.St} {H : Hp} {A B : List V → Hp → Prop}, (∀ vs H, A vs H → B vs H) → TAv E b es σ H A → TAv E b es σ H B := fun h ⟨c, ad, env, ps, R, w⟩ => ⟨c, ad, env, ps, R, w.mono (fun _ _ _ w1 vs H1 k q r => h _ _ (w1 vs H1 k q r)) fun _ _ _ _ h => h⟩
  refine ⟨up (fun vs H1 => up fun zs' H2 ⟨p, ds, es', as, x⟩ => ⟨c, ad, env, p, ds, es', as, x⟩) main, fun hp => ?_⟩
  cases hpt : c.pt with
  | none => exact absurd hpt (R.hp hp)
  | some pc =>
    obtain ⟨P, C⟩ := pc
    exact ⟨P, R.pv P C hpt, up (fun vs H1 h => ⟨vs, rfl, up (fun zs' H2 ⟨p, ds, es', as, x1, x2⟩ => ⟨C, c, ad, env, p, ds, es', as, x1, hpt, x2⟩) h⟩) main⟩

theorem ty_boot {t : Ty} {z : Str} (h : isTy t z = true) : z ∈ blNames ∧ bootBuiltins z = some (.type (tyName t)) := by
  cases t <;> simp only [isTy, decide_eq_true_eq] at h <;> subst h <;> refine ⟨by decide +kernel, ?_⟩ <;> first | rfl | decide +kernel
theorem isi_boot : ("isinstance" : Str) ∈ blNames ∧ bootBuiltins ("isinstance" : Str) = some (.builtin "isinstance") := ⟨by decide +kernel, by first | rfl | decide +kernel⟩
theorem pe_isi {J : Inf} {X : Cx} {E : EC} {sc : Scope} (ok : XOk X J E sc) {t : Ty} {y : Expr} {z : Str} {te : TE} {p pz pos : Pos} (h4 : isTy t z = true) (h2 : glB sc "isinstance" = true) (h3 : glB sc z = true) (h5 : noStar y = true) (hy : PE X y te) :
    PE X (.Call (.Name "isinstance" p) [y, .Name z pz] [] pos) (fun σ H Q => te σ H fun x H1 => ∃ O d, Rb E.hf H1 O d x ∧ Q (.bl (isD t d)) H1) := by
  obtain ⟨hm, hb⟩ := ty_boot h4
  obtain ⟨hn, hd⟩ := bl_ne hm
  obtain ⟨hi, hbi⟩ := isi_boot
  obtain ⟨hn', hd'⟩ := bl_ne hi
  have hz : PE X (.Name z pz) (tC (.ty (tyName t))) := pe_bltn (gl_of ok h3) (ok.bl _ hm) hb rfl hn hd
  have pa : PA X [y, .Name z pz] (tCons (upE te) (tCons (tC (.ty (tyName t))) tNil)) := pa_cons (PE_up hy) (pa_cons hz pa_nil (star_cons rfl)) (star_cons h5)
  have := pe_callB (p := p) (pos := pos) (call_isD (X := X) (hf := E.hf) t) (gl_of ok h2) (ok.bl _ hi) hbi pa hn' hd' (star_cons h5) (star_any rfl)
  refine PE_imp this fun σ H Q q => ?_
  exact ⟨_, q, fun v H1 ⟨O, d, h1, h2⟩ => ⟨O, v, d, rfl, h1, h2⟩⟩
theorem callName_inv {x : Expr} {r : Str} (h : callName x = some r) : ∃ p xs pos, x = .Call (.Name r p) xs [] pos := by
  cases x with
  | Call fn xs kws pos =>
    cases fn with
    | Name q p =>
      cases kws with
      | nil =>
        simp only [callName, Option.some.injEq] at h
        subst h
        exact ⟨p, xs, pos, rfl⟩
      | cons _ _ => cases h
    | _ => cases h
  | _ => cases h
theorem itOk_inv {sc : Scope} {tg x : Expr} {k : ItK} (h : itOk sc tg k x = true) : k = .seq ∨ ∃ r p xs pos, x = .Call (.Name r p) xs [] pos ∧ glB sc r = true ∧ itN k r xs.length = true ∧ (itTup k = true → isTup0 tg = true) ∧ itArgs k x = xs := by
  unfold itOk at h
  split at h
  · exact .inl rfl
  · rename_i hk
    split at h
    · rename_i r hr
      obtain ⟨p, xs, pos, rfl⟩ := callName_inv hr
      have e : itArgs k (.Call (.Name r p) xs [] pos) = xs := by
        cases k <;> first | rfl | exact absurd rfl hk
      rw [e] at h
      simp only [Bool.and_eq_true, Bool.or_eq_true, Bool.not_eq_true'] at h
      refine .inr ⟨r, p, xs, pos, rfl, h.1.1, h.1.2, fun t => ?_, e⟩
      rcases h.2 with q | q
      · rw [t] at q; cases q
      · exact q
    · cases h
mutual
theorem sndE {J : Inf} : ∀ (ie : IE) {X : Cx} {E : EC} {sc : Scope}, XOk X J E sc → ∀ e : Expr, (isE J sc false ie e = true → ∀ b, PE X e (TEv E b ie)) ∧ (isE J sc true ie e = true → ∀ b, PT X e (TTv E b ie))
  | .var i, X, E, sc, ok, e => by
    have key : ∀ t, isE J sc t (.var i) e = true → (∀ b, PE X e (TEv E b (.var i))) ∧ ∀ whole, isTrue e X.env whole = (do let v ← whole; standAt e.pos; holding [v] (truthy v)) := by
      intro t h
      cases e with
      | Name x pos =>
        simp only [isE, okVar, Bool.and_eq_true, decide_eq_true_eq] at h
        obtain ⟨⟨h1, h2⟩, h3⟩ := h
        obtain ⟨d1, d2⟩ := dbg_of h3
        refine ⟨fun b => PE_imp (pe_var (by rw [ok.N]; exact h1) (vis_of ok h2) d1 d2) fun σ H Q ⟨c, ad, env, ps, R, w⟩ => ?_, fun _ => rfl⟩
        simp only [ev] at w
        obtain ⟨d, e, w⟩ := wp_opt.mp w
        cases b with
        | false =>
          obtain ⟨v, hv, rv⟩ := R.va i d (esc_inv e)
          exact ⟨v, hv, Cont.here R w (Rq.of_rp R rv) (.inl rfl)⟩
        | true =>
          rcases bor_inv e with e | e
          · obtain ⟨v, hv, rv⟩ := R.va i d e
            exact ⟨v, hv, Cont.here R w (Rq.of_rp R rv) (.inl rfl)⟩
          · obtain ⟨a1, a2, a3⟩ := R.ow i d e
            exact ⟨_, a1, Cont.here R w ⟨a2.rb, fun a ea => by cases ea; exact R.notP e⟩ (.inl rfl)⟩
      | _ => simp [isE] at h
    exact ⟨fun h => (key _ h).1, fun h => plain (key _ h).1 (key _ h).2⟩
  | .glc x n, X, E, sc, ok, e => by
    have key : ∀ t, isE J sc t (.glc x n) e = true → (∀ b, PE X e (TEv E b (.glc x n))) ∧ ∀ whole, isTrue e X.env whole = (do let v ← whole; standAt e.pos; holding [v] (truthy v)) := by
      intro t h
      cases e with
      | Name y pos =>
        simp only [isE, Bool.and_eq_true, decide_eq_true_eq] at h
        obtain ⟨⟨⟨h1, h2⟩, h3⟩, h4⟩ := h
        obtain ⟨d1, d2⟩ := dbg_of h3
        obtain ⟨t, hm⟩ := ok.cs _ _ h4
        exact ⟨fun b => PE_imp (pe_glob (v := .int n) (gl_of ok h2) hm ⟨t, rfl⟩ d1) fun σ H Q q => tev_c (d := .int n) (fun F env => by simp only [ev]) (fun H O => .int) rfl q, fun _ => rfl⟩
      | _ => simp [isE] at h
    exact ⟨fun h => (key _ h).1, fun h => plain (key _ h).1 (key _ h).2⟩
  | .lit d, X, E, sc, ok, e => by
    have key : ∀ t, isE J sc t (.lit d) e = true → (∀ b, PE X e (TEv E b (.lit d))) ∧ ∀ whole, isTrue e X.env whole = (do let v ← whole; standAt e.pos; holding [v] (truthy v)) := by
      intro t h
      cases e with
      | Constant cn k pos =>
        cases d with
        | none =>
          cases cn <;> simp [isE] at h
          exact ⟨fun b => PE_imp pe_non fun σ H Q q => tev_c (d := .none) (fun F env => by simp only [ev]) (fun H O => .non) rfl q, fun _ => rfl⟩
        | bool c =>
          cases cn <;> simp [isE] at h
          subst h
          exact ⟨fun b => PE_imp pe_bl fun σ H Q q => tev_c (d := .bool c) (fun F env => by simp only [ev]) (fun H O => .bl) rfl q, fun _ => rfl⟩
        | int c =>
          cases cn <;> simp [isE] at h
          subst h
          exact ⟨fun b => PE_imp pe_int fun σ H Q q => tev_c (d := .int c) (fun F env => by simp only [ev]) (fun H O => .int) rfl q, fun _ => rfl⟩
        | str c =>
          cases cn <;> simp [isE] at h
          subst h
          exact ⟨fun b => PE_imp pe_str fun σ H Q q => tev_c (d := .str c) (fun F env => by simp only [ev]) (fun H O => .str) rfl q, fun _ => rfl⟩
        | _ => cases cn <;> simp [isE] at h
      | _ => cases d <;> simp [isE] at h
    exact ⟨fun h => (key _ h).1, fun h => plain (key _ h).1 (key _ h).2⟩
  | .tup es, X, E, sc, ok, e => by
    have key : ∀ t, isE J sc t (.tup es) e = true → (∀ b, PE X e (TEv E b (.tup es))) ∧ ∀ whole, isTrue e X.env whole = (do let v ← whole; standAt e.pos; holding [v] (truthy v)) := by
      intro t h
      cases e with
      | Tuple xs k pos =>
        simp only [isE] at h
        refine ⟨fun b => PE_imp (pe_tup (sndEs es ok xs h false)) fun σ H Q ⟨c, ad, env, ps, R, w⟩ => ?_, fun _ => rfl⟩
        simp only [ev] at w
        refine ⟨c, ad, env, ps, R, (Out.wp_bind.mp w).mono (fun ds p1 _ w1 => fun vs H1 k1 q1 r1 => ?_) fun _ _ _ _ h => h⟩
        have R1 := R.step k1 q1
        simp only [lenOk] at w1
        split at w1
        · rename_i hl
          have rs := r1.rs
          have w2 : Cont E c (OO c ad env) b false H (.tuple ds) p1 Q := w1
          exact ⟨by rw [rs.length, szL]; exact hl, fun p np => Res.tup ((w2.later k1 q1).res R1 (fr' := true) (fun _ => rfl)) R1.dom rs np⟩
        · exact w1.elim
      | _ => simp [isE] at h
    exact ⟨fun h => (key _ h).1, fun h => plain (key _ h).1 (key _ h).2⟩
  | .lst es, X, E, sc, ok, e => by
    have key : ∀ t, isE J sc t (.lst es) e = true → (∀ b, PE X e (TEv E b (.lst es))) ∧ ∀ whole, isTrue e X.env whole = (do let v ← whole; standAt e.pos; holding [v] (truthy v)) := by
      intro t h
      cases e with
      | List xs pos =>
        simp only [isE] at h
        refine ⟨fun b => PE_imp (pe_lst (sndEs es ok xs h false)) fun σ H Q ⟨c, ad, env, ps, R, w⟩ => ?_, fun _ => rfl⟩
        simp only [ev] at w
        refine ⟨c, ad, env, ps, R, (Out.wp_bind.mp w).mono (fun ds p1 _ w1 => fun vs H1 k1 q1 r1 => ?_) fun _ _ _ _ h => h⟩
        have R1 := R.step k1 q1
        simp only [lenOk] at w1
        split at w1
        · rename_i hl
          have rs := r1.rs
          have w2 : Cont E c (OO c ad env) b true H (.list ds) p1 Q := w1
          exact ⟨by rw [rs.length, szL]; exact hl, fun p np => Res.lst ((w2.later k1 q1).res R1 (fr' := true) (fun _ => rfl)) R1.dom rs np⟩
        · exact w1.elim
      | _ => simp [isE] at h
    exact ⟨fun h => (key _ h).1, fun h => plain (key _ h).1 (key _ h).2⟩
  | .dct0, X, E, sc, ok, e => by
    have key : ∀ t, isE J sc t .dct0 e = true → (∀ b, PE X e (TEv E b .dct0)) ∧ ∀ whole, isTrue e X.env whole = (do let v ← whole; standAt e.pos; holding [v] (truthy v)) := by
      intro t h
      cases e with
      | Dict xs ys pos =>
        cases xs with
        | cons _ _ => simp [isE] at h
        | nil =>
          cases ys with
          | cons _ _ => simp [isE] at h
          | nil =>
            refine ⟨fun b => PE_imp pe_dct0 fun σ H Q ⟨c, ad, env, ps, R, w⟩ => fun p np nm => ?_, fun _ => rfl⟩
            simp only [ev, ret] at w
            have w2 : Cont E c (OO c ad env) b true H (.dict []) ps Q := w
            have sm : Same H (upd H p (rawO p #[] 0)) := same_new np
            have own : ∀ O, OwnAt E.hf (upd H p (rawO p #[] 0)) O p (.dict []) := fun O => ⟨#[], 0, [], [], upd_same, nm, Nat.zero_le _, trivial, by simp [Rk]⟩
            exact w2 _ _ (Same.kb sm) (R.pot.same sm) (Rq.of_rp R ⟨(own _).rb, fun a ea => by cases ea; exact fun o => R.dom.no o np⟩) fun _ _ => ⟨p, rfl, np, own _⟩
      | _ => simp [isE] at h
    exact ⟨fun h => (key _ h).1, fun h => plain (key _ h).1 (key _ h).2⟩
  | .bin op x y, X, E, sc, ok, e => by
    have key : ∀ t, isE J sc t (.bin op x y) e = true → (∀ b, PE X e (TEv E b (.bin op x y))) ∧ ∀ whole, isTrue e X.env whole = (do let v ← whole; standAt e.pos; holding [v] (truthy v)) := by
      intro t h
      cases e with
      | BinOp l o r pos =>
        simp only [isE, Bool.and_eq_true] at h
        obtain ⟨⟨h1, h2⟩, h3⟩ := h
        have := isOp_eq h1
        subst this
        refine ⟨fun b => PE_imp (pe_op (opBin (hf := E.hf) op) ((sndE x ok l).1 h2 true) ((sndE y ok r).1 h3 true)) fun σ H Q ⟨c, ad, env, ps, R, w⟩ => ?_, fun _ => rfl⟩
        simp only [ev] at w
        exact comp2 R (fun _ => rfl) w
      | _ => simp [isE] at h
    exact ⟨fun h => (key _ h).1, fun h => plain (key _ h).1 (key _ h).2⟩
  | .neg x, X, E, sc, ok, e => by
    have key : ∀ t, isE J sc t (.neg x) e = true → (∀ b, PE X e (TEv E b (.neg x))) ∧ ∀ whole, isTrue e X.env whole = (do let v ← whole; standAt e.pos; holding [v] (truthy v)) := by
      intro t h
      cases e with
      | UnaryOp o l pos =>
        cases o with
        | USub =>
          simp only [isE] at h
          refine ⟨fun b => PE_imp (pe_un un_neg ((sndE x ok l).1 h true)) fun σ H Q ⟨c, ad, env, ps, R, w⟩ => ?_, fun _ => rfl⟩
          simp only [ev] at w
          refine ⟨c, ad, env, ps, R, (Out.wp_bind.mp w).mono (fun dx p1 _ w1 => fun v H1 k1 q1 r1 _ => ?_) fun _ _ _ _ h => h⟩
          obtain ⟨d, e1, w2⟩ := wp_opt.mp w1
          obtain ⟨i, e2, rfl⟩ := Option.map_eq_some_iff.mp e1
          have R1 := R.step k1 q1
          cases dx with
          | int j =>
            simp only [intOf, Option.some.injEq] at e2
            subst e2
            exact ⟨j, rb_int r1.1, ((w2.later k1 q1).res R1 (fr' := true) (fun _ => rfl)).int⟩
          | _ => simp [intOf] at e2
        | _ => simp [isE] at h
      | _ => simp [isE] at h
    exact ⟨fun h => (key _ h).1, fun h => plain (key _ h).1 (key _ h).2⟩
  | .not x, X, E, sc, ok, e => by
    refine ⟨fun h b => ?_, fun h b => ?_⟩
    · cases e with
      | UnaryOp o l pos =>
        cases o with
        | Not =>
          simp only [isE] at h
          refine PE_imp (pe_notT ((sndE x ok l).1 h true)) fun σ H Q ⟨c, ad, env, ps, R, w⟩ => ?_
          simp only [ev] at w
          refine ⟨c, ad, env, ps, R, (Out.wp_bind.mp w).mono (fun dx p1 _ w1 => fun v H1 k1 q1 r1 _ => ?_) fun _ _ _ _ h => h⟩
          obtain ⟨d, e1, w2⟩ := wp_opt.mp w1
          obtain ⟨t, e2, rfl⟩ := Option.map_eq_some_iff.mp e1
          have R1 := R.step k1 q1
          exact ⟨t, truV r1.1 e2, ((w2.later k1 q1).res R1 (fr' := true) (fun _ => rfl)).bl⟩
        | _ => simp [isE] at h
      | _ => simp [isE] at h
    · cases e with
      | UnaryOp o l pos =>
        cases o with
        | Not =>
          simp only [isE] at h
          refine PT_imp (pt_not ((sndE x ok l).2 h true)) fun σ H Q ⟨c, ad, env, ps, R, w⟩ => ?_
          simp only [ev] at w
          refine ⟨c, ad, env, ps, R, (Out.wp_bind.mp w).mono (fun dx p1 _ w1 => ?_) fun _ _ _ _ h => h⟩
          obtain ⟨d, e1, t', e3, w2⟩ := wp_opt.mp w1
          obtain ⟨t, e2, rfl⟩ := Option.map_eq_some_iff.mp e1
          simp only [tru, Option.some.injEq] at e3
          subst e3
          exact ⟨t, e2, w2⟩
        | _ => simp [isE] at h
      | _ => simp [isE] at h
  | .bop cc es, X, E, sc, ok, e => by
    refine ⟨fun h b => ?_, fun h b => ?_⟩
    · cases e with
      | BoolOp o xs pos =>
        simp only [isE, Bool.and_eq_true] at h
        refine PE_imp ((sndBs es ok cc o xs pos h.1).1 h.2) fun σ H Q ⟨c, ad, env, ps, R, w⟩ => ?_
        simp only [ev] at w
        exact ⟨c, ad, env, ps, R, w.mono (fun d p _ w1 => Cont.drop R w1 fun e => by cases e) fun _ _ _ _ h => h⟩
      | _ => simp [isE] at h
    · cases e with
      | BoolOp o xs pos =>
        simp only [isE, Bool.and_eq_true] at h
        refine PT_imp ((sndBs es ok cc o xs pos h.1).2 h.2).pt fun σ H Q ⟨c, ad, env, ps, R, w⟩ => ?_
        simp only [ev] at w
        exact ⟨c, ad, env, ps, R, w⟩
      | _ => simp [isE] at h
  | .ife t x y, X, E, sc, ok, e => by
    refine ⟨fun h b => ?_, fun h b => ?_⟩
    · cases e with
      | IfExp l m r pos =>
        simp only [isE, Bool.and_eq_true] at h
        refine PE_imp (pe_ifExp ((sndE t ok l).2 h.1.1.2 true) ((sndE x ok m).1 h.1.2 false) ((sndE y ok r).1 h.2 false)) fun σ H Q ⟨c, ad, env, ps, R, w⟩ => ?_
        simp only [ev] at w
        refine ⟨c, ad, env, ps, R, (Out.wp_bind.mp w).mono (fun dx p1 _ w1 => ?_) fun _ _ _ _ h => h⟩
        obtain ⟨k, e1, w2⟩ := wp_opt.mp (Out.wp_bind.mp w1)
        refine ⟨k, e1, fun H1 k1 q1 => ?_⟩
        have R1 := R.step k1 q1
        cases k with
        | true =>
          refine ⟨c, ad, env, p1, R1, Out.Wp.mono (x := ev E.F false x env p1) (by simpa using w2) (fun d p _ w3 => ?_) fun _ _ _ _ h => h⟩
          refine fun v H' k' q' r' f => (Cont.drop (fr' := isFr x) R w3 (fun e => ?_)) v H' (k1.trans k') q' r' fun e o => ?_
          · simp only [isFr, Bool.and_eq_true] at e
            exact e.1
          · obtain ⟨a, a1, a2, a3⟩ := f e o
            exact ⟨a, a1, k1.none q1 a2, a3⟩
        | false =>
          refine ⟨c, ad, env, p1, R1, Out.Wp.mono (x := ev E.F false y env p1) (by simpa using w2) (fun d p _ w3 => ?_) fun _ _ _ _ h => h⟩
          refine fun v H' k' q' r' f => (Cont.drop (fr' := isFr y) R w3 (fun e => ?_)) v H' (k1.trans k') q' r' fun e o => ?_
          · simp only [isFr, Bool.and_eq_true] at e
            exact e.2
          · obtain ⟨a, a1, a2, a3⟩ := f e o
            exact ⟨a, a1, k1.none q1 a2, a3⟩
      | _ => simp [isE] at h
    · cases e <;> simp [isE] at h
  | .cmp op x y, X, E, sc, ok, e => by
    refine ⟨fun h b => ?_, fun h b => ?_⟩
    · cases e with
      | Compare l os rs pos =>
        match os, rs, h with
        | [o], [r], h =>
          simp only [isE, Bool.and_eq_true] at h
          have := isCo_eq h.1.1
          subst this
          refine PE_imp (pe_cmpR (opCmp (hf := E.hf) (by have := ok.un; omega) op) ((sndE x ok l).1 h.1.2 true) ((sndE y ok r).1 h.2 true) (nomark r (by cases op <;> decide) (by cases op <;> decide))) fun σ H Q ⟨c, ad, env, ps, R, w⟩ => ?_
          simp only [ev] at w
          exact comp2 R (fun _ => rfl) w
      | _ => simp [isE] at h
    · cases e with
      | Compare l os rs pos =>
        match os, rs, h with
        | [o], [r], h =>
          simp only [isE, Bool.and_eq_true] at h
          have := isCo_eq h.1.1
          subst this
          refine PT_imp (pt_cmpR (opCmp (hf := E.hf) (by have := ok.un; omega) op) ((sndE x ok l).1 h.1.2 true) ((sndE y ok r).1 h.2 true) (nomark r (by cases op <;> decide) (by cases op <;> decide))) fun σ H Q q => ?_
          obtain ⟨c, ad, env, ps, R, w⟩ := test_of (b := b) (fun env p d p' e => by
            simp only [ev] at e
            obtain ⟨_, _, _, e⟩ := Out.bind_ok_iff e
            obtain ⟨_, _, _, e⟩ := Out.bind_ok_iff e
            obtain ⟨e, _⟩ := opt_ok_iff e
            obtain ⟨t, _, rfl⟩ := Option.map_eq_some_iff.mp e
            exact ⟨t, rfl⟩) q
          simp only [ev] at w
          exact comp2 R (fun _ => rfl) w
      | _ => simp [isE] at h
  | .chn o1 o2 x y z, X, E, sc, ok, e => by
    have main : ∀ {b : Bool} {l r1 r2 : Expr} {pos : Pos} {σ : L2.St} {H : Hp} {Q : VK}, TEv E b (.chn o1 o2 x y z) σ H Q → tChain (rD2 E.hf true fun x y => (cmpD o1 x y).map .bool) (rD2 E.hf true fun x y => (cmpD o2 x y).map .bool) (TEv E true x) (TEv E true y) (TEv E true z) σ H Q := by
      intro b l r1 r2 pos σ H Q ⟨c, ad, env, ps, R, w⟩
      simp only [ev] at w
      refine ⟨c, ad, env, ps, R, (Out.wp_bind.mp w).mono (fun dx p1 _ w1 => fun v1 H1 k1 q1 s1 _ => ?_) fun _ _ _ _ h => h⟩
      have R1 := R.step k1 q1
      refine ⟨c, ad, env, p1, R1, (Out.wp_bind.mp w1).mono (fun dy p2 _ w2 => fun v2 H2 k2 q2 s2 _ => ?_) fun _ _ _ _ h => h⟩
      have R2 := R1.step k2 q2
      obtain ⟨t, e1, w3⟩ := wp_opt.mp (Out.wp_bind.mp w2)
      refine ⟨_, dx, dy, .bool t, R2.dom, (Rq.kb R1 k2 s1).1, s2.1, by show (cmpD o1 dx dy).map _ = _; rw [e1]; rfl, fun v H3 sm rv _ => ⟨t, by simpa only [Rb] using rv.1, ?_⟩⟩
      have R3 := R2.same sm
      have k3 : KB c.pt H2 H3 := Same.kb sm
      cases t with
      | true =>
        rw [if_pos rfl]
        have w3 : ((ev E.F true z env p2).bind fun z p => opt ((cmpD o2 dy z).map .bool) p).Wp (fun d ps' => Cont E c (OO c ad env) b false H d ps' Q) E.xq := w3
        refine ⟨c, ad, env, p2, R3, (Out.wp_bind.mp w3).mono (fun dz p4 _ w4 => fun v4 H4 k4 q4 s4 _ => ?_) fun _ _ _ _ h => h⟩
        have R4 := R3.step k4 q4
        obtain ⟨d, e2, w5⟩ := wp_opt.mp w4
        exact ⟨_, dy, dz, d, R4.dom, (Rq.kb R2 (k3.trans k4) s2).1, s4.1, e2, (w5.later (((k1.trans k2).trans k3).trans k4) q4).res R4 (fun e => by cases e)⟩
      | false =>
        rw [if_neg (by simp)]
        have w3 : Cont E c (OO c ad env) b false H (.bool false) p2 Q := w3
        exact ((w3.later ((k1.trans k2).trans k3) R3.pot).res R3 (fr' := true) (fun _ => rfl)).bl
    refine ⟨fun h b => ?_, fun h b => ?_⟩
    · cases e with
      | Compare l os rs pos =>
        match os, rs, h with
        | [q1, q2], [r1, r2], h =>
          simp only [isE, Bool.and_eq_true] at h
          have e1 := isCo_eq h.1.1.1.1
          have e2 := isCo_eq h.1.1.1.2
          subst e1 e2
          have hu : X.A.units + 66 < cLine := by have := ok.un; omega
          exact PE_imp (pe_chain (opCmp (hf := E.hf) hu o1) (opCmp (hf := E.hf) hu o2) ((sndE x ok l).1 h.1.1.2 true) ((sndE y ok r1).1 h.1.2 true) ((sndE z ok r2).1 h.2 true) (nomark r2 (by cases o2 <;> decide) (by cases o2 <;> decide))) fun σ H Q q => main (l := l) (r1 := r1) (r2 := r2) (pos := pos) q
      | _ => simp [isE] at h
    · cases e with
      | Compare l os rs pos =>
        match os, rs, h with
        | [q1, q2], [r1, r2], h =>
          simp only [isE, Bool.and_eq_true] at h
          have e1 := isCo_eq h.1.1.1.1
          have e2 := isCo_eq h.1.1.1.2
          subst e1 e2
          have hu : X.A.units + 66 < cLine := by have := ok.un; omega
          refine PT_imp (pt_chain (opCmp (hf := E.hf) hu o1) (opCmp (hf := E.hf) hu o2) ((sndE x ok l).1 h.1.1.2 true) ((sndE y ok r1).1 h.1.2 true) ((sndE z ok r2).1 h.2 true) (nomark r2 (by cases o2 <;> decide) (by cases o2 <;> decide))) fun σ H Q q => main (b := b) (l := l) (r1 := r1) (r2 := r2) (pos := pos) (test_of (fun env p d p' e => ?_) q)
          simp only [ev] at e
          obtain ⟨_, _, _, e⟩ := Out.bind_ok_iff e
          obtain ⟨_, _, _, e⟩ := Out.bind_ok_iff e
          obtain ⟨t, _, _, e⟩ := Out.bind_ok_iff e
          cases t with
          | true =>
            simp only [if_true] at e
            obtain ⟨_, _, _, e⟩ := Out.bind_ok_iff e
            obtain ⟨e, _⟩ := opt_ok_iff e
            obtain ⟨t, _, rfl⟩ := Option.map_eq_some_iff.mp e
            exact ⟨t, rfl⟩
          | false =>
            simp only [Bool.false_eq_true, if_false] at e
            cases e
            exact ⟨false, rfl⟩
      | _ => simp [isE] at h
  | .isn ng x, X, E, sc, ok, e => by
    have main : ∀ {b : Bool} {σ : L2.St} {H : Hp} {Q : VK}, TEv E b (.isn ng x) σ H Q → TEv E true x σ H fun v H1 => Q (.bl (ng != decide (v = .non))) H1 := by
      intro b σ H Q ⟨c, ad, env, ps, R, w⟩
      simp only [ev] at w
      refine ⟨c, ad, env, ps, R, (Out.wp_bind.mp w).mono (fun dx p1 _ w1 => fun v1 H1 k1 q1 s1 _ => ?_) fun _ _ _ _ h => h⟩
      have R1 := R.step k1 q1
      have w1 : Cont E c (OO c ad env) b false H (.bool (ng != isNone dx)) p1 Q := w1
      show Q (.bl (ng != decide (v1 = .non))) H1
      rw [isn_dec s1.1]
      exact ((w1.later k1 q1).res R1 (fr' := true) (fun _ => rfl)).bl
    have hb : ∀ b env p d p', ev E.F b (.isn ng x) env p = .ok d p' → ∃ t, d = .bool t := fun b env p d p' e => by
      simp only [ev] at e
      obtain ⟨_, _, _, e⟩ := Out.bind_ok_iff e
      cases e
      exact ⟨_, rfl⟩
    refine ⟨fun h b => ?_, fun h b => ?_⟩
    · cases e with
      | Compare l os rs pos =>
        match os, rs, h with
        | [o], [.Constant .none k p], h =>
          simp only [isE, Bool.and_eq_true] at h
          have h1 := (sndE x ok l).1 h.2 true
          cases ng with
          | false =>
            cases o <;> first | (exfalso; exact absurd h.1 (by decide)) | skip
            refine PE_imp (pe_cmpR op_isN h1 pe_non (nomark _)) fun σ H Q q => ?_
            obtain ⟨c, ad, env, ps, R, w⟩ := main q
            exact ⟨c, ad, env, ps, R, w.mono (fun d p _ w1 => w1.imp fun v H1 _ _ z => ⟨rfl, by simpa using z⟩) fun _ _ _ _ h => h⟩
          | true =>
            cases o <;> first | (exfalso; exact absurd h.1 (by decide)) | skip
            refine PE_imp (pe_cmpR op_notN h1 pe_non (nomark _)) fun σ H Q q => ?_
            obtain ⟨c, ad, env, ps, R, w⟩ := main q
            exact ⟨c, ad, env, ps, R, w.mono (fun d p _ w1 => w1.imp fun v H1 _ _ z => ⟨rfl, by simpa using z⟩) fun _ _ _ _ h => h⟩
      | _ => simp [isE] at h
    · cases e with
      | Compare l os rs pos =>
        match os, rs, h with
        | [o], [.Constant .none k p], h =>
          simp only [isE, Bool.and_eq_true] at h
          have h1 := (sndE x ok l).1 h.2 true
          cases ng with
          | false =>
            cases o <;> first | (exfalso; exact absurd h.1 (by decide)) | skip
            refine PT_imp (pt_cmpR op_isN h1 pe_non (nomark _)) fun σ H Q q => ?_
            obtain ⟨c, ad, env, ps, R, w⟩ := main (test_of (b := b) (hb b) q)
            exact ⟨c, ad, env, ps, R, w.mono (fun d p _ w1 => w1.imp fun v H1 _ _ z => ⟨rfl, by simpa using z⟩) fun _ _ _ _ h => h⟩
          | true =>
            cases o <;> first | (exfalso; exact absurd h.1 (by decide)) | skip
            refine PT_imp (pt_cmpR op_notN h1 pe_non (nomark _)) fun σ H Q q => ?_
            obtain ⟨c, ad, env, ps, R, w⟩ := main (test_of (b := b) (hb b) q)
            exact ⟨c, ad, env, ps, R, w.mono (fun d p _ w1 => w1.imp fun v H1 _ _ z => ⟨rfl, by simpa using z⟩) fun _ _ _ _ h => h⟩
      | _ => simp [isE] at h
  | .mem ng x y, X, E, sc, ok, e => by
    have hm : ∀ o (r : Expr), notSet r = true → behindInMarks o r = false := fun o r hr => by cases r <;> first | rfl | cases hr
    refine ⟨fun h b => ?_, fun h b => ?_⟩
    · cases e with
      | Compare l os rs pos =>
        match os, rs, h with
        | [o], [r], h =>
          simp only [isE, Bool.and_eq_true] at h
          have eo : o = if ng then CmpOp.NotIn else .In := by
            have := h.1.1.1
            cases ng <;> cases o <;> first | rfl | cases this
          subst eo
          refine PE_imp (pe_cmpR (opMem (hf := E.hf) (by have := ok.un; omega) ng) ((sndE x ok l).1 h.1.2 true) ((sndE y ok r).1 h.2 true) (hm _ _ h.1.1.2)) fun σ H Q ⟨c, ad, env, ps, R, w⟩ => ?_
          simp only [ev] at w
          exact comp2 R (fun _ => rfl) w
      | _ => simp [isE] at h
    · cases e with
      | Compare l os rs pos =>
        match os, rs, h with
        | [o], [r], h =>
          simp only [isE, Bool.and_eq_true] at h
          have eo : o = if ng then CmpOp.NotIn else .In := by
            have := h.1.1.1
            cases ng <;> cases o <;> first | rfl | cases this
          subst eo
          refine PT_imp (pt_cmpR (opMem (hf := E.hf) (by have := ok.un; omega) ng) ((sndE x ok l).1 h.1.2 true) ((sndE y ok r).1 h.2 true) (hm _ _ h.1.1.2)) fun σ H Q q => ?_
          obtain ⟨c, ad, env, ps, R, w⟩ := test_of (b := b) (fun env p d p' e => by
            simp only [ev] at e
            obtain ⟨_, _, _, e⟩ := Out.bind_ok_iff e
            obtain ⟨_, _, _, e⟩ := Out.bind_ok_iff e
            obtain ⟨e, _⟩ := opt_ok_iff e
            obtain ⟨t, _, rfl⟩ := Option.map_eq_some_iff.mp e
            exact ⟨_, rfl⟩) q
          simp only [ev] at w
          exact comp2 R (fun _ => rfl) w
      | _ => simp [isE] at h
  | .ix x y, X, E, sc, ok, e => by
    have key : ∀ t, isE J sc t (.ix x y) e = true → (∀ b, PE X e (TEv E b (.ix x y))) ∧ ∀ whole, isTrue e X.env whole = (do let v ← whole; standAt e.pos; holding [v] (truthy v)) := by
      intro t h
      cases e with
      | Subscript l r pos =>
        simp only [isE, Bool.and_eq_true] at h
        refine ⟨fun b => PE_imp (pe_ix (ixD_ok (hf := E.hf)) ((sndE x ok l).1 h.1.2 true) ((sndE y ok r).1 h.2 true) (fun o i => by have := h.1.1; cases r <;> first | rfl | cases this)) fun σ H Q ⟨c, ad, env, ps, R, w⟩ => ?_, fun _ => rfl⟩
        simp only [ev] at w
        exact comp2 R (fun e => by cases e) w
      | _ => simp [isE] at h
    exact ⟨fun h => (key _ h).1, fun h => plain (key _ h).1 (key _ h).2⟩
  | .sl x lo hi, X, E, sc, ok, e => by
    have key : ∀ t, isE J sc t (.sl x lo hi) e = true → (∀ b, PE X e (TEv E b (.sl x lo hi))) ∧ ∀ whole, isTrue e X.env whole = (do let v ← whole; standAt e.pos; holding [v] (truthy v)) := by
      intro t h
      cases e with
      | Subscript l r pos =>
        match r, h with
        | .Slice l' h' none p2, h =>
          simp only [isE, Bool.and_eq_true] at h
          refine ⟨fun b => PE_imp (pe_slice (slD_ok (hf := E.hf)) ((sndE x ok l).1 h.1.1 true) (sndO lo ok l' h.1.2) (sndO hi ok h' h.2)) fun σ H Q ⟨c, ad, env, ps, R, w⟩ => ?_, fun _ => rfl⟩
          simp only [ev] at w
          refine ⟨c, ad, env, ps, R, (Out.wp_bind.mp w).mono (fun dx p1 _ w1 => fun v1 H1 k1 q1 s1 _ => ?_) fun _ _ _ _ h => h⟩
          have R1 := R.step k1 q1
          refine ⟨c, ad, env, p1, R1, (Out.wp_bind.mp w1).mono (fun i p2 _ w2 => fun H2 k2 q2 => ?_) fun _ _ _ _ h => h⟩
          have R2 := R1.step k2 q2
          refine ⟨c, ad, env, p2, R2, (Out.wp_bind.mp w2).mono (fun j p3 _ w3 => fun H3 k3 q3 => ?_) fun _ _ _ _ h => h⟩
          have R3 := R2.step k3 q3
          obtain ⟨d, e1, w4⟩ := wp_opt.mp w3
          exact ⟨_, dx, d, R3.dom, (Rq.kb R1 (k2.trans k3) s1).1, e1, (w4.later ((k1.trans k2).trans k3) q3).res R3 fun _ => rfl⟩
      | _ => simp [isE] at h
    exact ⟨fun h => (key _ h).1, fun h => plain (key _ h).1 (key _ h).2⟩
  | .rev x, X, E, sc, ok, e => by
    have key : ∀ t, isE J sc t (.rev x) e = true → (∀ b, PE X e (TEv E b (.rev x))) ∧ ∀ whole, isTrue e X.env whole = (do let v ← whole; standAt e.pos; holding [v] (truthy v)) := by
      intro t h
      cases e with
      | Subscript l r pos =>
        match r, h with
        | .Slice none none (some (.UnaryOp .USub (.Constant (.int n) k p1) p2)) p3, h =>
          simp only [isE, Bool.and_eq_true, decide_eq_true_eq] at h
          obtain ⟨h1, h2⟩ := h
          subst h1
          refine ⟨fun b => PE_imp (pe_revD (hf := E.hf) ((sndE x ok l).1 h2 true)) fun σ H Q ⟨c, ad, env, ps, R, w⟩ => ?_, fun _ => rfl⟩
          simp only [ev] at w
          refine ⟨c, ad, env, ps, R, (Out.wp_bind.mp w).mono (fun dx p1 _ w1 => fun v1 H1 k1 q1 s1 _ => ?_) fun _ _ _ _ h => h⟩
          have R1 := R.step k1 q1
          obtain ⟨d, e1, w4⟩ := wp_opt.mp w1
          exact ⟨_, dx, d, R1.dom, s1.1, e1, (w4.later k1 q1).res R1 fun _ => rfl⟩
      | _ => simp [isE] at h
    exact ⟨fun h => (key _ h).1, fun h => plain (key _ h).1 (key _ h).2⟩
  | .cal f pot es ks zs pm, X, E, sc, ok, e => by
    have key : ∀ t, isE J sc t (.cal f pot es ks zs pm) e = true → (∀ b, PE X e (TEv E b (.cal f pot es ks zs pm))) ∧ ∀ whole, isTrue e X.env whole = (do let v ← whole; standAt e.pos; holding [v] (truthy v)) := by
      intro t h
      cases e with
      | Call fn xs kws pos =>
        cases fn with
        | Name x p =>
          refine ⟨fun b => ⟨fun pins s σ H Q I q0 => ?_⟩, fun _ => rfl⟩
          have qq := cal_read0 q0
          clear q0
          have q := qq.go
          cases pot with
          | false =>
            simp only [isE, okCall, Bool.and_eq_true, decide_eq_true_eq] at h
            obtain ⟨⟨⟨⟨⟨⟨h1, h2⟩, h3⟩, h4⟩, h5⟩, h6⟩, h7⟩ := h
            obtain ⟨d1, d2⟩ := dbg_of h3
            obtain ⟨k, fa, fd, pr, hm, hk, hr, _, _⟩ := (ok.call f x false h1).ok
            obtain ⟨a1, a2, a3, a4⟩ := isKs_names (env := X.env) (pos := pos) h7
            have pk := sndKs zs ok ks kws h7
            have el := isEs_len h6
            have es' := isEs_star h6
            refine wpAny_Call_Name_kw (ld_glob I (gl_of ok h2) hm ?_ d1)
            have fin : ∀ {us ws : List Value} {vs zs' : List V} {s2 : Shared} {H2 : Hp}, Vals vs us → Vals zs' ws → L2.Inv X pins σ H2 s2 → PV E b σ Q f es.length zs.length pm vs zs' H2 → wpAny (model X.prog X.w) X.A (call (.ref fa) us (ks.zip ws)) (EP X pins σ Q) X.xe s2 := by
              intro us ws vs zs' s2 H2 r rz I2 ⟨c, ad, env, p, ds, es2, as, R, rs, rs2, l1, l2, hp, w⟩
              exact call_end ok (fr := false) I2 h1 h4 r rz (by rw [← r.length, rs.length, l1, el]) (by rw [← rz.length, rs2.length, l2, a4]) R rs rs2 hp w hm
            cases xs with
            | nil =>
              have en : es = [] := List.eq_nil_of_length_eq_zero el.symm
              subst en
              refine PySem.W.callWith_KW0 (h₀ := X.base) I.ok.mod.kin hk a1 (thn (pk.run pos pins s σ H _ I (tav_end q)) fun ws s2 ⟨zs', H2, I2, rz, pv⟩ => ⟨I2.kIn, ?_⟩) (by rw [a3]; rfl)
              rw [a2]
              exact fin .nil rz I2 pv
            | cons y ys =>
              simp only [List.all_cons, Bool.and_eq_true] at es'
              have pa := sndEs es ok (y :: ys) h6 false
              refine PySem.W.callWith_KW (h₀ := X.base) I.ok.mod.kin hk a1 (thn (pa.run pos pins s σ H _ I q) fun us s1 ⟨vs, H1, I1, r, q1⟩ => thn (pk.run pos pins s1 σ H1 _ I1 q1) fun ws s2 ⟨zs', H2, I2, rz, pv⟩ => ⟨I2.kIn, ?_⟩) (by rw [star_any (by simp [es'])]; rw [a3]; rfl) (star_cons es'.1)
              rw [a2]
              exact fin r rz I2 pv
          | true =>
            cases xs with
            | nil => simp [isE] at h
            | cons y ys =>
              cases y with
              | Name z pz =>
                simp only [isE, okCall, Bool.and_eq_true, decide_eq_true_eq] at h
                obtain ⟨⟨⟨⟨h0, hv⟩, ⟨⟨⟨h1, h2⟩, h3⟩, h4⟩⟩, h6⟩, h7⟩ := h
                simp only [okVar, Bool.and_eq_true, decide_eq_true_eq] at hv
                obtain ⟨d1, d2⟩ := dbg_of h3
                obtain ⟨d3, d4⟩ := dbg_of hv.2
                obtain ⟨k, fa, fd, pr, hm, hk, hr, _, _⟩ := (ok.call f x true h1).ok
                obtain ⟨a1, a2, a3, a4⟩ := isKs_names (env := X.env) (pos := pos) h7
                have pk := sndKs zs ok ks kws h7
                have el := isEs_len h6
                have es' := isEs_star h6
                have pa := pa_cons (pe_var (X := X) (i := J.pi) (pos := pz) (by rw [ok.N]; exact hv.1.1) (vis_of ok hv.1.2) d3 d4) (sndEs es ok ys h6 false) (star_cons rfl)
                refine wpAny_Call_Name_kw (ld_glob I (gl_of ok h2) hm ?_ d1)
                obtain ⟨P, hP, q⟩ := qq.pot (by rw [ok.hp]; exact h0)
                rw [ok.pi] at hP
                refine PySem.W.callWith_KW (h₀ := X.base) I.ok.mod.kin hk a1 (thn (pa.run pos pins s σ H (fun vs0 H1 => ∃ vs', vs0 = V.ref P :: vs' ∧ TAv E false zs σ H1 fun zs' H2 => PVP E b σ Q f es.length zs.length pm P vs' zs' H2) I ⟨.ref P, hP, q⟩) fun us s1 ⟨vs, H1, I1, r, vs', ev, q1⟩ => thn (pk.run pos pins s1 σ H1 _ I1 q1) fun ws s2 ⟨zs', H2, I2, rz, C, c, ad, env, p, ds, es2, as, R, hpt, rs, rs2, l1, l2, hp, w⟩ => ⟨I2.kIn, ?_⟩) (by rw [star_any (by simp [es', noStar])]; rw [a3]; rfl) (star_cons rfl)
                rw [a2]
                subst ev
                cases r with
                | cons r0 r =>
                  cases r0
                  exact call_endP ok (fr := false) I2 h1 h4 r rz (by rw [← r.length, rs.length, l1, el]) (by rw [← rz.length, rs2.length, l2, a4]) R hpt rs rs2 hp w hm
              | _ => simp [isE] at h
        | _ => simp [isE] at h
      | _ => simp [isE] at h
    exact ⟨fun h => (key _ h).1, fun h => plain (key _ h).1 (key _ h).2⟩
  | .bi t es, X, E, sc, ok, e => by
    have key : ∀ t', isE J sc t' (.bi t es) e = true → (∀ b, PE X e (TEv E b (.bi t es))) ∧ ∀ whole, isTrue e X.env whole = (do let v ← whole; standAt e.pos; holding [v] (truthy v)) := by
      intro t' h
      cases e with
      | Call fn xs kws pos =>
        cases fn with
        | Name x p =>
          cases kws with
          | cons _ _ => simp [isE] at h
          | nil =>
            cases xs with
            | nil => simp [isE] at h
            | cons y ys =>
              simp only [isE, Bool.and_eq_true, decide_eq_true_eq] at h
              obtain ⟨⟨⟨h1, h2⟩, h3⟩, h4⟩ := h
              have hs := isEs_star h4
              simp only [List.all_cons, Bool.and_eq_true] at hs
              refine ⟨fun b => PE_imp (pe_bi ok h1 h2 hs.1 hs.2 (sndEs es ok (y :: ys) h4 true)) fun σ H Q ⟨c, ad, env, ps, R, w⟩ => ?_, fun _ => rfl⟩
              simp only [ev] at w
              refine ⟨c, ad, env, ps, R, (Out.wp_bind.mp w).mono (fun ds p1 _ w1 => fun vs H1 k1 q1 r1 => ?_) fun _ _ _ _ h => h⟩
              have R1 := R.step k1 q1
              obtain ⟨d, e1, w2⟩ := wp_opt.mp w1
              exact ⟨_, ds, d, R1.dom, r1.bs, e1, (w2.later k1 q1).res R1 fun _ => rfl⟩
        | _ => simp [isE] at h
      | _ => simp [isE] at h
    exact ⟨fun h => (key _ h).1, fun h => plain (key _ h).1 (key _ h).2⟩
  | .isi t x, X, E, sc, ok, e => by
    have key : ∀ t', isE J sc t' (.isi t x) e = true → (∀ b, PE X e (TEv E b (.isi t x))) ∧ ∀ whole, isTrue e X.env whole = (do let v ← whole; standAt e.pos; holding [v] (truthy v)) := by
      intro t' h
      cases e with
      | Call fn xs kws pos =>
        cases fn with
        | Name g p =>
          match xs, kws, h with
          | [y, .Name z pz], [], h =>
            simp only [isE, Bool.and_eq_true, decide_eq_true_eq] at h
            obtain ⟨⟨⟨⟨⟨h1, h2⟩, h3⟩, h4⟩, h5⟩, h6⟩ := h
            subst h1
            refine ⟨fun b => PE_imp (pe_isi ok h4 h2 h3 h5 ((sndE x ok y).1 h6 true)) fun σ H Q ⟨c, ad, env, ps, R, w⟩ => ?_, fun _ => rfl⟩
            simp only [ev] at w
            refine ⟨c, ad, env, ps, R, (Out.wp_bind.mp w).mono (fun dx p1 _ w1 => fun v H1 k1 q1 r1 _ => ?_) fun _ _ _ _ h => h⟩
            have R1 := R.step k1 q1
            have w2 : Cont E c (OO c ad env) b false H (.bool (isD t dx)) p1 Q := w1
            exact ⟨_, dx, r1.1, ((w2.later k1 q1).res R1 (fr' := true) (fun _ => rfl)).bl⟩
        | _ => simp [isE] at h
      | _ => simp [isE] at h
    exact ⟨fun h => (key _ h).1, fun h => plain (key _ h).1 (key _ h).2⟩
  | .get x y z, X, E, sc, ok, e => by
    refine ⟨fun h => ?_, fun h => ?_⟩ <;> cases e <;> simp [isE] at h
  | .lc own tg k args cond elt, X, E, sc, ok, e => by
    have key : ∀ t', isE J sc t' (.lc own tg k args cond elt) e = true → (∀ b, PE X e (TEv E b (.lc own tg k args cond elt))) ∧ ∀ whole, isTrue e X.env whole = (do let v ← whole; standAt e.pos; holding [v] (truthy v)) := by
      intro t' h
      cases e with
      | ListComp y gens scope pos =>
        match gens, h with
        | [⟨te, it, ifs, 0⟩], h =>
          simp only [isE, Bool.and_eq_true, decide_eq_true_eq, List.all_eq_true] at h
          obtain ⟨⟨⟨⟨⟨⟨⟨⟨h1, h2⟩, h3⟩, h4⟩, h5⟩, h5'⟩, h6⟩, h7⟩, h8⟩ := h
          have hb : BlkOk X.N X.env.scope scope own := by
            rw [ok.N, ok.sc]
            exact blkOk_by h1
          refine ⟨fun b => ?_, fun _ => rfl⟩
          obtain ⟨ta, hta, pi⟩ := sndI args ok true k te it h5 h5'
          exact PE_imp (pe_lc ok.calm ok.nd pi hb (fun s H C cl fp => sndG (ok.blk s H scope C cl fp) (fun x hx => hx) tg te h2) (fun s H C cl fp => sndCs cond (ok.blk s H scope C cl fp) ifs h6)
            (fun s H C cl fp => (sndE elt (ok.blk s H scope C cl fp) y).1 h7 false) (fun x => by cases it <;> first | rfl | cases h8)) fun σ H Q q => lc_read hta h3 (by rw [ok.pi]; exact h4) q
      | _ => simp [isE] at h
    exact ⟨fun h => (key _ h).1, fun h => plain (key _ h).1 (key _ h).2⟩
theorem sndEs {J : Inf} : ∀ (es : List IE) {X : Cx} {E : EC} {sc : Scope}, XOk X J E sc → ∀ xs : List Expr, isEs J sc es xs = true → ∀ b, PA X xs (TAv E b es)
  | [], X, E, sc, ok, xs, h, b => by
    cases xs with
    | nil => exact PA_imp pa_nil fun σ H Q q => tav_end q
    | cons _ _ => simp [isEs] at h
  | e :: es, X, E, sc, ok, xs, h, b => by
    cases xs with
    | nil => simp [isEs] at h
    | cons x xs =>
      simp only [isEs, Bool.and_eq_true] at h
      exact PA_imp (pa_cons ((sndE e ok x).1 h.1.2 b) (sndEs es ok xs h.2 b) (star_cons h.1.1)) fun σ H Q q => tav_cons q
theorem sndBs {J : Inf} : ∀ (es : List IE) {X : Cx} {E : EC} {sc : Scope}, XOk X J E sc → ∀ (c : Bool) (o : PySem.BoolOp) (xs : List Expr) (pos : Pos), isBo c o = true → (isBs J sc false es xs = true → PE X (.BoolOp o xs pos) (TBv E c es)) ∧ (isBs J sc true es xs = true → PW X (.BoolOp o xs pos) (TBt E c es))
  | [], X, E, sc, ok, c, o, xs, pos, ho => by
    refine ⟨fun h => ?_, fun h => ?_⟩ <;> cases xs <;> simp [isBs] at h
  | [e], X, E, sc, ok, c, o, xs, pos, ho => by
    have h1 := fun x => sndE e ok x
    refine ⟨fun h => ?_, fun h => ?_⟩
    · match xs, h with
      | [x], h =>
        simp only [isBs] at h
        refine PE_imp (pe_one ((h1 x).1 h false)) fun σ H Q ⟨rc, ad, env, ps, R, w⟩ => ?_
        simp only [evBop] at w
        refine ⟨rc, ad, env, ps, R, (Out.wp_bind.mp w).mono (fun d p _ w1 => ?_) fun _ _ _ _ h => h⟩
        have w2 : Cont E rc (OO rc ad env) false false H d p Q := w1
        exact fun v H' k q r _ => w2 v H' k q r fun e => by cases e
      | [], h => simp [isBs] at h
      | _ :: _ :: _, h => simp [isBs] at h
    · match xs, h with
      | [x], h =>
        simp only [isBs] at h
        have hw : PW X (.BoolOp o [x] pos) (TTv E false e) := by
          cases c <;> cases o <;> first | (exfalso; exact absurd ho (by decide)) | skip
          · exact pw_or1 ((h1 x).2 h false)
          · exact pw_and1 ((h1 x).2 h false)
        refine ⟨fun wh pins s σ H Q I q => hw.run wh pins s σ H Q I ?_⟩
        obtain ⟨rc, ad, env, ps, R, w⟩ := q
        simp only [evBop] at w
        exact ⟨rc, ad, env, ps, R, (Out.wp_bind.mp w).mono (fun d p _ w1 => w1) fun _ _ _ _ h => h⟩
      | [], h => simp [isBs] at h
      | _ :: _ :: _, h => simp [isBs] at h
  | e :: e2 :: es, X, E, sc, ok, c, o, xs, pos, ho => by
    have h1 := fun x => sndE e ok x
    have h2 := fun xs => sndBs (e2 :: es) ok c o xs pos ho
    refine ⟨fun h => ?_, fun h => ?_⟩
    · match xs, h with
      | x :: x2 :: xs, h =>
        simp only [isBs, Bool.and_eq_true] at h
        have p1 := (h1 x).1 h.1 false
        have p2 := (h2 (x2 :: xs)).1 h.2
        have go : ∀ {σ : L2.St} {H : Hp} {Q : VK}, TBv E c (e :: e2 :: es) σ H Q → TEv E false e σ H fun v H1 => ∃ k, TruV X.K v H1 k ∧ (k = c → TBv E c (e2 :: es) σ H1 Q) ∧ (k ≠ c → Q v H1) := by
          intro σ H Q ⟨rc, ad, env, ps, R, w⟩
          simp only [evBop] at w
          refine ⟨rc, ad, env, ps, R, (Out.wp_bind.mp w).mono (fun d p _ w1 => fun v H1 k1 q1 r1 _ => ?_) fun _ _ _ _ h => h⟩
          obtain ⟨k, e1, w2⟩ := wp_opt.mp (Out.wp_bind.mp (show ((opt (tru d) p).bind fun t p => if t = c then evBop E.F c (e2 :: es) env p else Out.ok d p).Wp _ _ from w1))
          refine ⟨k, truV r1.1 e1, fun ek => ?_, fun ek => ?_⟩
          · rw [if_pos ek] at w2
            exact ⟨rc, ad, env, p, R.step k1 q1, w2.mono (fun d p _ w3 => w3.later k1 q1) fun _ _ _ _ h => h⟩
          · rw [if_neg ek] at w2
            have w3 : Cont E rc (OO rc ad env) false false H d p Q := w2
            exact w3 v H1 k1 q1 r1 fun e => by cases e
        have up : ∀ {σ : L2.St} {H : Hp} {A B : VK}, (∀ v H, A v H → B v H) → TEv E false e σ H A → TEv E false e σ H B := fun h ⟨c, ad, env, ps, R, w⟩ => ⟨c, ad, env, ps, R, w.mono (fun _ _ _ w1 => w1.imp fun v H _ _ => h v H) fun _ _ _ _ h => h⟩
        cases c <;> cases o <;> first | (exfalso; exact absurd ho (by decide)) | skip
        · refine PE_imp (pe_orT p1 p2) fun σ H Q q => up (fun v H1 ⟨k, t, g1, g2⟩ => ⟨k, t, ?_⟩) (go q)
          cases k with
          | true => rw [if_pos rfl]; exact g2 (by simp)
          | false => rw [if_neg (by simp)]; exact g1 rfl
        · refine PE_imp (pe_andT p1 p2) fun σ H Q q => up (fun v H1 ⟨k, t, g1, g2⟩ => ⟨k, t, ?_⟩) (go q)
          cases k with
          | true => rw [if_pos rfl]; exact g1 rfl
          | false => rw [if_neg (by simp)]; exact g2 (by simp)
      | [], h => simp [isBs] at h
      | [_], h => simp [isBs] at h
    · match xs, h with
      | x :: x2 :: xs, h =>
        simp only [isBs, Bool.and_eq_true] at h
        have p1 := (h1 x).2 h.1 false
        have p2 := (h2 (x2 :: xs)).2 h.2
        have go : ∀ {σ : L2.St} {H : Hp} {Q : Bool → Hp → Prop}, TBt E c (e :: e2 :: es) σ H Q → TTv E false e σ H fun k H1 => (k = c → TBt E c (e2 :: es) σ H1 Q) ∧ (k ≠ c → Q k H1) := by
          intro σ H Q ⟨rc, ad, env, ps, R, w⟩
          simp only [evBop] at w
          refine ⟨rc, ad, env, ps, R, (Out.wp_bind.mp w).mono (fun d p _ w1 => ?_) fun _ _ _ _ h => h⟩
          obtain ⟨k, e1, w2⟩ := wp_opt.mp (Out.wp_bind.mp (show ((opt (tru d) p).bind fun t p => if t = c then evBop E.F c (e2 :: es) env p else Out.ok d p).Wp _ _ from w1))
          refine ⟨k, e1, fun H1 k1 q1 => ⟨fun ek => ?_, fun ek => ?_⟩⟩
          · rw [if_pos ek] at w2
            exact ⟨rc, ad, env, p, R.step k1 q1, w2.mono (fun d p _ ⟨t, a, w3⟩ => ⟨t, a, fun H' k' q' => w3 H' (k1.trans k') q'⟩) fun _ _ _ _ h => h⟩
          · rw [if_neg ek] at w2
            obtain ⟨t, a, w3⟩ := w2
            rw [e1] at a
            cases a
            exact w3 H1 k1 q1
        have up : ∀ {σ : L2.St} {H : Hp} {A B : Bool → Hp → Prop}, (∀ v H, A v H → B v H) → TTv E false e σ H A → TTv E false e σ H B := fun h ⟨c, ad, env, ps, R, w⟩ => ⟨c, ad, env, ps, R, w.mono (fun _ _ _ ⟨t, a, w1⟩ => ⟨t, a, fun H' k q => h _ _ (w1 H' k q)⟩) fun _ _ _ _ h => h⟩
        cases c <;> cases o <;> first | (exfalso; exact absurd ho (by decide)) | skip
        · have pw := pw_or (pos := pos) p1 p2
          refine ⟨fun wh pins s σ H Q I q => pw.run wh pins s σ H Q I (up (fun k H1 ⟨g1, g2⟩ => ?_) (go q))⟩
          cases k with
          | true => rw [if_pos rfl]; exact g2 (by simp)
          | false => rw [if_neg (by simp)]; exact g1 rfl
        · have pw := pw_and (pos := pos) p1 p2
          refine ⟨fun wh pins s σ H Q I q => pw.run wh pins s σ H Q I (up (fun k H1 ⟨g1, g2⟩ => ?_) (go q))⟩
          cases k with
          | true => rw [if_pos rfl]; exact g1 rfl
          | false => rw [if_neg (by simp)]; exact g2 (by simp)
      | [], h => simp [isBs] at h
      | [_], h => simp [isBs] at h
theorem sndO {J : Inf} : ∀ (o : Option IE) {X : Cx} {E : EC} {sc : Scope}, XOk X J E sc → ∀ x : Option Expr, isO J sc o x = true → PO X x (TOv E o)
  | none, X, E, sc, ok, x, h => by
    cases x with
    | none =>
      refine ⟨fun pins s σ H Q I ⟨c, ad, env, ps, R, w⟩ => po_none.run pins s σ H Q I ?_⟩
      simp only [evO, ret] at w
      exact w H (KB.refl _) R.pot
    | some _ => simp [isO] at h
  | some e, X, E, sc, ok, x, h => by
    cases x with
    | none => simp [isO] at h
    | some x =>
      simp only [isO] at h
      refine ⟨fun pins s σ H Q I ⟨c, ad, env, ps, R, w⟩ => (po_some ((sndE e ok x).1 h false)).run pins s σ H Q I ?_⟩
      simp only [evO] at w
      refine ⟨c, ad, env, ps, R, (Out.wp_bind.mp w).mono (fun d p _ w1 => fun v H1 k1 q1 r1 _ => ?_) fun _ _ _ _ h => h⟩
      obtain ⟨i, e1, w2⟩ := wp_opt.mp (Out.wp_bind.mp w1)
      have w3 : ∀ H', KB c.pt H H' → PotIs c.pt H' p → Q (some i) H' := w2
      cases d with
      | int j =>
        simp only [intOf, Option.some.injEq] at e1
        subst e1
        exact ⟨j, rb_int r1.1, w3 H1 k1 q1⟩
      | _ => simp [intOf] at e1
theorem sndKs {J : Inf} : ∀ (es : List IE) {X : Cx} {E : EC} {sc : Scope}, XOk X J E sc → ∀ (ks : List Str) (kws : List Keyword), isKs J sc ks es kws = true → PK X kws (TAv E false es)
  | [], X, E, sc, ok, ks, kws, h => by
    cases ks with
    | cons _ _ => simp [isKs] at h
    | nil =>
      cases kws with
      | cons _ _ => simp [isKs] at h
      | nil => exact ⟨fun pos pins s σ H Q I q => pk_nil.run pos pins s σ H Q I (tav_end q)⟩
  | e :: es, X, E, sc, ok, ks, kws, h => by
    cases ks with
    | nil => cases kws <;> simp [isKs] at h
    | cons k ks =>
      match kws, h with
      | [], h => simp [isKs] at h
      | ⟨none, x, kp⟩ :: xs, h => simp [isKs] at h
      | ⟨some y, x, kp⟩ :: xs, h =>
        simp only [isKs, Bool.and_eq_true] at h
        have := pk_cons (nm := some y) (kpos := kp) ((sndE e ok x).1 h.1.2 false) (sndKs es ok ks xs h.2)
        exact ⟨fun pos pins s σ H Q I q => this.run pos pins s σ H Q I (tav_cons q)⟩
theorem sndCs {J : Inf} : ∀ (es : List IE) {X : Cx} {E : EC} {sc : Scope}, XOk X J E sc → ∀ xs : List Expr, isCs J sc es xs = true → PTs X xs (TCv E es)
  | [], X, E, sc, ok, xs, h => by
    cases xs with
    | cons _ _ => simp [isCs] at h
    | nil =>
      refine ⟨fun pins s σ H Q I ⟨c, ad, env, ps, R, w⟩ => pts_nil.run pins s σ H Q I ?_⟩
      simp only [evC, ret] at w
      exact w H (KB.refl _) R.pot
  | [e], X, E, sc, ok, xs, h => by
    match xs, h with
    | [x], h =>
      simp only [isCs] at h
      refine ⟨fun pins s σ H Q I ⟨c, ad, env, ps, R, w⟩ => (pts_one ((sndE e ok x).2 h true)).run pins s σ H Q I ?_⟩
      simp only [evC] at w
      refine ⟨c, ad, env, ps, R, (Out.wp_bind.mp w).mono (fun d p _ w1 => ?_) fun _ _ _ _ h => h⟩
      obtain ⟨t, e1, w2⟩ := wp_opt.mp w1
      exact ⟨t, e1, w2⟩
    | [], h => simp [isCs] at h
    | _ :: _ :: _, h => simp [isCs] at h
  | _ :: _ :: _, X, E, sc, ok, xs, h => by
    cases xs <;> simp [isCs] at h
theorem sndI {J : Inf} : ∀ (args : List IE) {X : Cx} {E : EC} {sc : Scope}, XOk X J E sc → ∀ (b : Bool) (k : ItK) (tg x : Expr), itOk sc tg k x = true → isEs J sc args (itArgs k x) = true → ∃ ta : TA, (∀ σ H R, TAv E b args σ H R → ta σ H R) ∧ PI X tg x (iD E.hf ta k)
  | [], X, E, sc, ok, bb, k, tg, x, h, h2 => by
    rcases itOk_inv h with e | ⟨r, p, xs, pos, rfl, hg, hn, ht, ea⟩
    · subst e
      simp [itArgs, isEs] at h2
    · rw [ea] at h2
      cases xs with
      | nil => cases k <;> simp [itN] at hn
      | cons _ _ => simp [isEs] at h2
  | [a], X, E, sc, ok, bb, k, tg, x, h, h2 => by
    rcases itOk_inv h with e | ⟨r, p, xs, pos, rfl, hg, hn, ht, ea⟩
    · subst e
      simp only [itArgs, isEs, Bool.and_eq_true] at h2
      exact ⟨_, fun σ H R q => tav_one q, piSeq ((sndE a ok x).1 h2.1.2 bb)⟩
    · rw [ea] at h2
      have pa := sndEs [a] ok xs h2 bb
      match xs, h2 with
      | [y], h2 =>
        simp only [isEs, Bool.and_eq_true] at h2
        cases k with
        | rng =>
          simp only [itN, Bool.and_eq_true, decide_eq_true_eq] at hn
          obtain ⟨rfl, _⟩ := hn
          exact ⟨_, fun σ H R q => by
            obtain ⟨c, ad, env, ps, Rr, w⟩ := tav_one q
            exact ⟨c, ad, env, ps, Rr, w⟩, piRng1 (gl_of ok hg) (ok.bl _ (by decide +kernel)) ((sndE a ok y).1 h2.1.2 bb) h2.1.1⟩
        | enum =>
          simp only [itN, Bool.and_eq_true, decide_eq_true_eq] at hn
          obtain ⟨rfl, _⟩ := hn
          have h0 := ht rfl
          cases tg with
          | Tuple es kk tp => exact ⟨_, fun σ H R q => q, piEnum (gl_of ok hg) (ok.bl _ (by decide +kernel)) pa h2.1.1⟩
          | _ => cases h0
        | _ => simp [itN] at hn
      | [], h2 => simp [isEs] at h2
      | _ :: _ :: _, h2 => simp [isEs] at h2
  | [a, b], X, E, sc, ok, bb, k, tg, x, h, h2 => by
    rcases itOk_inv h with e | ⟨r, p, xs, pos, rfl, hg, hn, ht, ea⟩
    · subst e
      simp [itArgs, isEs] at h2
    · rw [ea] at h2
      have pa := sndEs [a, b] ok xs h2 bb
      match xs, h2 with
      | [y, z], h2 =>
        simp only [isEs, Bool.and_eq_true] at h2
        cases k with
        | rng =>
          simp only [itN, Bool.and_eq_true, decide_eq_true_eq] at hn
          obtain ⟨rfl, _⟩ := hn
          refine ⟨_, fun σ H R q => ?_, piRng2 (gl_of ok hg) (ok.bl _ (by decide +kernel)) ((sndE a ok y).1 h2.1.2 bb) ((sndE b ok z).1 h2.2.1.2 bb) h2.1.1 h2.2.1.1⟩
          obtain ⟨c, ad, env, ps, Rr, w⟩ := tav_cons q
          exact ⟨c, ad, env, ps, Rr, w.mono (fun d p _ w1 => w1.imp fun v H1 _ _ z => tav_one z) fun _ _ _ _ h => h⟩
        | zip =>
          simp only [itN, Bool.and_eq_true, decide_eq_true_eq] at hn
          obtain ⟨rfl, _⟩ := hn
          have h0 := ht rfl
          cases tg with
          | Tuple es kk tp => exact ⟨_, fun σ H R q => q, piZip (gl_of ok hg) (ok.bl _ (by decide +kernel)) pa h2.1.1 h2.2.1.1⟩
          | _ => cases h0
        | _ => simp [itN] at hn
      | [], h2 => simp [isEs] at h2
      | [_], h2 => simp [isEs] at h2
      | _ :: _ :: _ :: _, h2 => simp [isEs] at h2
  | a :: b :: c :: r, X, E, sc, ok, bb, k, tg, x, h, h2 => by
    rcases itOk_inv h with e | ⟨r, p, xs, pos, rfl, hg, hn, ht, ea⟩
    · subst e
      simp [itArgs, isEs] at h2
    · rw [ea] at h2
      have hl := isEs_len h2
      cases k <;> simp [itN] at hn <;> simp at hl <;> omega
end
end Ev
/-! What a statement changes in the slots. -/
namespace Ev
open PySem PySem.Spec PyProof.Rows L2

/-- what may be held across statements stays -/
def Stp (O : Addr → Prop) (H : Hp) (O' : Addr → Prop) (H' : Hp) : Prop := ∀ a o, ¬ O a → H a = some o → H' a = some o ∧ ¬ O' a
section
variable {O O' O'' : Addr → Prop} {H H' H'' : Hp}
theorem Stp.refl : Stp O H O H := fun a o n e => ⟨e, n⟩
theorem Stp.trans (h : Stp O H O' H') (k : Stp O' H' O'' H'') : Stp O H O'' H'' := fun a o n e => let ⟨e1, n1⟩ := h a o n e; k a o n1 e1
theorem Stp.rp {hf : D → Int} (s : Stp O H O' H') {d : D} {v : V} (h : Rp hf H O d v) : Rp hf H' O' d v := h.move (fun a o n e => (s a o n e).1) fun a o n e => (s a o n e).2
theorem Stp.rs {hf : D → Int} (s : Stp O H O' H') {d : List D} {v : List V} (h : Rs hf H O d v) : Rs hf H' O' d v := Rs.move (fun a o n e => (s a o n e).1) (fun a o n e => (s a o n e).2) d v h
end
def SOk (c : RC) : Prop := ∀ a, c.O0 a → c.H0 a ≠ none
section
variable {E : EC} {c : RC} {ad : Nat → Addr} {env : Env} {ps ps' : PS} {σ : L2.St} {H H' : Hp}
theorem kb_stp (R : Rl E c ad env ps σ H) (k : KB c.pt H H') : Stp (OO c ad env) H (OO c ad env) H' := fun a o n e => ⟨k a o (fun p => n (R.pOO a p)) e, n⟩
theorem Stp.less {O O' : Addr → Prop} (h : ∀ a, O' a → O a) : Stp O H O' H := fun a o n e => ⟨e, fun q => n (h a q)⟩
/-- a list of one's own is handed on: it changes no more -/
theorem Rl.freeze1 (R : Rl E c ad env ps σ H) (so : SOk c) {i : Nat} {d : D} (hi : env[i]? = some (.ow d)) : Rl E c ad (env.set i (.va d)) ps σ H := by
  obtain ⟨e1, own, hn⟩ := R.ow i d hi
  have hl := (List.getElem?_eq_some_iff.mp hi).1
  have sub : ∀ a, OO c ad (env.set i (.va d)) a → OO c ad env a := fun a => oo_set a
  have ko : ∀ a o, ¬ OO c ad env a → H a = some o → ¬ OO c ad (env.set i (.va d)) a := fun a o n _ q => n (sub a q)
  refine ⟨by simpa using R.len, fun j e h => ?_, fun j e h => ?_, fun j k e f h1 h2 h3 => ?_, fun a o => R.dom a (sub a o), R.keep, R.pot, R.po, R.pv, R.hp⟩
  · by_cases hj : i = j
    · subst hj
      rw [List.getElem?_set_self hl] at h
      cases h
      refine ⟨_, e1, rb_at (fun a o _ e => e) ko (fun a o _ e => e) own.rb, fun a ea q => ?_⟩
      cases ea
      rcases q with q | ⟨j, f, h1, h2⟩
      · exact so _ q hn
      · by_cases hj : i = j
        · subst hj
          rw [List.getElem?_set_self hl] at h1
          cases h1
        · rw [List.getElem?_set_ne hj] at h1
          exact hj (R.inj i j d f hi h1 h2)
    · rw [List.getElem?_set_ne hj] at h
      obtain ⟨u, hu, ru⟩ := R.va j e h
      exact ⟨u, hu, ru.move (fun a o _ e => e) ko⟩
  · by_cases hj : i = j
    · subst hj
      rw [List.getElem?_set_self hl] at h
      cases h
    · rw [List.getElem?_set_ne hj] at h
      obtain ⟨a1, a2, a3⟩ := R.ow j e h
      exact ⟨a1, a2.move (fun o e => e) (fun a o _ e => e) ko, a3⟩
  · by_cases hj : i = j
    · subst hj
      rw [List.getElem?_set_self hl] at h1
      cases h1
    · by_cases hk : i = k
      · subst hk
        rw [List.getElem?_set_self hl] at h2
        cases h2
      · rw [List.getElem?_set_ne hj] at h1
        rw [List.getElem?_set_ne hk] at h2
        exact R.inj j k e f h1 h2 h3
theorem Rl.freeze (so : SOk c) : ∀ (fz : List Nat) {env : Env}, Rl E c ad env ps σ H → Rl E c ad (freeze fz env) ps σ H ∧ ∀ a, OO c ad (freeze fz env) a → OO c ad env a
  | [], env, R => ⟨R, fun a h => h⟩
  | i :: r, env, R => by
    have one : Rl E c ad (match env[i]? with | some s => env.set i s.fz | none => env) ps σ H ∧ ∀ a, OO c ad (match env[i]? with | some s => env.set i s.fz | none => env) a → OO c ad env a := by
      cases hq : env[i]? with
      | none => exact ⟨R, fun a h => h⟩
      | some s =>
        cases s with
        | ow d => exact ⟨R.freeze1 so hq, fun a => oo_set a⟩
        | va d =>
          have e : env.set i (Slot.va d) = env := by
            apply List.ext_getElem?
            intro j
            by_cases hj : i = j
            · subst hj
              rw [List.getElem?_set_self (List.getElem?_eq_some_iff.mp hq).1, hq]
            · rw [List.getElem?_set_ne hj]
          show Rl E c ad (env.set i (.va d)) ps σ H ∧ ∀ a, OO c ad (env.set i (.va d)) a → _
          rw [e]
          exact ⟨R, fun a h => h⟩
        | un =>
          have e : env.set i Slot.un = env := by
            apply List.ext_getElem?
            intro j
            by_cases hj : i = j
            · subst hj
              rw [List.getElem?_set_self (List.getElem?_eq_some_iff.mp hq).1, hq]
            · rw [List.getElem?_set_ne hj]
          show Rl E c ad (env.set i .un) ps σ H ∧ ∀ a, OO c ad (env.set i .un) a → _
          rw [e]
          exact ⟨R, fun a h => h⟩
    obtain ⟨R2, s2⟩ := Rl.freeze so r one.1
    exact ⟨R2, fun a h => one.2 a (s2 a h)⟩
def adS (ad : Nat → Addr) (i : Nat) (a : Addr) : Nat → Addr := fun j => if j = i then a else ad j
theorem oo_ow {i : Nat} {a : Addr} {d : D} : ∀ b, OO c (adS ad i a) (env.set i (.ow d)) b → OO c ad env b ∨ b = a := fun b h => by
  rcases h with h | ⟨j, e, h1, h2⟩
  · exact .inl (.inl h)
  · by_cases hj : i = j
    · subst hj
      refine .inr ?_
      rw [h2]
      unfold adS
      rw [if_pos rfl]
    · rw [List.getElem?_set_ne hj] at h1
      refine .inl (.inr ⟨j, e, h1, ?_⟩)
      rw [h2]
      unfold adS
      rw [if_neg fun q => hj q.symm]
/-- a new list or dict is one's own -/
theorem Rl.setOw (R : Rl E c ad env ps σ H) (k : KB c.pt H H') (p : PotIs c.pt H' ps') {i : Nat} {a : Addr} {d : D} (hi : i < env.length) (hp : i ≠ E.pi) (na : H a = none) (own : OwnAt E.hf H' (fun b => OO c ad env b ∨ b = a) a d) :
    Rl E c (adS ad i a) (env.set i (.ow d)) ps' (σ.set i (some (.ref a))) H' ∧ Stp (OO c ad env) H (OO c (adS ad i a) (env.set i (.ow d))) H' := by
  have hs : i < σ.length := Nat.lt_of_lt_of_le hi R.len
  have R' := R.step k p
  have st : Stp (OO c ad env) H (OO c (adS ad i a) (env.set i (.ow d))) H' := fun b o n e => ⟨k b o (fun p => n (R.pOO b p)) e, fun q => by
    rcases oo_ow b q with q | q
    · exact n q
    · subst q; rw [na] at e; cases e⟩
  obtain ⟨oa, ha'⟩ := own.there
  refine ⟨⟨by simpa using R.len, fun j e h => ?_, fun j e h => ?_, fun j l e f h1 h2 h3 => ?_, fun b o => ?_, R'.keep, p, R.po, fun P C e => ?_, R.hp⟩, st⟩
  · by_cases hj : i = j
    · subst hj
      rw [List.getElem?_set_self hi] at h
      cases h
    · rw [List.getElem?_set_ne hj] at h
      obtain ⟨u, hu, ru⟩ := R.va j e h
      exact ⟨u, by rw [List.getElem?_set_ne hj]; exact hu, st.rp ru⟩
  · by_cases hj : i = j
    · subst hj
      rw [List.getElem?_set_self hi] at h
      cases h
      have e0 : adS ad i a i = a := by unfold adS; rw [if_pos rfl]
      rw [e0]
      refine ⟨List.getElem?_set_self hs, own.move (fun o e => e) (fun b o _ e => e) (fun b o n _ q => n (oo_ow b q)), R.keep.none R.pot na⟩
    · rw [List.getElem?_set_ne hj] at h
      obtain ⟨a1, a2, a3⟩ := R.ow j e h
      have e0 : adS ad i a j = ad j := by unfold adS; rw [if_neg fun q => hj q.symm]
      rw [e0]
      exact ⟨by rw [List.getElem?_set_ne hj]; exact a1, a2.move (fun o e => k _ _ (R.notP h) e) (fun b o n e => (st b o n e).1) (fun b o n e => (st b o n e).2), a3⟩
  · have old : ∀ {m : Nat} {g : D}, env[m]? = some (.ow g) → ad m ≠ a := fun {m g} hm q => by
      obtain ⟨o, ho⟩ := (R.ow m g hm).2.1.there
      rw [q, na] at ho; cases ho
    have e0 : adS ad i a i = a := by unfold adS; rw [if_pos rfl]
    have e1 : ∀ m, i ≠ m → adS ad i a m = ad m := fun m hm => by unfold adS; rw [if_neg fun q => hm q.symm]
    by_cases hj : i = j
    · subst hj
      by_cases hl : i = l
      · exact hl
      · rw [List.getElem?_set_ne hl] at h2
        rw [e0, e1 l hl] at h3
        exact absurd h3.symm (old h2)
    · rw [List.getElem?_set_ne hj] at h1
      by_cases hl : i = l
      · subst hl
        rw [e0, e1 j hj] at h3
        exact absurd h3 (old h1)
      · rw [List.getElem?_set_ne hl] at h2
        rw [e1 j hj, e1 l hl] at h3
        exact R.inj j l e f h1 h2 h3
  · rcases oo_ow b o with q | q
    · exact R'.dom b q
    · subst q
      refine ⟨oa, ha', ?_⟩
      cases d with
      | list ds => obtain ⟨vs, h1, _⟩ := own; rw [h1] at ha'; cases ha'; rfl
      | dict kvs => obtain ⟨es, ep, qs, vs, h1, _⟩ := own; rw [h1] at ha'; cases ha'; rfl
      | _ => exact own.elim
  · rw [List.getElem?_set_ne hp]
    exact R.pv P C e
/-- one's own list or dict is changed -/
theorem Rl.write (R : Rl E c ad env ps σ H) {i : Nat} {d d' : D} {o : HO} (hi : env[i]? = some (.ow d)) (own : OwnAt E.hf (upd H (ad i) o) (OO c ad env) (ad i) d') :
    Rl E c ad (env.set i (.ow d')) ps σ (upd H (ad i) o) ∧ Stp (OO c ad env) H (OO c ad (env.set i (.ow d'))) (upd H (ad i) o) := by
  have hl := (List.getElem?_eq_some_iff.mp hi).1
  obtain ⟨e1, own0, hn⟩ := R.ow i d hi
  have eo : OO c ad (env.set i (.ow d')) = OO c ad env := by
    funext b
    refine propext ⟨fun h => ?_, fun h => ?_⟩
    · rcases h with h | ⟨j, e, h1, h2⟩
      · exact .inl h
      · by_cases hj : i = j
        · subst hj; exact .inr ⟨i, d, hi, h2⟩
        · rw [List.getElem?_set_ne hj] at h1
          exact .inr ⟨j, e, h1, h2⟩
    · rcases h with h | ⟨j, e, h1, h2⟩
      · exact .inl h
      · by_cases hj : i = j
        · subst hj; exact .inr ⟨i, d', List.getElem?_set_self hl, h2⟩
        · exact .inr ⟨j, e, by rw [List.getElem?_set_ne hj]; exact h1, h2⟩
  have ino : OO c ad env (ad i) := .inr ⟨i, d, hi, rfl⟩
  have kt : ∀ a u, ¬ OO c ad env a → H a = some u → upd H (ad i) o a = some u := fun a u n e => by
    rw [upd_ne fun q => n (by rw [q]; exact ino)]; exact e
  have dm : ∃ u, upd H (ad i) o (ad i) = some u ∧ tupO u = false := by
    cases d' with
    | list ds => obtain ⟨vs, h1, _⟩ := own; exact ⟨_, h1, rfl⟩
    | dict kvs => obtain ⟨es, ep, qs, vs, h1, _⟩ := own; exact ⟨_, h1, rfl⟩
    | _ => exact own.elim
  refine ⟨⟨by simpa using R.len, fun j e h => ?_, fun j e h => ?_, fun j l e f h1 h2 h3 => ?_, ?_, fun a u n e => ?_, ?_, R.po, R.pv, R.hp⟩, fun a u n e => ⟨kt a u n e, by rw [eo]; exact n⟩⟩
  · rw [eo]
    by_cases hj : i = j
    · subst hj
      rw [List.getElem?_set_self hl] at h
      cases h
    · rw [List.getElem?_set_ne hj] at h
      obtain ⟨u, hu, ru⟩ := R.va j e h
      exact ⟨u, hu, ru.move kt fun a o n _ => n⟩
  · rw [eo]
    by_cases hj : i = j
    · subst hj
      rw [List.getElem?_set_self hl] at h
      cases h
      exact ⟨e1, own, hn⟩
    · rw [List.getElem?_set_ne hj] at h
      obtain ⟨a1, a2, a3⟩ := R.ow j e h
      refine ⟨a1, a2.move (fun u e => ?_) kt (fun a o n _ => n), a3⟩
      rw [upd_ne fun q => hj (R.inj i j d _ hi h q.symm)]
      exact e
  · have get : ∀ {m : Nat} {g : D}, (env.set i (.ow d'))[m]? = some (.ow g) → ∃ g', env[m]? = some (.ow g') := fun {m g} h => by
      by_cases hm : i = m
      · subst hm; exact ⟨d, hi⟩
      · rw [List.getElem?_set_ne hm] at h; exact ⟨g, h⟩
    obtain ⟨e', h1⟩ := get h1
    obtain ⟨f', h2⟩ := get h2
    exact R.inj j l e' f' h1 h2 h3
  · rw [eo]
    intro a ho
    by_cases ha : a = ad i
    · subst ha; exact dm
    · obtain ⟨u, e, t⟩ := R.dom a ho
      exact ⟨u, by rw [upd_ne ha]; exact e, t⟩
  · rw [upd_ne fun q => by rw [q, hn] at e; cases e]
    exact R.keep a u n e
  · have p := R.pot
    have hnp := R.notP hi
    unfold PotIs at p ⊢
    split
    · rename_i P C hpt
      rw [hpt] at p hnp
      obtain ⟨n, p1, p2⟩ := p
      exact ⟨n, by rw [upd_ne fun q => hnp (.inl q.symm)]; exact p1, by rw [upd_ne fun q => hnp (.inr q.symm)]; exact p2⟩
    · trivial
end

/-- where a statement leads -/
def FlOk (E : EC) (c : RC) (O : Addr → Prop) (H : Hp) (D0 : Ends) (fl : Fl) (ps' : PS) : Prop := match fl with
  | .nx env' => ∀ ad' σ' H', Rl E c ad' env' ps' σ' H' → Stp O H (OO c ad' env') H' → D0.nx σ' H'
  | .br env' => ∀ ad' σ' H', Rl E c ad' env' ps' σ' H' → Stp O H (OO c ad' env') H' → D0.bk σ' H'
  | .ct env' => ∀ ad' σ' H', Rl E c ad' env' ps' σ' H' → Stp O H (OO c ad' env') H' → D0.ct σ' H'
  | .rt d => ∀ v H', KB c.pt c.H0 H' → PotIs c.pt H' ps' → Rp E.hf H' c.O0 d v → D0.rt v H'
def TSv (E : EC) (s : IS) : TS := fun D0 σ H => ∃ c ad env ps, SOk c ∧ Rl E c ad env ps σ H ∧ (ex E.F s env ps).Wp (fun fl ps' => FlOk E c (OO c ad env) H D0 fl ps') E.xq
def TSsv (E : EC) (ss : List IS) : TS := fun D0 σ H => ∃ c ad env ps, SOk c ∧ Rl E c ad env ps σ H ∧ (exs E.F ss env ps).Wp (fun fl ps' => FlOk E c (OO c ad env) H D0 fl ps') E.xq
theorem FlOk.from {E : EC} {c : RC} {O O1 : Addr → Prop} {H H1 : Hp} {D0 : Ends} {fl : Fl} {ps' : PS} (h : FlOk E c O H D0 fl ps') (s : Stp O H O1 H1) : FlOk E c O1 H1 D0 fl ps' := by
  cases fl with
  | nx env' => exact fun ad' σ' H' R s' => h ad' σ' H' R (s.trans s')
  | br env' => exact fun ad' σ' H' R s' => h ad' σ' H' R (s.trans s')
  | ct env' => exact fun ad' σ' H' R s' => h ad' σ' H' R (s.trans s')
  | rt d => exact h
end Ev
/-! Values that are one's own, ahead of their names; methods of lists. -/
namespace Ev
open PySem PySem.Spec PyProof.Rows L2

def RC.plus (c : RC) (a : Addr) : RC := ⟨fun b => c.O0 b ∨ b = a, c.H0, c.pt⟩
section
variable {E : EC} {c c' : RC} {ad : Nat → Addr} {env : Env} {ps ps' : PS} {σ : L2.St} {H H' : Hp}
theorem own_std {hf : D → Int} {O : Addr → Prop} {a : Addr} {d : D} (own : OwnAt hf H O a d) : ∃ u, H a = some u ∧ tupO u = false := by
  cases d with
  | list ds => obtain ⟨vs, h1, _⟩ := own; exact ⟨_, h1, rfl⟩
  | dict kvs => obtain ⟨es, ep, qs, vs, h1, _⟩ := own; exact ⟨_, h1, rfl⟩
  | _ => exact own.elim
theorem oo_plus {a b : Addr} : OO (c.plus a) ad env b ↔ OO c ad env b ∨ b = a := by
  constructor
  · rintro ((h | h) | h)
    · exact .inl (.inl h)
    · exact .inr h
    · exact .inl (.inr h)
  · rintro ((h | h) | h)
    · exact .inl (.inl h)
    · exact .inr h
    · exact .inl (.inr h)
/-- a new thing stands by itself -/
theorem Rl.pend (R : Rl E c ad env ps σ H) (k : KB c.pt H H') (p : PotIs c.pt H' ps') {a : Addr} {d : D} (na : H a = none) (own : OwnAt E.hf H' (fun b => OO c ad env b ∨ b = a) a d) :
    Rl E (c.plus a) ad env ps' σ H' ∧ Stp (OO c ad env) H (OO (c.plus a) ad env) H' := by
  have R' := R.step k p
  have st : Stp (OO c ad env) H (OO (c.plus a) ad env) H' := fun b o n e => ⟨k b o (fun p => n (R.pOO b p)) e, fun q => by
    rcases oo_plus.mp q with q | q
    · exact n q
    · subst q; rw [na] at e; cases e⟩
  refine ⟨⟨R.len, fun j e h => ?_, fun j e h => ?_, R.inj, fun b o => ?_, R'.keep, p, fun b q => ⟨.inl (R.po b q).1, (R.po b q).2⟩, R.pv, R.hp⟩, st⟩
  · obtain ⟨u, hu, ru⟩ := R.va j e h
    exact ⟨u, hu, st.rp ru⟩
  · obtain ⟨a1, a2, a3⟩ := R.ow j e h
    exact ⟨a1, a2.move (fun o e => k _ _ (R.notP h) e) (fun b o n e => (st b o n e).1) (fun b o n e => (st b o n e).2), a3⟩
  · rcases oo_plus.mp o with q | q
    · exact R'.dom b q
    · subst q; exact own_std own
/-- it is given a name -/
theorem Rl.take (R : Rl E c ad env ps σ H) (e0 : c'.H0 = c.H0) (ep : c'.pt = c.pt) {a : Addr} (h1 : ∀ b, c'.O0 b → c.O0 b) (h2 : ∀ b, c.O0 b → c'.O0 b ∨ b = a) (h3 : c.O0 a) {i : Nat} {d : D} (hi : i < env.length) (hp : i ≠ E.pi) (n0 : c.H0 a = none)
    (own : OwnAt E.hf H (OO c ad env) a d) (na : ∀ (j : Nat) (e : D), env[j]? = some (.ow e) → ad j ≠ a) :
    Rl E c' (adS ad i a) (env.set i (.ow d)) ps (σ.set i (some (.ref a))) H ∧ ∀ b, OO c' (adS ad i a) (env.set i (.ow d)) b → OO c ad env b := by
  have hs : i < σ.length := Nat.lt_of_lt_of_le hi R.len
  have sub : ∀ b, OO c' (adS ad i a) (env.set i (.ow d)) b → OO c ad env b := fun b h => by
    rcases oo_ow (c := c') b h with q | q
    · rcases q with q | q
      · exact .inl (h1 b q)
      · exact .inr q
    · subst q; exact .inl h3
  have ko : ∀ b o, ¬ OO c ad env b → H b = some o → ¬ OO c' (adS ad i a) (env.set i (.ow d)) b := fun b o n _ q => n (sub b q)
  have ei : adS ad i a i = a := by unfold adS; rw [if_pos rfl]
  have ej : ∀ j, i ≠ j → adS ad i a j = ad j := fun j hj => by unfold adS; rw [if_neg fun q => hj q.symm]
  refine ⟨⟨by simpa using R.len, fun j e h => ?_, fun j e h => ?_, fun j l e f k1 k2 k3 => ?_, fun b o => R.dom b (sub b o), by rw [e0, ep]; exact R.keep, by rw [ep]; exact R.pot, fun b q => ?_, fun P C e => ?_, fun e => by rw [ep]; exact R.hp e⟩, sub⟩
  · by_cases hj : i = j
    · subst hj
      rw [List.getElem?_set_self hi] at h
      cases h
    · rw [List.getElem?_set_ne hj] at h
      obtain ⟨u, hu, ru⟩ := R.va j e h
      exact ⟨u, by rw [List.getElem?_set_ne hj]; exact hu, ru.move (fun b o _ e => e) ko⟩
  · by_cases hj : i = j
    · subst hj
      rw [List.getElem?_set_self hi] at h
      cases h
      rw [ei]
      exact ⟨List.getElem?_set_self hs, own.move (fun o e => e) (fun b o _ e => e) ko, by rw [e0]; exact n0⟩
    · rw [List.getElem?_set_ne hj] at h
      obtain ⟨a1, a2, a3⟩ := R.ow j e h
      rw [ej j hj]
      exact ⟨by rw [List.getElem?_set_ne hj]; exact a1, a2.move (fun o e => e) (fun b o _ e => e) ko, by rw [e0]; exact a3⟩
  · by_cases hj : i = j
    · subst hj
      by_cases hl : i = l
      · exact hl
      · rw [List.getElem?_set_ne hl] at k2
        rw [ei, ej l hl] at k3
        exact absurd k3.symm (na l f k2)
    · rw [List.getElem?_set_ne hj] at k1
      by_cases hl : i = l
      · subst hl
        rw [ei, ej j hj] at k3
        exact absurd k3 (na j e k1)
      · rw [List.getElem?_set_ne hl] at k2
        rw [ej j hj, ej l hl] at k3
        exact R.inj j l e f k1 k2 k3
  · rw [ep] at q
    refine ⟨?_, by rw [e0]; exact (R.po b q).2⟩
    rcases h2 b (R.po b q).1 with z | z
    · exact z
    · subst z; exact absurd n0 (R.po b q).2
  · rw [List.getElem?_set_ne hp]
    exact R.pv P C (by rw [← ep]; exact e)
end

/-- values for names: those marked stand by themselves, at pd -/
def Pd (hf : D → Int) (H : Hp) (O : Addr → Prop) : List Bool → List D → List V → List Addr → Prop
  | [], [], [], pd => pd = []
  | f :: fs, d :: ds, v :: vs, pd => if (f && holdable d) = true then ∃ a r, pd = a :: r ∧ v = .ref a ∧ OwnAt hf H O a d ∧ a ∉ r ∧ Pd hf H O fs ds vs r else Rp hf H O d v ∧ Pd hf H O fs ds vs pd
  | _, _, _, _ => False
theorem Pd.stp {hf : D → Int} {H H' : Hp} {O O' : Addr → Prop} (s : Stp O H O' H') : ∀ {fs : List Bool} {ds : List D} {vs : List V} {pd : List Addr}, (∀ a ∈ pd, ∀ o, H a = some o → H' a = some o) → Pd hf H O fs ds vs pd → Pd hf H' O' fs ds vs pd
  | [], [], [], _, _, h => h
  | [], [], _ :: _, _, _, h => h
  | [], _ :: _, _, _, _, h => h
  | _ :: _, [], _, _, _, h => h
  | _ :: _, _ :: _, [], _, _, h => h
  | f :: fs, d :: ds, v :: vs, pd, ha, h => by
    simp only [Pd] at h ⊢
    split
    · rename_i hc
      rw [if_pos hc] at h
      obtain ⟨a, r, rfl, rfl, own, n, t⟩ := h
      exact ⟨a, r, rfl, rfl, own.move (fun o e => ha a List.mem_cons_self o e) (fun b o n e => (s b o n e).1) (fun b o n e => (s b o n e).2), n, Pd.stp s (fun b hb => ha b (List.mem_cons_of_mem _ hb)) t⟩
    · rename_i hc
      rw [if_neg hc] at h
      exact ⟨s.rp h.1, Pd.stp s ha h.2⟩
theorem Pd.there {hf : D → Int} {H : Hp} {O : Addr → Prop} : ∀ {fs : List Bool} {ds : List D} {vs : List V} {pd : List Addr}, Pd hf H O fs ds vs pd → ∀ a ∈ pd, ∃ u, H a = some u ∧ tupO u = false
  | [], [], [], _, h, a, ha => by
    simp only [Pd] at h
    subst h
    simp at ha
  | [], [], _ :: _, _, h, _, _ => h.elim
  | [], _ :: _, _, _, h, _, _ => h.elim
  | _ :: _, [], _, _, h, _, _ => h.elim
  | _ :: _, _ :: _, [], _, h, _, _ => h.elim
  | f :: fs, d :: ds, v :: vs, pd, h, a, ha => by
    simp only [Pd] at h
    split at h
    · obtain ⟨b, r, rfl, rfl, own, n, t⟩ := h
      rcases List.mem_cons.mp ha with e | ha
      · subst e; exact own_std own
      · exact Pd.there t a ha
    · exact Pd.there h.2 a ha
theorem Pd.len {hf : D → Int} {H : Hp} {O : Addr → Prop} : ∀ {fs : List Bool} {ds : List D} {vs : List V} {pd : List Addr}, Pd hf H O fs ds vs pd → vs.length = ds.length
  | [], [], [], _, h => rfl
  | [], [], _ :: _, _, h => h.elim
  | [], _ :: _, _, _, h => h.elim
  | _ :: _, [], _, _, h => h.elim
  | _ :: _, _ :: _, [], _, h => h.elim
  | f :: fs, d :: ds, v :: vs, pd, h => by
    simp only [Pd] at h
    split at h
    · obtain ⟨b, r, rfl, rfl, own, n, t⟩ := h
      simp [t.len]
    · simp [h.2.len]
/-- the pot and the entry of c, but what stands by itself ahead of it -/
structure Up (c c' : RC) (pd : List Addr) : Prop where
  h0 : c'.H0 = c.H0
  pt : c'.pt = c.pt
  up : ∀ b, c.O0 b → c'.O0 b
  dn : ∀ b, c'.O0 b → c.O0 b ∨ b ∈ pd
  pd : ∀ b ∈ pd, c'.O0 b
def TPv (E : EC) (fs : List Bool) (es : List IE) : TA := fun σ H Q => ∃ c ad env ps, Rl E c ad env ps σ H ∧ (evs E.F false es env ps).Wp (fun ds ps' => ∀ vs H' c' pd, Up c c' pd → Rl E c' ad env ps' σ H' → Stp (OO c ad env) H (OO c' ad env) H' → KB c.pt H H' → Pd E.hf H' (OO c' ad env) fs ds vs pd → (∀ a ∈ pd, H a = none) → Q vs H') E.xq
theorem tpv_nil {E : EC} {σ : L2.St} {H : Hp} {Q : List V → Hp → Prop} (h : TPv E [] [] σ H Q) : tNil σ H Q := by
  obtain ⟨c, ad, env, ps, R, w⟩ := h
  simp only [evs, ret] at w
  exact w [] H c [] ⟨rfl, rfl, fun _ h => h, fun _ h => .inl h, fun b h => by simp at h⟩ R Stp.refl (KB.refl _) rfl fun a h => by simp at h
theorem tpv_cons {E : EC} {f : Bool} {fs : List Bool} {e : IE} {es : List IE} {σ : L2.St} {H : Hp} {Q : List V → Hp → Prop} (hf : f = true → isFr e = true) (h : TPv E (f :: fs) (e :: es) σ H Q) : tCons (TEv E false e) (TPv E fs es) σ H Q := by
  obtain ⟨c, ad, env, ps, R, w⟩ := h
  simp only [evs] at w
  refine ⟨c, ad, env, ps, R, (Out.wp_bind.mp w).mono (fun d p1 _ w1 => fun v H1 k1 q1 r1 f1 => ?_) fun _ _ _ _ h => h⟩
  by_cases hc : (f && holdable d) = true
  · have hc' := hc
    simp only [Bool.and_eq_true] at hc
    obtain ⟨a, rfl, na, own⟩ := f1 (hf hc.1) hc.2
    obtain ⟨R1, s1⟩ := R.pend k1 q1 na own
    refine ⟨c.plus a, ad, env, p1, R1, (Out.wp_bind.mp w1).mono (fun ds p2 _ w2 => fun vs H2 c' pd up R2 s2 k2 pq nd => ?_) fun _ _ _ _ h => h⟩
    have w3 : ∀ vs H' c' pd, Up c c' pd → Rl E c' ad env p2 σ H' → Stp (OO c ad env) H (OO c' ad env) H' → KB c.pt H H' → Pd E.hf H' (OO c' ad env) (f :: fs) (d :: ds) vs pd → (∀ a ∈ pd, H a = none) → Q vs H' := w2
    have own1 : OwnAt E.hf H1 (OO (c.plus a) ad env) a d := own.move (fun o e => e) (fun b o _ e => e) fun b o n _ q => n (oo_plus.mp q)
    obtain ⟨oa, ha1, _⟩ := own_std own
    have hnp : ¬ isP (c.plus a).pt a := fun q => by
      have := (R.po a q).2
      exact this (R.keep.none R.pot na)
    have ap : a ∉ pd := fun q => by rw [nd a q] at ha1; cases ha1
    refine w3 _ H2 c' (a :: pd) ⟨up.h0, up.pt, fun b hb => up.up b (.inl hb), fun b hb => ?_, fun b hb => ?_⟩ R2 (s1.trans s2) (k1.trans k2) ?_ fun b hb => ?_
    · rcases up.dn b hb with (q | q) | q
      · exact .inl q
      · subst q; exact .inr List.mem_cons_self
      · exact .inr (List.mem_cons_of_mem _ q)
    · rcases List.mem_cons.mp hb with q | q
      · subst q; exact up.up _ (.inr rfl)
      · exact up.pd b q
    · simp only [Pd]
      rw [if_pos hc']
      exact ⟨a, pd, rfl, rfl, own1.move (fun o e => k2 a o hnp e) (fun b o n e => (s2 b o n e).1) (fun b o n e => (s2 b o n e).2), ap, pq⟩
    · rcases List.mem_cons.mp hb with q | q
      · subst q; exact na
      · exact k1.none q1 (nd b q)
  · refine ⟨c, ad, env, p1, R.step k1 q1, (Out.wp_bind.mp w1).mono (fun ds p2 _ w2 => fun vs H2 c' pd up R2 s2 k2 pq nd => ?_) fun _ _ _ _ h => h⟩
    have w3 : ∀ vs H' c' pd, Up c c' pd → Rl E c' ad env p2 σ H' → Stp (OO c ad env) H (OO c' ad env) H' → KB c.pt H H' → Pd E.hf H' (OO c' ad env) (f :: fs) (d :: ds) vs pd → (∀ a ∈ pd, H a = none) → Q vs H' := w2
    refine w3 _ H2 c' pd up R2 ((kb_stp R k1).trans s2) (k1.trans k2) ?_ fun b hb => k1.none q1 (nd b hb)
    simp only [Pd]
    rw [if_neg hc]
    exact ⟨s2.rp r1, pq⟩

/-- names one by one -/
def setsS : List Nat → List V → L2.St → L2.St
  | i :: is, v :: vs, σ => setsS is vs (σ.set i (some v))
  | _, _, σ => σ
theorem names_all {E : EC} : ∀ {is : List Nat} {fs : List Bool} {ds : List D} {vs : List V} {pd : List Addr} {c c' : RC} {ad : Nat → Addr} {env env' : Env} {ps : PS} {σ : L2.St} {H : Hp}, (∀ i ∈ is, i ≠ E.pi) → Up c c' pd → Rl E c' ad env ps σ H → Pd E.hf H (OO c' ad env) fs ds vs pd → (∀ a ∈ pd, c.H0 a = none ∧ ∀ (j : Nat) (e : D), env[j]? = some (.ow e) → ad j ≠ a) →
    parF ((is.map Tg.nm).zip fs) ds env = some env' → is.length = fs.length → (∀ a ∈ pd, ¬ c.O0 a) → ∃ ad', Rl E c ad' env' ps (setsS is vs σ) H ∧ ∀ b, OO c ad' env' b → OO c' ad env b
  | [], [], ds, vs, pd, c, c', ad, env, env', ps, σ, H, _, up, R, p, _, hp, _, _ => by
    cases ds with
    | cons _ _ => simp [parF] at hp
    | nil =>
      cases vs with
      | cons _ _ => exact p.elim
      | nil =>
        simp only [Pd] at p
        subst p
        simp only [parF, List.map_nil, List.zip_nil_left, Option.some.injEq] at hp
        subst hp
        have e : c = c' := by
          obtain ⟨O, h, q⟩ := c
          obtain ⟨O', h', q'⟩ := c'
          have e1 := up.h0
          have e2 := up.pt
          simp only at e1 e2
          subst e1 e2
          have : O = O' := funext fun b => propext ⟨up.up b, fun h => (up.dn b h).elim (fun h => h) fun h => by simp at h⟩
          rw [this]
        subst e
        exact ⟨ad, R, fun b h => h⟩
  | i :: is, f :: fs, ds, vs, pd, c, c', ad, env, env', ps, σ, H, hpi, up, R, p, hn, hp, hl, no => by
    cases ds with
    | nil => simp [parF] at hp
    | cons d ds =>
      cases vs with
      | nil => exact p.elim
      | cons v vs =>
        simp only [List.map_cons, List.zip_cons_cons, parF, Option.bind_eq_some_iff] at hp
        obtain ⟨env1, e1, e2⟩ := hp
        simp only [Pd] at p
        have hip := hpi i List.mem_cons_self
        split at p
        · rename_i hc
          obtain ⟨a, r, rfl, rfl, own, nr, t⟩ := p
          simp only [Bool.and_eq_true] at hc
          obtain ⟨hf, hh⟩ := hc
          subst hf
          simp only [asgF] at e1
          split at e1
          · rename_i hi
            simp only [Bool.and_eq_true, decide_eq_true_eq] at hi
            cases e1
            have ha := hn a List.mem_cons_self
            let c2 : RC := ⟨fun b => c'.O0 b ∧ b ≠ a, c'.H0, c'.pt⟩
            obtain ⟨R2, s2⟩ := R.take (c' := c2) rfl rfl (fun b h => h.1) (fun b h => by
              by_cases q : b = a
              · exact .inr q
              · exact .inl ⟨h, q⟩) (up.pd a List.mem_cons_self) hi.1 hip (by rw [up.h0]; exact ha.1) own ha.2
            have up2 : Up c c2 r := ⟨up.h0, up.pt, fun b hb => ⟨up.up b hb, fun q => no a List.mem_cons_self (q ▸ hb)⟩, fun b hb => by
              rcases up.dn b hb.1 with q | q
              · exact .inl q
              · rcases List.mem_cons.mp q with q | q
                · exact absurd q hb.2
                · exact .inr q, fun b hb => ⟨up.pd b (List.mem_cons_of_mem _ hb), fun q => nr (q ▸ hb)⟩⟩
            have t2 := Pd.stp (Stp.less s2) (fun a _ o e => e) t
            have hn2 : ∀ b ∈ r, c.H0 b = none ∧ ∀ (j : Nat) (e : D), (env.set i (Slot.ow d))[j]? = some (.ow e) → adS ad i a j ≠ b := fun b hb => by
              refine ⟨(hn b (List.mem_cons_of_mem _ hb)).1, fun j e he => ?_⟩
              by_cases hj : i = j
              · subst hj
                have : adS ad i a i = a := by unfold adS; rw [if_pos rfl]
                rw [this]
                exact fun q => nr (q ▸ hb)
              · rw [List.getElem?_set_ne hj] at he
                have : adS ad i a j = ad j := by unfold adS; rw [if_neg fun q => hj q.symm]
                rw [this]
                exact (hn b (List.mem_cons_of_mem _ hb)).2 j e he
            obtain ⟨ad', R3, s3⟩ := names_all (fun j hj => hpi j (List.mem_cons_of_mem _ hj)) up2 R2 t2 hn2 e2 (by simpa using hl) fun b hb => no b (List.mem_cons_of_mem _ hb)
            exact ⟨ad', R3, fun b h => s2 b (s3 b h)⟩
          · cases e1
        · rename_i hc
          obtain ⟨rv, t⟩ := p
          have e1' : asgT (.nm i) d env = some env1 := by
            cases f with
            | false => exact e1
            | true =>
              simp only [Bool.true_and] at hc
              simp only [asgF] at e1
              split at e1
              · rename_i hi
                simp only [Bool.and_eq_true] at hi
                exact absurd hi.2 hc
              · cases e1
          simp only [asgT] at e1'
          split at e1'
          · rename_i hi
            cases e1'
            have R2 := R.setVa hi hip rv
            have s2 : ∀ b, OO c' ad (env.set i (.va d)) b → OO c' ad env b := fun b => oo_set b
            have t2 := Pd.stp (Stp.less s2) (fun a _ o e => e) t
            have hn2 : ∀ b ∈ pd, c.H0 b = none ∧ ∀ (j : Nat) (e : D), (env.set i (Slot.va d))[j]? = some (.ow e) → ad j ≠ b := fun b hb => by
              refine ⟨(hn b hb).1, fun j e he => ?_⟩
              by_cases hj : i = j
              · subst hj
                rw [List.getElem?_set_self hi] at he
                cases he
              · rw [List.getElem?_set_ne hj] at he
                exact (hn b hb).2 j e he
            obtain ⟨ad', R3, s3⟩ := names_all (fun j hj => hpi j (List.mem_cons_of_mem _ hj)) up R2 t2 hn2 e2 (by simpa using hl) no
            exact ⟨ad', R3, fun b h => s2 b (s3 b h)⟩
          · cases e1'
  | [], _ :: _, ds, vs, pd, c, c', ad, env, env', ps, σ, H, _, _, _, _, _, _, hl, _ => by simp at hl
  | _ :: _, [], ds, vs, pd, c, c', ad, env, env', ps, σ, H, _, _, _, _, _, _, hl, _ => by simp at hl
end Ev
/-! Methods of one's own lists; a place of one's own list set. -/
namespace Ev
open PySem PySem.Spec PyProof.Rows L2

def muId : Mu → String
  | .append => "list.append"
  | .extend => "list.extend"
  | .remove => "list.remove"
  | .pop => "list.pop"
def muStr : Mu → Str
  | .append => "append"
  | .extend => "extend"
  | .remove => "remove"
  | .pop => "pop"
/-- what a method of a list does with it -/
def rMu (hf : D → Int) (m : Mu) : V → List V → Hp → VK → Prop := fun x vs H Q => ∃ (a : Addr) (O : Addr → Prop) (ds es d' : List D) (r : D) (us : List V), x = .ref a ∧ H a = some (.lst us) ∧ Rs hf H O ds us ∧ Rs hf H O es vs ∧ muD m (.list ds) es = some (.list d', r) ∧
  ∀ us' v, Rs hf H O d' us' → Rp hf H O r v → Q v (upd H a (.lst us'))
theorem eraseP_at {α : Type} (p : α → Bool) : ∀ (xs : List α), xs.any p = true → ∃ j, ∃ h : j < xs.length, p xs[j] = true ∧ (∀ m (hm : m < xs.length), m < j → p xs[m] = false) ∧ xs.eraseP p = xs.eraseIdx j
  | [], h => by simp at h
  | x :: xs, h => by
    cases hx : p x with
    | true =>
      refine ⟨0, by simp, hx, fun m hm h0 => absurd h0 (Nat.not_lt_zero _), ?_⟩
      rw [List.eraseP_cons_of_pos hx]
      rfl
    | false =>
      have h' : xs.any p = true := by simpa [hx] using h
      obtain ⟨j, hj, h1, h2, h3⟩ := eraseP_at p xs h'
      refine ⟨j + 1, by simp [hj], h1, fun m hm hlt => ?_, ?_⟩
      · cases m with
        | zero => exact hx
        | succ m => exact h2 m (by simpa using hm) (by omega)
      · rw [List.eraseP_cons_of_neg (by simp [hx]), h3]
        rfl
section
variable {X : Cx} {hf : D → Int}
theorem mu_remove (hu : X.A.units + 70 < cLine) : MtR X "list.remove" (rMu hf .remove) := by
  intro pins s σ H x vs v us Q I rx rv h
  obtain ⟨a, O, ds, es, d', r, xs, rfl, hH, hs, he, hm, q⟩ := h
  cases rx
  match es, hm with
  | [y], hm =>
    simp only [muD] at hm
    split at hm
    · rename_i hc
      simp only [Bool.and_eq_true] at hc
      obtain ⟨⟨sy, sx⟩, hany⟩ := hc
      simp only [Option.some.injEq, Prod.mk.injEq, PyData.list.injEq] at hm
      obtain ⟨e1, e2⟩ := hm
      subst e1 e2
      obtain ⟨yv, r', ev, hy, hn⟩ := he.inv
      subst ev
      simp only [Rs] at hn
      subst hn
      obtain ⟨u, rfl, ru⟩ := rv.one
      obtain ⟨z, its, n, rr, hl, e⟩ := I.lstM hH
      have cy := SeqAt.canLay_of_shaped sy
      have cx := SeqAt.canLay_of_shaped sx
      simp only [PyData.canLay0] at cx
      obtain ⟨as, rd, _⟩ := Rs.reads I ds xs its hs rr
      obtain ⟨bs, ry, _⟩ := Rb.reads I y yv u hy.1 ru
      have hmap := SeqAt.readsAll_map ds its as cx rd
      obtain ⟨j, hj, h1, h2, h3⟩ := eraseP_at (fun z => PyData.eqv z y) ds hany
      have hjl : j < its.length := by rw [← hl, hs.length]; exact hj
      have at_ : ∀ (m : Nat) (h : m < its.length) (h' : m < ds.length), SeqAt.readOf s.heap its[m] = ds[m] := fun m h h' => by
        have := congrArg (fun l => l[m]?) hmap
        simp only [List.getElem?_map] at this
        rw [List.getElem?_eq_getElem h, List.getElem?_eq_getElem h'] at this
        exact Option.some.inj this
      have hz : its.toArray.size ≤ sizeLine := by rw [List.size_toArray]; omega
      refine call_meets PySem.F.slot_list_remove ⟨_, e, rfl⟩ PySem.F.entry_list_remove (PySem.F.args_list_remove_2 _ _)
        (SeqAt.list_removeAt a its.toArray n none #[] u (fun w => PyData.eqv (SeqAt.readOf s.heap w) y) j (by rw [List.size_toArray]; exact hjl) ?_ ?_ hz) ⟨e, ?_, ?_⟩
      · show PyData.eqv (SeqAt.readOf s.heap its.toArray[j]) y = true
        have : its.toArray[j]'(by rw [List.size_toArray]; exact hjl) = its[j] := by simp
        rw [this, at_ j hjl hj]
        exact h1
      · intro m hm hlt
        have hm' : m < its.length := by rw [List.size_toArray] at hm; exact hm
        have hmd : m < ds.length := by omega
        show PyData.eqv (SeqAt.readOf s.heap its.toArray[m]) y = false
        have : its.toArray[m] = its[m] := by simp
        rw [this, at_ m hm' hmd]
        exact h2 m hmd hlt
      · have dd := SeqAt.depth_of_shaped sy
        refine SeqAt.items_eqAt (vs := its.toArray) (show ReadsAll s.heap its.toArray.toList ds as from rd) ry cx cy ?_
        have := Nat.min_le_right (PyData.depthAll ds) y.depth
        show X.A.units + 1 + _ < _
        omega
      · refine ⟨.non, upd H a (.lst (xs.eraseIdx j)), I.lset (its' := its.eraseIdx j) hH e ?_ (rr.eraseIdx j) ?_, rfl, q _ _ ?_ .non⟩
        · simp [Array.eraseIdxIfInBounds, hjl]
        · have := List.length_eraseIdx_le xs j
          omega
        · rw [h3]
          exact hs.eraseIdx j
    · cases hm
theorem mu_ok (hu : X.A.units + 70 < cLine) : ∀ m : Mu, MtR X (muId m) (rMu hf m)
  | .append => by
    intro pins s σ H x vs v us Q I rx rv h
    obtain ⟨a, O, ds, es, d', r, xs, rfl, hH, hs, he, hm, q⟩ := h
    match es, hm with
    | [y], hm =>
      simp only [muD] at hm
      split at hm
      · rename_i hz
        simp only [Option.some.injEq, Prod.mk.injEq, PyData.list.injEq] at hm
        obtain ⟨e1, e2⟩ := hm
        subst e1 e2
        obtain ⟨yv, r', ev, hy, hn⟩ := he.inv
        subst ev
        simp only [Rs] at hn
        subst hn
        exact mt_append pins s σ H _ _ v us Q I rx rv ⟨a, xs, yv, rfl, rfl, hH, by rw [hs.length, szL]; exact hz, q _ _ (hs.append (.cons hy .nil)) .non⟩
      · cases hm
  | .extend => by
    intro pins s σ H x vs v us Q I rx rv h
    obtain ⟨a, O, ds, es, d', r, xs, rfl, hH, hs, he, hm, q⟩ := h
    match es, hm with
    | [.list ys], hm =>
      simp only [muD] at hm
      split at hm
      · rename_i hz
        simp only [Option.some.injEq, Prod.mk.injEq, PyData.list.injEq] at hm
        obtain ⟨e1, e2⟩ := hm
        subst e1 e2
        obtain ⟨yv, r', ev, hy, hn⟩ := he.inv
        subst ev
        simp only [Rs] at hn
        subst hn
        obtain ⟨b, zs, rfl, hB, hzs⟩ := rb_lst hy.1
        exact mt_extend pins s σ H _ _ v us Q I rx rv ⟨a, b, xs, zs, rfl, rfl, hH, hB, by rw [hs.length, hzs.length, szL]; exact hz, q _ _ (hs.append hzs) .non⟩
      · cases hm
  | .remove => mu_remove hu
  | .pop => by
    intro pins s σ H x vs v us Q I rx rv h
    obtain ⟨a, O, ds, es, d', r, xs, rfl, hH, hs, he, hm, q⟩ := h
    match es, hm with
    | [], hm =>
      simp only [muD, Option.map_eq_some_iff] at hm
      obtain ⟨y, e1, e2⟩ := hm
      simp only [Prod.mk.injEq, PyData.list.injEq] at e2
      obtain ⟨e2, e3⟩ := e2
      subst e2 e3
      simp only [Rs] at he
      subst he
      rw [List.getLast?_eq_getElem?] at e1
      obtain ⟨w, hw, rw'⟩ := hs.get e1
      exact mt_pop pins s σ H _ _ v us Q I rx rv ⟨a, xs, w, rfl, rfl, hH, by rw [hs.length]; exact hw, q _ _ hs.dropLast rw'⟩
    | [.int i], hm =>
      simp only [muD] at hm
      split at hm
      · rename_i hi
        simp only [Option.bind_eq_some_iff, Option.map_eq_some_iff] at hm
        obtain ⟨k, hk, y, e1, e2⟩ := hm
        simp only [Prod.mk.injEq, PyData.list.injEq] at e2
        obtain ⟨e2, e3⟩ := e2
        subst e2 e3
        obtain ⟨yv, r', ev, hy, hn⟩ := he.inv
        subst ev
        simp only [Rs] at hn
        subst hn
        obtain ⟨w, hw, rw'⟩ := hs.get e1
        obtain ⟨b1, b2⟩ := in62_ok hi
        have hk' : L2.ixN xs.length i = some k := by rw [hs.length]; exact hk
        obtain ⟨s1, _⟩ := ixN_seq hk'
        exact mt_popAt pins s σ H _ _ v us Q I rx rv ⟨a, xs, i, k, w, rfl, by rw [rb_int hy.1], hH, by omega, by omega, s1, hw, q _ _ (hs.eraseIdx k) rw'⟩
      · cases hm
/-- one's own list or dict, a place set -/
def rSetO (hf : D → Int) : TSet := fun o i v H Q => ∃ (a : Addr) (O : Addr → Prop) (d k y d' : D), o = .ref a ∧ O a ∧ OwnAt hf H O a d ∧ Rp hf H O k i ∧ Rp hf H O y v ∧ setD d k y = some d' ∧ ∀ o', OwnAt hf (upd H a o') O a d' → Q (upd H a o')
/-- the same for dicts alone: what the keys' hashes must give -/
def DictSet (X : Cx) (hf : D → Int) : Prop := PSet X (fun o i v H Q => ∃ (a : Addr) (O : Addr → Prop) (kvs : List (D × D)) (k y d' : D), o = .ref a ∧ O a ∧ OwnAt hf H O a (.dict kvs) ∧ Rp hf H O k i ∧ Rp hf H O y v ∧ setD (.dict kvs) k y = some d' ∧ ∀ o', OwnAt hf (upd H a o') O a d' → Q (upd H a o'))
theorem set_own (hd : DictSet X hf) : PSet X (rSetO hf) := by
  intro pins s σ H o i v ov iv u Q I ro ri rv h
  obtain ⟨a, O, d, k, y, d', rfl, ho, own, hk, hy, e, q⟩ := h
  cases d with
  | list xs =>
    cases k with
    | int n =>
      simp only [setD, Option.map_eq_some_iff] at e
      obtain ⟨j, hj, rfl⟩ := e
      obtain ⟨vs, hH, hs⟩ := own
      have hi := rb_int hk.1
      subst hi
      refine set_list pins s σ H _ _ v ov iv u Q I ro ri rv ⟨a, vs, n, j, rfl, rfl, hH, by rw [hs.length]; exact hj, q _ ⟨_, upd_same, ?_⟩⟩
      refine Rs.move (fun b o n e => ?_) (fun b o n _ => n) _ _ (hs.set j hy)
      rw [upd_ne fun z => n (by rw [z]; exact ho)]
      exact e
    | _ => simp [setD] at e
  | dict kvs => exact hd pins s σ H _ i v ov iv u Q I ro ri rv ⟨a, O, kvs, k, y, d', rfl, ho, own, hk, hy, e, q⟩
  | _ => exact own.elim
end
end Ev
/-! Dicts whose keys are tuples of any depth: a place set. -/
namespace Ev
open PySem PySem.Spec PyProof.Rows L2
mutual
def keyN : D → NestedKey
  | .int i => .num i
  | .str s => .text s
  | .tuple xs => .tup (keyNs xs)
  | _ => .none
def keyNs : List D → List NestedKey
  | [] => []
  | x :: xs => keyN x :: keyNs xs
end
mutual
theorem keyN_eqv : ∀ a b : D, keyOk a = true → keyOk b = true → PyData.eqv a b = NestedKey.beq (keyN a) (keyN b)
  | .int i, .int j, _, _ => by
    simp only [PyData.eqv, keyN, NestedKey.beq]
    by_cases h : i = j <;> simp [h]
  | .str i, .str j, _, _ => by
    simp only [PyData.eqv, keyN, NestedKey.beq]
    by_cases h : i = j <;> simp [h]
  | .tuple xs, .tuple ys, h1, h2 => by
    simp only [keyOk] at h1 h2
    simp only [PyData.eqv, keyN, NestedKey.beq]
    exact keyNs_eqv xs ys h1 h2
  | .int _, .str _, _, _ => rfl
  | .int _, .tuple _, _, _ => rfl
  | .str _, .int _, _, _ => rfl
  | .str _, .tuple _, _, _ => rfl
  | .tuple _, .int _, _, _ => rfl
  | .tuple _, .str _, _, _ => rfl
  | .none, _, h, _ => by simp [keyOk] at h
  | .bool _, _, h, _ => by simp [keyOk] at h
  | .list _, _, h, _ => by simp [keyOk] at h
  | .dict _, _, h, _ => by simp [keyOk] at h
  | .int _, .none, _, h => by simp [keyOk] at h
  | .int _, .bool _, _, h => by simp [keyOk] at h
  | .int _, .list _, _, h => by simp [keyOk] at h
  | .int _, .dict _, _, h => by simp [keyOk] at h
  | .str _, .none, _, h => by simp [keyOk] at h
  | .str _, .bool _, _, h => by simp [keyOk] at h
  | .str _, .list _, _, h => by simp [keyOk] at h
  | .str _, .dict _, _, h => by simp [keyOk] at h
  | .tuple _, .none, _, h => by simp [keyOk] at h
  | .tuple _, .bool _, _, h => by simp [keyOk] at h
  | .tuple _, .list _, _, h => by simp [keyOk] at h
  | .tuple _, .dict _, _, h => by simp [keyOk] at h
theorem keyNs_eqv : ∀ a b : List D, keyOks a = true → keyOks b = true → PyData.eqvAll a b = NestedKey.beqAll (keyNs a) (keyNs b)
  | [], [], _, _ => rfl
  | [], _ :: _, _, _ => rfl
  | _ :: _, [], _, _ => rfl
  | x :: xs, y :: ys, h1, h2 => by
    simp only [keyOks, Bool.and_eq_true] at h1 h2
    simp only [PyData.eqvAll, keyNs, NestedKey.beqAll]
    rw [keyN_eqv x y h1.1 h2.1, keyNs_eqv xs ys h1.2 h2.2]
end
theorem keyN_iff {a b : D} (h1 : keyOk a = true) (h2 : keyOk b = true) : PyData.eqv a b = true ↔ keyN a = keyN b := by
  rw [keyN_eqv a b h1 h2, ← NestedKey.decide_eq, decide_eq_true_eq]
mutual
theorem keyN_depth : ∀ d : D, (keyN d).depth ≤ d.depth
  | .int _ => Nat.zero_le _
  | .str _ => Nat.zero_le _
  | .none => Nat.zero_le _
  | .bool _ => Nat.zero_le _
  | .list _ => Nat.zero_le _
  | .dict _ => Nat.zero_le _
  | .tuple xs => by
    simp only [keyN, NestedKey.depth, PyData.depth]
    have := keyNs_depth xs
    omega
theorem keyNs_depth : ∀ d : List D, NestedKey.depthAll (keyNs d) ≤ PyData.depthAll d
  | [] => Nat.le_refl _
  | x :: xs => by
    simp only [keyNs, NestedKey.depthAll, PyData.depthAll]
    have := keyN_depth x
    have := keyNs_depth xs
    omega
end
def hfW (w : World) : D → Int := fun d => (keyN d).hash w
section
variable {X : Cx} {pins : List (Addr × Obj)} {σ : L2.St} {H : Hp} {s : Shared} {O : Addr → Prop} {hf : D → Int}
mutual
theorem keyN_is (I : L2.Inv X pins σ H s) : ∀ (d : D) (v : V) (u : Value), keyOk d = true → Rb hf H O d v → RelV v u → NestedIs s.heap (keyN d) u
  | .int i, v, u, _, h, r => by
    have e := rb_int h
    subst e
    obtain ⟨t, rfl⟩ := r
    exact .int i t
  | .str i, v, u, _, h, r => by
    have e := rb_str h
    subst e
    obtain ⟨t, rfl⟩ := r
    exact .text i t
  | .tuple xs, v, u, hk, h, r => by
    simp only [keyOk] at hk
    obtain ⟨a, vs, rfl, hH, hs⟩ := rb_seq h
    cases r
    obtain ⟨its, rv, ⟨o, ho, hc, n, hd⟩, _⟩ := I.tuple (SqT.of hH)
    exact .tup ho hc hd (keyNs_is I xs vs its hk hs rv)
  | .none, v, u, hk, h, r => by simp [keyOk] at hk
  | .bool _, v, u, hk, h, r => by simp [keyOk] at hk
  | .list _, v, u, hk, h, r => by simp [keyOk] at hk
  | .dict _, v, u, hk, h, r => by simp [keyOk] at hk
theorem keyNs_is (I : L2.Inv X pins σ H s) : ∀ (ds : List D) (vs : List V) (us : List Value), keyOks ds = true → Rs hf H O ds vs → Vals vs us → NestedAll s.heap (keyNs ds) us
  | [], vs, us, _, h, r => by
    simp only [Rs] at h
    subst h
    cases r
    exact .nil
  | d :: ds, vs, us, hk, h, r => by
    simp only [keyOks, Bool.and_eq_true] at hk
    obtain ⟨v, vr, rfl, h1, h2⟩ := h.inv
    cases r with
    | cons r1 r2 => exact .cons (keyN_is I d v _ hk.1 h1.1 r1) (keyNs_is I ds vr _ hk.2 h2 r2)
end
end
def adr : Value → Addr
  | .ref a => a
  | _ => 0
/-- the entries as the kit tells them -/
def mkX : List DictEntry → List D → List (NestedKey × Addr × Value)
  | e :: es, k :: ks => (keyN k, adr e.key, e.val) :: mkX es ks
  | _, _ => []
def putX (k : NestedKey) (b : Addr) (u : Value) : List (NestedKey × Addr × Value) → List (NestedKey × Addr × Value)
  | [] => [(k, b, u)]
  | x :: r => if x.1 = k then (x.1, x.2.1, u) :: r else x :: putX k b u r
theorem stored_putX {k : NestedKey} {b : Addr} {u : Value} : ∀ {xs : List (NestedKey × Addr × Value)}, (xs.map (·.1)).Nodup → storedH xs k b u = putX k b u xs
  | [], _ => by simp [storedH, atKey, putX]
  | x :: xs, h => by
    rw [List.map_cons, List.nodup_cons] at h
    by_cases hx : x.1 = k
    · have h1 : atKey (x :: xs) k = some x.2 := by simp [atKey, hx]
      rw [storedH_old h1, List.map_cons, map_putAt_of_not_mem xs k u (hx ▸ h.1)]
      simp [putAt, putX, hx]
    · have ih := stored_putX (k := k) (b := b) (u := u) h.2
      have h1 : atKey (x :: xs) k = atKey xs k := by simp [atKey, hx]
      cases hq : atKey xs k with
      | none =>
        rw [storedH_new (h1.trans hq)]
        rw [storedH_new hq] at ih
        simp only [putX, hx, if_false, List.cons_append]
        rw [ih]
      | some p =>
        rw [storedH_old (h1.trans hq)]
        rw [storedH_old hq] at ih
        simp only [putX, hx, if_false, List.map_cons]
        rw [ih]
        simp [putAt, hx]
section
variable {prog : Program} {w : World}
theorem mk_keys {hf : D → Int} : ∀ {es : List DictEntry} {ks : List D} {qs vs : List V}, Ents hf es ks qs vs → (mkX es ks).map (·.1) = ks.map keyN
  | [], [], _, _, _ => rfl
  | [], _ :: _, _, _, h => by simp [Ents] at h
  | _ :: _, [], _, _, h => by simp [Ents] at h
  | e :: es, k :: ks, [], _, h => by simp [Ents] at h
  | e :: es, k :: ks, _ :: _, [], h => by simp [Ents] at h
  | e :: es, k :: ks, q :: qs, v :: vs, h => by
    simp only [Ents] at h
    simp only [mkX, List.map_cons]
    rw [mk_keys h.2.2.2]
theorem mk_ents : ∀ {es : List DictEntry} {ks : List D} {qs vs : List V}, Ents (hfW w) es ks qs vs → es = (mkX es ks).map (entryOfKey (nestedKind prog w))
  | [], [], _, _, _ => rfl
  | [], _ :: _, _, _, h => by simp [Ents] at h
  | _ :: _, [], _, _, h => by simp [Ents] at h
  | e :: es, k :: ks, [], _, h => by simp [Ents] at h
  | e :: es, k :: ks, _ :: _, [], h => by simp [Ents] at h
  | e :: es, k :: ks, q :: qs, v :: vs, h => by
    simp only [Ents] at h
    obtain ⟨⟨a, h1, h2⟩, h3, h4, h5⟩ := h
    simp only [mkX, List.map_cons]
    rw [← mk_ents h5]
    obtain ⟨hh, kk, vv⟩ := e
    simp only at h1 h3
    subst h1
    simp only [entryOfKey, adr]
    rw [h3]
    rfl
theorem distinct_nodup : ∀ {ks : List D}, ks.all keyGood = true → distinctD ks = true → (ks.map keyN).Nodup
  | [], _, _ => List.nodup_nil
  | k :: ks, hg, hd => by
    simp only [List.all_cons, Bool.and_eq_true] at hg
    simp only [distinctD, Bool.and_eq_true] at hd
    rw [List.map_cons, List.nodup_cons]
    refine ⟨fun hm => ?_, distinct_nodup hg.2 hd.2⟩
    obtain ⟨q, hq, e⟩ := List.mem_map.mp hm
    have g1 := hg.1
    have g2 := List.all_eq_true.mp hg.2 q hq
    simp only [keyGood, Bool.and_eq_true] at g1 g2
    have n := List.all_eq_true.mp hd.1 q hq
    rw [(keyN_iff g1.1.2 g2.1.2).mpr e.symm] at n
    cases n
end
section
variable {X : Cx} {pins : List (Addr × Obj)} {σ : L2.St} {H : Hp} {s : Shared} {O : Addr → Prop}
theorem mk_is (I : L2.Inv X pins σ H s) {hf : D → Int} : ∀ {es : List DictEntry} {kvs : List (D × D)} {qs vs : List V}, (kvs.map (·.1)).all keyGood = true → Ents hf es (kvs.map (·.1)) qs vs → Rk hf H O kvs qs vs → ∀ x ∈ mkX es (kvs.map (·.1)), NestedIs s.heap x.1 (.ref x.2.1) ∧ x.1.depth ≤ 8
  | [], [], _, _, _, _, _, x, hx => by simp [mkX] at hx
  | [], _ :: _, _, _, _, h, _, _, _ => by simp [Ents] at h
  | _ :: _, [], _, _, _, h, _, _, _ => by simp [Ents] at h
  | e :: es, (k, d) :: kvs, [], _, _, h, _, _, _ => by simp [Ents] at h
  | e :: es, (k, d) :: kvs, _ :: _, [], _, h, _, _, _ => by simp [Ents] at h
  | e :: es, (k, d) :: kvs, q :: qs, v :: vs, hg, h, hk, x, hx => by
    simp only [List.map_cons, List.all_cons, Bool.and_eq_true] at hg
    simp only [List.map_cons, Ents] at h
    obtain ⟨⟨a, h1, h2⟩, h3, h4, h5⟩ := h
    simp only [Rk] at hk
    obtain ⟨q', qr, v', vr, e1, e2, k1, _, _, _, k5⟩ := hk
    cases e1
    cases e2
    simp only [List.map_cons, mkX, List.mem_cons] at hx
    rcases hx with rfl | hx
    · have g := hg.1
      simp only [keyGood, Bool.and_eq_true, decide_eq_true_eq] at g
      subst h2
      rw [h1]
      refine ⟨keyN_is I k _ _ g.1.2 k1 rfl, ?_⟩
      have := keyN_depth k
      show (keyN k).depth ≤ 8
      omega
    · exact mk_is I hg.2 h5 k5 x hx
/-- the entries behind a store -/
theorem put_ents {w : World} {prog : Program} {k y : D} {b : Addr} {yv : V} {u : Value} (gk : keyGood k = true) (hk : Rp (hfW w) H O k (.ref b)) (hy : Rp (hfW w) H O y yv) (ru : RelV yv u) : ∀ {es : List DictEntry} {kvs : List (D × D)} {qs vs : List V}, (kvs.map (·.1)).all keyGood = true → Ents (hfW w) es (kvs.map (·.1)) qs vs → Rk (hfW w) H O kvs qs vs →
    ∃ qs' vs', Ents (hfW w) ((putX (keyN k) b u (mkX es (kvs.map (·.1)))).map (entryOfKey (nestedKind prog w))) ((putD k y kvs).map (·.1)) qs' vs' ∧ Rk (hfW w) H O (putD k y kvs) qs' vs'
  | [], [], qs, vs, _, h, hr => by
    refine ⟨[.ref b], [yv], ?_, ?_⟩
    · simp only [mkX, putX, putD, List.map_cons, List.map_nil, Ents, entryOfKey]
      exact ⟨⟨b, rfl, rfl⟩, rfl, ru, trivial⟩
    · simp only [putD, Rk]
      exact ⟨.ref b, [], yv, [], rfl, rfl, hk.1, hk.2, hy.1, hy.2, rfl, rfl⟩
  | [], _ :: _, _, _, _, h, _ => by simp [Ents] at h
  | _ :: _, [], _, _, _, h, _ => by simp [Ents] at h
  | e :: es, (k2, d) :: kvs, [], _, _, h, _ => by simp [Ents] at h
  | e :: es, (k2, d) :: kvs, _ :: _, [], _, h, _ => by simp [Ents] at h
  | e :: es, (k2, d) :: kvs, q :: qs, v :: vs, hg, h, hr => by
    have h0 := h
    simp only [List.map_cons, List.all_cons, Bool.and_eq_true] at hg
    simp only [List.map_cons, Ents] at h
    obtain ⟨⟨a, h1, h2⟩, h3, h4, h5⟩ := h
    simp only [Rk] at hr
    obtain ⟨q', qr, v', vr, e1, e2, k1, k2', k3, k4, k5⟩ := hr
    cases e1
    cases e2
    have g1 := gk
    have g2 := hg.1
    simp only [keyGood, Bool.and_eq_true] at g1 g2
    have ek := keyN_iff g2.1.2 g1.1.2
    obtain ⟨hh, kk, vv⟩ := e
    simp only at h1 h3 h4
    subst h1
    simp only [List.map_cons, mkX, putX, putD, adr]
    by_cases hc : keyN k2 = keyN k
    · rw [if_pos hc, if_pos (ek.mpr hc)]
      refine ⟨q :: qs, yv :: vs, ?_, ?_⟩
      · simp only [List.map_cons, Ents, entryOfKey]
        refine ⟨⟨a, rfl, h2⟩, rfl, ru, ?_⟩
        rw [← mk_ents h5]
        exact h5
      · simp only [Rk]
        exact ⟨q, qs, yv, vs, rfl, rfl, k1, k2', hy.1, hy.2, k5⟩
    · rw [if_neg hc, if_neg (fun z => hc (ek.mp z))]
      obtain ⟨qs', vs', i1, i2⟩ := put_ents (prog := prog) gk hk hy ru hg.2 h5 k5
      refine ⟨q :: qs', v :: vs', ?_, ?_⟩
      · simp only [List.map_cons, Ents, entryOfKey]
        exact ⟨⟨a, rfl, h2⟩, rfl, h4, i1⟩
      · simp only [Rk]
        exact ⟨q, qs', v, vs', rfl, rfl, k1, k2', k3, k4, i2⟩
theorem putD_len (k y : D) : ∀ kvs : List (D × D), (putD k y kvs).length ≤ kvs.length + 1
  | [] => by simp [putD]
  | (a, b) :: r => by
    simp only [putD]
    split
    · simp
    · have := putD_len k y r
      simp
      omega
end
theorem dictSet {X : Cx} (hu : X.A.units + 70 < cLine) : DictSet X (hfW X.w) := by
  intro pins s σ H o i v ov iv u Q I ro ri rv h
  obtain ⟨a, O, kvs, k, y, d', rfl, ho, own, hk, hy, e, q⟩ := h
  cases ro
  obtain ⟨es, ep, qs, vs, hH, hn, hz, he, hkk⟩ := own
  simp only [setD] at e
  split at e
  · rename_i hc
    simp only [keyFits, Bool.and_eq_true, decide_eq_true_eq] at hc
    obtain ⟨⟨⟨gk, ga⟩, gd⟩, hlen⟩ := hc
    cases e
    have gk' := gk
    simp only [keyGood, Bool.and_eq_true, decide_eq_true_eq] at gk'
    obtain ⟨b, rfl⟩ : ∃ b, i = .ref b := by
      cases k with
      | tuple xs =>
        obtain ⟨b, _, e, _⟩ := rb_seq hk.1
        exact ⟨b, e⟩
      | _ => simp [isTup] at gk'
    cases ri
    obtain ⟨ob, hob, hx, hd⟩ := invRaw I (.inl hH)
    have hnd := distinct_nodup ga gd
    have hm : s.heap.DictOfH (nestedKind X.prog X.w) a (mkX es.toList (kvs.map (·.1))) := ⟨ob, es, ep, hob, hx, hd, mk_ents he, mk_is I ga he hkk, by rw [mk_keys he]; exact hnd⟩
    have hkey : (nestedKind X.prog X.w).is s.heap (keyN k) b := ⟨keyN_is I k _ _ gk'.1.2 hk.1 rfl, by have := keyN_depth k; omega⟩
    have hsz : es.size = kvs.length := raw_size he
    have hxl : (mkX es.toList (kvs.map (·.1))).length = es.size := by
      have := congrArg List.length (mk_ents (prog := X.prog) he)
      rw [List.length_map] at this
      rw [← this, Array.length_toList]
    refine wpAny_setItem_heap (by show X.A.units + 1 + 8 < cLine; omega) hkey hm (fun h' hm' hs' => ?_) (by rw [hxl, szL]; exact hz)
    rw [stored_putX (by rw [mk_keys he]; exact hnd)] at hm'
    obtain ⟨o2, es2, ep2, g1, g2, g3, g4, _, _⟩ := hm'
    obtain ⟨qs', vs', p1, p2⟩ := put_ents (prog := X.prog) gk hk hy rv ga he hkk
    have sz2 : es2.size ≤ SZ := by
      have h1 := congrArg List.length g4
      rw [Array.length_toList, ← g4] at h1
      rw [← g4] at p1
      have h2 := ents_len p1
      rw [Array.length_toList, List.length_map] at h2
      have := putD_len k y kvs
      omega
    rw [← g4] at p1
    have mv : ∀ c o, ¬ O c → H c = some o → upd H a (rawO a es2 ep2) c = some o := fun c o n e => by
      rw [upd_ne fun z => n (by rw [z]; exact ho)]; exact e
    refine ⟨upd H a (rawO a es2 ep2), I.write (x := a) (e := a) (by rw [hH]; trivial) (.inl rfl) (fun c uu hb e => (hs'.2 c hb).trans e) ⟨_, g1⟩ ⟨⟨_, g1, g2, g3⟩, ⟨_, g1⟩, fun h1 h2 ⟨o, e, x⟩ kk => ⟨o, kk o e, x⟩⟩, q _ ⟨es2, ep2, qs', vs', upd_same, hn, sz2, p1, Rk.move mv (fun c o n _ => n) _ _ _ p2⟩⟩
  · cases e
end Ev
/-! Statements matched. -/
namespace Ev
open PySem PySem.Spec PyProof.Rows L2

def fbT : Str → Bool := fun _ => true
def noComp : Expr → Bool
  | .ListComp _ _ _ _ => false
  | .SetComp _ _ _ _ => false
  | .DictComp _ _ _ _ _ => false
  | _ => true
def noTup : Expr → Bool
  | .Tuple _ _ _ => false
  | _ => true
def locOnly (sc : Scope) (x : Str) : Bool := match sc.names.lookup x with
  | some .local => true
  | _ => false
/-- plain names on one line -/
def swNm (sc : Scope) (line : Nat) : Expr → Option Str
  | .Name x p => if locOnly sc x && p.line == line then some x else none
  | _ => none
def par2 (J : Inf) (sc : Scope) : List (Tg × Bool) → List IE → List Expr → List Expr → Bool
  | [(.nm i, f), (.nm j, g)], [e1, e2], [.Name x px, .Name y py], [v1, v2] =>
    decide (J.N[i]? = some x) && decide (J.N[j]? = some y) && decide (i ≠ j) && decide (i ≠ J.pi) && decide (j ≠ J.pi) && locOnly sc x && locOnly sc y && py.line == px.line && decide (x ≠ y) && noStar v1 && noStar v2 &&
    !([v1, v2].all (foldedForSure 8)) && !([v1, v2].all (constantsAlone 8)) && isE J sc false e1 v1 && isE J sc false e2 v2 && (!f || isFr e1) && (!g || isFr e2)
  | _, _, _, _ => false
def par3 (J : Inf) (sc : Scope) : List (Tg × Bool) → List IE → List Expr → List Expr → Bool
  | [(.nm i, f), (.nm j, g), (.nm k, l)], [e1, e2, e3], [.Name x px, .Name y py, .Name z pz], [v1, v2, v3] =>
    decide (J.N[i]? = some x) && decide (J.N[j]? = some y) && decide (J.N[k]? = some z) && decide (i ≠ j) && decide (i ≠ k) && decide (j ≠ k) && decide (i ≠ J.pi) && decide (j ≠ J.pi) && decide (k ≠ J.pi) && locOnly sc x && locOnly sc y && locOnly sc z &&
    py.line == px.line && pz.line == px.line && decide (x ≠ y) && decide (x ≠ z) && decide (y ≠ z) && noStar v1 && noStar v2 && noStar v3 &&
    !([v1, v2, v3].all (foldedForSure 8)) && !([v1, v2, v3].all (constantsAlone 8)) && isE J sc false e1 v1 && isE J sc false e2 v2 && isE J sc false e3 v3 && (!f || isFr e1) && (!g || isFr e2) && (!l || isFr e3)
  | _, _, _, _ => false
def par0 (J : Inf) (sc : Scope) (ts : List (Tg × Bool)) (es : List IE) (tes vs : List Expr) : Bool :=
  (ts.all fun q => !q.2) && isTgs J sc fbT (ts.map (·.1)) tes && isEs J sc es vs && decide ((tes.filterMap (swNm sc ((tes.head?.map (·.pos.line)).getD 0))).length ≠ tes.length) && decide (tes.length ≤ 1000)
def okMu (J : Inf) (sc : Scope) (m : Mu) (i : Nat) (es : List IE) : Expr → Bool
  | .Call (.Attribute (.Name x _) a ap) xs [] cp => okVar J sc i x && decide (a = muStr m) && isEs J sc es xs && ap.endLine == cp.line && decide (xs.length < 20)
  | _ => false
/-! a statement taken apart -/
def asg1 : Stmt → Option (Expr × Expr × Pos)
  | .Assign [t] v p => some (t, v, p)
  | _ => none
theorem asg1_inv {x : Stmt} {q : Expr × Expr × Pos} (h : asg1 x = some q) : x = .Assign [q.1] q.2.1 q.2.2 := by
  cases x with
  | Assign ts v p =>
    cases ts with
    | nil => cases h
    | cons t ts =>
      cases ts with
      | nil => cases h; rfl
      | cons _ _ => cases h
  | _ => cases h
def nameOf : Expr → Option (Str × Pos)
  | .Name x p => some (x, p)
  | _ => none
theorem nameOf_inv {x : Expr} {q : Str × Pos} (h : nameOf x = some q) : x = .Name q.1 q.2 := by
  cases x <;> first | (cases h; rfl) | cases h
def tupOf : Expr → Option (List Expr × Nat × Pos)
  | .Tuple es k p => some (es, k, p)
  | _ => none
theorem tupOf_inv {x : Expr} {q : List Expr × Nat × Pos} (h : tupOf x = some q) : x = .Tuple q.1 q.2.1 q.2.2 := by
  cases x <;> first | (cases h; rfl) | cases h
def subOf : Expr → Option (Expr × Expr × Pos)
  | .Subscript o i p => some (o, i, p)
  | _ => none
theorem subOf_inv {x : Expr} {q : Expr × Expr × Pos} (h : subOf x = some q) : x = .Subscript q.1 q.2.1 q.2.2 := by
  cases x <;> first | (cases h; rfl) | cases h
def exprOf : Stmt → Option (Expr × Pos)
  | .Expr v p => some (v, p)
  | _ => none
theorem exprOf_inv {x : Stmt} {q : Expr × Pos} (h : exprOf x = some q) : x = .Expr q.1 q.2 := by
  cases x <;> first | (cases h; rfl) | cases h
def ifOf : Stmt → Option (Expr × List Stmt × List Stmt × Pos)
  | .If t a b p => some (t, a, b, p)
  | _ => none
theorem ifOf_inv {x : Stmt} {q : Expr × List Stmt × List Stmt × Pos} (h : ifOf x = some q) : x = .If q.1 q.2.1 q.2.2.1 q.2.2.2 := by
  cases x <;> first | (cases h; rfl) | cases h
def forOf : Stmt → Option (Expr × Expr × List Stmt × Pos)
  | .For t i b [] p => some (t, i, b, p)
  | _ => none
theorem forOf_inv {x : Stmt} {q : Expr × Expr × List Stmt × Pos} (h : forOf x = some q) : x = .For q.1 q.2.1 q.2.2.1 [] q.2.2.2 := by
  cases x with
  | For t i b o p =>
    cases o with
    | nil => cases h; rfl
    | cons _ _ => cases h
  | _ => cases h
def whlOf : Stmt → Option (Expr × List Stmt × Pos)
  | .While t b [] p => some (t, b, p)
  | _ => none
theorem whlOf_inv {x : Stmt} {q : Expr × List Stmt × Pos} (h : whlOf x = some q) : x = .While q.1 q.2.1 [] q.2.2 := by
  cases x with
  | While t b o p =>
    cases o with
    | nil => cases h; rfl
    | cons _ _ => cases h
  | _ => cases h
def retOf : Stmt → Option (Option Expr × Pos)
  | .Return v p => some (v, p)
  | _ => none
theorem retOf_inv {x : Stmt} {q : Option Expr × Pos} (h : retOf x = some q) : x = .Return q.1 q.2 := by
  cases x <;> first | (cases h; rfl) | cases h
def isPass : Stmt → Bool
  | .Pass _ => true
  | _ => false
theorem isPass_inv {x : Stmt} (h : isPass x = true) : ∃ p, x = .Pass p := by
  cases x <;> first | exact ⟨_, rfl⟩ | cases h
def isBrk : Stmt → Bool
  | .Break _ => true
  | _ => false
theorem isBrk_inv {x : Stmt} (h : isBrk x = true) : ∃ p, x = .Break p := by
  cases x <;> first | exact ⟨_, rfl⟩ | cases h
def isCnt : Stmt → Bool
  | .Continue _ => true
  | _ => false
theorem isCnt_inv {x : Stmt} (h : isCnt x = true) : ∃ p, x = .Continue p := by
  cases x <;> first | exact ⟨_, rfl⟩ | cases h
/-- is there one, and does it pass -/
def any1 {α : Type} (o : Option α) (p : α → Bool) : Bool := match o with
  | some a => p a
  | none => false
theorem any1_inv {α : Type} {o : Option α} {p : α → Bool} (h : any1 o p = true) : ∃ a, o = some a ∧ p a = true := by
  cases o with
  | none => cases h
  | some a => exact ⟨a, rfl, h⟩
def isAsg (J : Inf) (sc : Scope) (i : Nat) (fr : Bool) (e : IE) (x : Stmt) : Bool := any1 (asg1 x) fun q => any1 (nameOf q.1) fun n => decide (J.N[i]? = some n.1) && locB sc fbT n.1 && decide (i ≠ J.pi) && (!fr || isFr e) && isE J sc false e q.2.1
def isAsT (J : Inf) (sc : Scope) (ts : List Tg) (e : IE) (x : Stmt) : Bool := any1 (asg1 x) fun q => any1 (tupOf q.1) fun t => isTgs J sc fbT ts t.1 && noTup q.2.1 && isE J sc false e q.2.1
def isPar (J : Inf) (sc : Scope) (ts : List (Tg × Bool)) (es : List IE) (x : Stmt) : Bool := any1 (asg1 x) fun q => any1 (tupOf q.1) fun t => any1 (tupOf q.2.1) fun v => par2 J sc ts es t.1 v.1 || par3 J sc ts es t.1 v.1 || par0 J sc ts es t.1 v.1
def isStx (J : Inf) (sc : Scope) (i : Nat) (k v : IE) (x : Stmt) : Bool := any1 (asg1 x) fun q => any1 (subOf q.1) fun s => any1 (nameOf s.1) fun n => okVar J sc i n.1 && notSl s.2.1 && isE J sc false k s.2.1 && isE J sc false v q.2.1
def isMut (J : Inf) (sc : Scope) (m : Mu) (i : Nat) (es : List IE) (x : Stmt) : Bool := any1 (exprOf x) fun q => okMu J sc m i es q.1
def isMutA (J : Inf) (sc : Scope) (j : Nat) (m : Mu) (i : Nat) (es : List IE) (x : Stmt) : Bool := any1 (asg1 x) fun q => any1 (nameOf q.1) fun n => decide (J.N[j]? = some n.1) && locB sc fbT n.1 && decide (j ≠ J.pi) && okMu J sc m i es q.2.1
mutual
def isS (J : Inf) (sc : Scope) : IS → Stmt → Bool
  | .asg _ i fr e, x => isAsg J sc i fr e x
  | .asT _ ts e, x => isAsT J sc ts e x
  | .par _ ts es, x => isPar J sc ts es x
  | .stx _ i k v, x => isStx J sc i k v x
  | .mut _ m i es, x => isMut J sc m i es x
  | .mutA _ j m i es, x => isMutA J sc j m i es x
  | .exp _ e, x => any1 (exprOf x) fun q => noComp q.1 && isE J sc false e q.1
  | .ifs _ c a b, x => any1 (ifOf x) fun q => isE J sc true c q.1 && isSs J sc a q.2.1 && isSs J sc b q.2.2.1
  | .frs _ tg k args body, x => any1 (forOf x) fun q => isTg J sc fbT tg q.1 && itOk sc q.1 k q.2.1 && isEs J sc args (itArgs k q.2.1) && notSet q.2.1 && isSs J sc body q.2.2.1
  | .whl _ c body, x => any1 (whlOf x) fun q => isE J sc true c q.1 && isSs J sc body q.2.1
  | .rtn _ e, x => any1 (retOf x) fun q => any1 q.1 fun v => isE J sc false e v
  | .rtnN, x => any1 (retOf x) fun q => q.1.isNone
  | .pas, x => isPass x
  | .brk, x => isBrk x
  | .cnt, x => isCnt x
def isSs (J : Inf) (sc : Scope) : List IS → List Stmt → Bool
  | [], [] => true
  | s :: r, x :: xs => isS J sc s x && isSs J sc r xs
  | _, _ => false
end

/-! ### the stores of several names -/
theorem swaps_tup {e : Expr} {es : List Expr} {k : Nat} {p : Pos} {line : Nat} {env : PySem.Env} : swapsWithSole [.Tuple es k p] e line env = pure false := by
  unfold swapsWithSole swapsWith
  cases e <;> rfl
theorem swaps_sub {e o i : Expr} {p : Pos} {line : Nat} {env : PySem.Env} : swapsWithSole [.Subscript o i p] e line env = pure false := by
  unfold swapsWithSole swapsWith
  cases e <;> rfl
theorem swaps_no {e : Expr} {t : Option Expr} {line : Nat} {env : PySem.Env} (h : noComp e = true) : swapsWith e t line env = pure false := by
  unfold swapsWith
  cases e <;> first | rfl | cases h
theorem stores_sub {e o i : Expr} {p : Pos} {env : PySem.Env} : swappedStores [.Subscript o i p] e env = pure none := by
  unfold swappedStores
  cases e <;> rfl
theorem stores_nt {e : Expr} {es : List Expr} {k : Nat} {p : Pos} {env : PySem.Env} (h : noTup e = true) : swappedStores [.Tuple es k p] e env = pure none := by
  unfold swappedStores
  cases e <;> first | rfl | cases h
theorem star_pred (v : Expr) : (match v with | .Starred .. => true | _ => false) = !noStar v := by
  cases v <;> rfl
section
variable {env : PySem.Env} {sc : Scope}
theorem kind_loc (hs : env.scope = sc) {x : Str} (h : locOnly sc x = true) : env.kindOf x = some NameKind.local ∧ env.scope.names.lookup x = some .local := by
  unfold locOnly at h
  have : sc.names.lookup x = some .local := by
    split at h
    · assumption
    · cases h
  unfold PySem.Env.kindOf
  rw [hs, this]
  exact ⟨rfl, rfl⟩
theorem dedup2 {x y : Str} (h : x ≠ y) : [x, y].eraseDups = [x, y] := by
  have e1 : (y == x) = false := beq_eq_false_iff_ne.mpr fun q => h q.symm
  simp [List.eraseDups_cons, e1]
theorem dedup3 {x y z : Str} (h : x ≠ y) (h2 : x ≠ z) (h3 : y ≠ z) : [x, y, z].eraseDups = [x, y, z] := by
  have e1 : (y == x) = false := beq_eq_false_iff_ne.mpr fun q => h q.symm
  have e2 : (z == x) = false := beq_eq_false_iff_ne.mpr fun q => h2 q.symm
  have e3 : (z == y) = false := beq_eq_false_iff_ne.mpr fun q => h3 q.symm
  simp [List.eraseDups_cons, e1, e2, e3]
theorem stores2 (hs : env.scope = sc) (hk : env.scope.kind = .function) {x y : Str} {px py pt pt2 : Pos} {kt k2 : Nat} {a b : Expr} (h1 : locOnly sc x = true) (h2 : locOnly sc y = true) (hl : (py.line == px.line) = true) (hn : x ≠ y) (n1 : noStar a = true) (n2 : noStar b = true)
    (f : ([a, b].all (foldedForSure 8)) = false) (g : ([a, b].all (constantsAlone 8)) = false) : swappedStores [.Tuple [.Name x px, .Name y py] kt pt] (.Tuple [a, b] k2 pt2) env = pure (some [x, y]) := by
  obtain ⟨k1, _⟩ := kind_loc hs h1
  obtain ⟨k2', _⟩ := kind_loc hs h2
  have hb : env.blockKind = .function := by unfold PySem.Env.blockKind; rw [hk]; rfl
  have hl' := beq_iff_eq.mp hl
  unfold swappedStores
  refine (if_neg ?_).trans ((if_neg ?_).trans ((if_neg ?_).trans ((if_neg ?_).trans ((if_neg ?_).trans ?_))))
  · simp [hb]
  · intro h
    simp only [List.any_cons, List.any_nil, Bool.or_false, Bool.or_eq_true] at h
    rcases h with h | h
    · cases a <;> first | (cases n1; done) | (cases h; done)
    · cases b <;> first | (cases n2; done) | (cases h; done)
  · simp [k1, k2', Expr.pos, hl', dedup2 hn, List.filterMap]
  · rw [f]; simp
  · rw [g]; simp
  · simp [k1, k2', Expr.pos, hl', List.filterMap]
theorem stores3 (hs : env.scope = sc) (hk : env.scope.kind = .function) {x y z : Str} {px py pz pt pt2 : Pos} {kt k2 : Nat} {a b c : Expr} (h1 : locOnly sc x = true) (h2 : locOnly sc y = true) (h3 : locOnly sc z = true) (hl : (py.line == px.line) = true) (hl2 : (pz.line == px.line) = true)
    (hn : x ≠ y) (hn2 : x ≠ z) (hn3 : y ≠ z) (n1 : noStar a = true) (n2 : noStar b = true) (n3 : noStar c = true)
    (f : ([a, b, c].all (foldedForSure 8)) = false) (g : ([a, b, c].all (constantsAlone 8)) = false) : swappedStores [.Tuple [.Name x px, .Name y py, .Name z pz] kt pt] (.Tuple [a, b, c] k2 pt2) env = pure (some [x, y, z]) := by
  obtain ⟨k1, _⟩ := kind_loc hs h1
  obtain ⟨k2', _⟩ := kind_loc hs h2
  obtain ⟨k3', _⟩ := kind_loc hs h3
  have hb : env.blockKind = .function := by unfold PySem.Env.blockKind; rw [hk]; rfl
  have hl' := beq_iff_eq.mp hl
  have hl2' := beq_iff_eq.mp hl2
  unfold swappedStores
  refine (if_neg ?_).trans ((if_neg ?_).trans ((if_neg ?_).trans ((if_neg ?_).trans ((if_neg ?_).trans ?_))))
  · simp [hb]
  · intro h
    simp only [List.any_cons, List.any_nil, Bool.or_false, Bool.or_eq_true] at h
    rcases h with h | h | h
    · cases a <;> first | (cases n1; done) | (cases h; done)
    · cases b <;> first | (cases n2; done) | (cases h; done)
    · cases c <;> first | (cases n3; done) | (cases h; done)
  · simp [k1, k2', k3', Expr.pos, hl', hl2', dedup3 hn hn2 hn3, List.filterMap]
  · rw [f]; simp
  · rw [g]; simp
  · simp [k1, k2', k3', Expr.pos, hl', hl2', List.filterMap]
theorem filterMap_cg {α β : Type} {f g : α → Option β} (h : ∀ a, f a = g a) {xs : List α} : xs.filterMap f = xs.filterMap g := by
  rw [show f = g from funext h]
theorem stores0 (hs : env.scope = sc) {ts vs : List Expr} {pt pt2 : Pos} {kt k2 : Nat} (h : (ts.filterMap (swNm sc ((ts.head?.map (·.pos.line)).getD 0))).length ≠ ts.length) : swappedStores [.Tuple ts kt pt] (.Tuple vs k2 pt2) env = pure none := by
  unfold swappedStores
  simp only []
  split
  · rfl
  · split
    · rfl
    · split
      · rfl
      · rename_i h3
        exfalso
        simp only [Bool.or_eq_true, not_or, bne_iff_ne, ne_eq, Decidable.not_not] at h3
        refine h (Eq.trans (congrArg List.length (filterMap_cg fun t => ?_)) h3.1)
        cases t with
        | Name x p =>
          have e : (env.kindOf x == some NameKind.local) = locOnly sc x := by
            unfold locOnly PySem.Env.kindOf
            rw [hs]
            cases sc.names.lookup x with
            | none => rfl
            | some k => cases k <;> rfl
          simp only [swNm]
          rw [← e]
        | _ => rfl
end
end Ev
set_option maxHeartbeats 20000000
/-! The statements' walk. -/
namespace Ev
open PySem PySem.Spec PyProof.Rows L2

/-- what a text's body needs besides -/
structure SOkX (X : Cx) (J : Inf) (E : EC) (sc : Scope) : Prop extends XOk X J E sc where
  fn : ∀ x, X.fn x = true
  kind : X.env.scope.kind = .function
  own : PassesOwn (model X.prog X.w) X.A X.env X.xe
  ds : DictSet X E.hf
section
variable {X : Cx} {J : Inf} {E : EC} {sc : Scope}
theorem loc_of (ok : SOkX X J E sc) {x : Str} (h : locB sc fbT x = true) : Loc X.env.scope x ∧ (X.fn x = true ∨ X.env.scope.names.lookup x = some .local) := by
  rw [ok.sc]
  unfold locB at h
  split at h
  · exact ⟨.inl (by assumption), .inr (by assumption)⟩
  · exact ⟨.inr (by assumption), .inl (ok.fn x)⟩
  · cases h
/-- name = e: what the value is to be -/
theorem asg_read {fz : List Nat} {i : Nat} {fr : Bool} {e : IE} {D0 : Ends} {σ : L2.St} {H : Hp} (hp : i ≠ E.pi) (hf : fr = true → isFr e = true) (h : TSv E (.asg fz i fr e) D0 σ H) : TEv E false e σ H fun v H1 => D0.nx (σ.set i (some v)) H1 := by
  obtain ⟨c, ad, env, ps, so, R, w⟩ := h
  obtain ⟨R1, s1⟩ := R.freeze so fz
  simp only [ex] at w
  refine ⟨c, ad, _, ps, R1, (Out.wp_bind.mp w).mono (fun d p1 _ w1 => fun v H1 k1 q1 r1 f1 => ?_) fun _ _ _ _ h => h⟩
  obtain ⟨env', e1, w2⟩ := wp_opt.mp (Out.wp_bind.mp w1)
  have w3 : ∀ ad' σ' H', Rl E c ad' env' p1 σ' H' → Stp (OO c ad env) H (OO c ad' env') H' → D0.nx σ' H' := w2
  have st1 : Stp (OO c ad env) H (OO c ad (freeze fz env)) H := Stp.less s1
  have va : asgT (.nm i) d (freeze fz env) = some env' → D0.nx (σ.set i (some v)) H1 := fun e => by
    simp only [asgT] at e
    split at e
    · rename_i hi
      cases e
      have R2 := (R1.step k1 q1).setVa hi hp r1
      exact w3 ad _ _ R2 ((st1.trans (kb_stp R1 k1)).trans (Stp.less fun a => oo_set a))
    · cases e
  cases fr with
  | false => exact va e1
  | true =>
    simp only [asgF] at e1
    split at e1
    · rename_i hi
      simp only [Bool.and_eq_true, decide_eq_true_eq] at hi
      cases e1
      obtain ⟨a, rfl, na, own⟩ := f1 (hf rfl) hi.2
      obtain ⟨R2, s2⟩ := R1.setOw k1 q1 hi.1 hp na own
      exact w3 _ _ _ R2 (st1.trans s2)
    · cases e1
/-- a, b = e: one value taken apart -/
theorem asT_read {fz : List Nat} {ts : List Tg} {e : IE} {D0 : Ends} {σ : L2.St} {H : Hp} (h : TSv E (.asT fz ts e) D0 σ H) : TEv E false e σ H fun v H1 => TGv E (.tp ts) v σ H1 D0.nx := by
  obtain ⟨c, ad, env, ps, so, R, w⟩ := h
  obtain ⟨R1, s1⟩ := R.freeze so fz
  simp only [ex] at w
  refine ⟨c, ad, _, ps, R1, (Out.wp_bind.mp w).mono (fun d p1 _ w1 => fun v H1 k1 q1 r1 _ => ?_) fun _ _ _ _ h => h⟩
  obtain ⟨env', e1, w2⟩ := wp_opt.mp (Out.wp_bind.mp w1)
  have w3 : ∀ ad' σ' H', Rl E c ad' env' p1 σ' H' → Stp (OO c ad env) H (OO c ad' env') H' → D0.nx σ' H' := w2
  exact ⟨c, ad, _, p1, d, env', R1.step k1 q1, r1, e1, fun σ' _ _ s2 R2 => w3 ad σ' H1 R2 (((Stp.less s1).trans (kb_stp R1 k1)).trans (Stp.less s2))⟩
theorem setsS_len : ∀ (is : List Nat) (vs : List V) (σ : L2.St), (setsS is vs σ).length = σ.length
  | [], _, _ => rfl
  | _ :: _, [], _ => rfl
  | i :: is, v :: vs, σ => by
    show (setsS is vs (σ.set i (some v))).length = _
    rw [setsS_len is vs, List.length_set]
/-- several names at once -/
theorem par_read {fz : List Nat} {is : List Nat} {fs : List Bool} {es : List IE} {D0 : Ends} {σ : L2.St} {H : Hp} (hp : ∀ i ∈ is, i ≠ E.pi) (hl : is.length = fs.length) (h : TSv E (.par fz ((is.map Tg.nm).zip fs) es) D0 σ H) :
    TPv E fs es σ H fun vs H1 => D0.nx (setsS is vs σ) H1 ∧ vs.length = es.length := by
  obtain ⟨c, ad, env, ps, so, R, w⟩ := h
  obtain ⟨R1, s1⟩ := R.freeze so fz
  simp only [ex] at w
  refine ⟨c, ad, _, ps, R1, (Out.wp_bind.mp w).mono (fun ds p1 e0 w1 => fun vs H1 c' pd up R2 s2 k2 pq nd => ?_) fun _ _ _ _ h => h⟩
  obtain ⟨env', e1, w2⟩ := wp_opt.mp (Out.wp_bind.mp w1)
  have w3 : ∀ ad' σ' H', Rl E c ad' env' p1 σ' H' → Stp (OO c ad env) H (OO c ad' env') H' → D0.nx σ' H' := w2
  have hn : ∀ a ∈ pd, c.H0 a = none ∧ ∀ (j : Nat) (e : D), (freeze fz env)[j]? = some (.ow e) → ad j ≠ a := fun a ha => by
    refine ⟨R1.keep.none R1.pot (nd a ha), fun j e he q => ?_⟩
    obtain ⟨o, ho⟩ := (R1.ow j e he).2.1.there
    rw [q, nd a ha] at ho
    cases ho
  have no : ∀ a ∈ pd, ¬ c.O0 a := fun a ha q => R1.dom.no (.inl q) (nd a ha)
  obtain ⟨ad', R3, s3⟩ := names_all hp up R2 pq hn e1 hl no
  refine ⟨w3 ad' _ _ R3 (((Stp.less s1).trans s2).trans (Stp.less s3)), ?_⟩
  rw [pq.len, evs_len e0]
/-- several targets, the tuple made and taken apart -/
theorem par_read0 {fz : List Nat} {ts : List (Tg × Bool)} {es : List IE} {D0 : Ends} {σ : L2.St} {H : Hp} (ht : (ts.all fun q => !q.2) = true) (h : TSv E (.par fz ts es) D0 σ H) :
    TAv E false es σ H fun vs H1 => vs.length = ts.length ∧ ∀ p, H1 p = none → TGsv E (ts.map (·.1)) vs σ (upd H1 p (.tup vs)) D0.nx := by
  obtain ⟨c, ad, env, ps, so, R, w⟩ := h
  obtain ⟨R1, s1⟩ := R.freeze so fz
  simp only [ex] at w
  refine ⟨c, ad, _, ps, R1, (Out.wp_bind.mp w).mono (fun ds p1 e0 w1 => fun vs H1 k1 q1 r1 => ?_) fun _ _ _ _ h => h⟩
  obtain ⟨env', e1, w2⟩ := wp_opt.mp (Out.wp_bind.mp w1)
  have w3 : ∀ ad' σ' H', Rl E c ad' env' p1 σ' H' → Stp (OO c ad env) H (OO c ad' env') H' → D0.nx σ' H' := w2
  have e2 : asgTs (ts.map (·.1)) ds (freeze fz env) = some env' := by
    have : ∀ (ts : List (Tg × Bool)) (ds : List D) (env : Env), (ts.all fun q => !q.2) = true → parF ts ds env = asgTs (ts.map (·.1)) ds env := by
      intro ts
      induction ts with
      | nil => intro ds env _; cases ds <;> rfl
      | cons t ts ih =>
        intro ds env h
        obtain ⟨t, f⟩ := t
        simp only [List.all_cons, Bool.and_eq_true, Bool.not_eq_true'] at h
        obtain ⟨hf, h⟩ := h
        subst hf
        cases ds with
        | nil => rfl
        | cons d ds =>
          simp only [parF, List.map_cons, asgTs]
          have ea : asgF t false d env = asgT t d env := by cases t <;> rfl
          rw [ea]
          congr 1
          funext env1
          exact ih ds env1 h
    rw [← this ts ds _ ht]
    exact e1
  refine ⟨by rw [r1.rs.length, ← asgTs_len e2, List.length_map], fun p np => ?_⟩
  have sm : Same H1 (upd H1 p (.tup vs)) := same_new np
  have R2 := (R1.step k1 q1).same sm
  refine ⟨c, ad, _, p1, ds, env', R2, r1.rs.grow sm, e2, fun σ' _ _ s2 R3 => w3 ad σ' _ R3 ?_⟩
  exact (((Stp.less s1).trans (kb_stp R1 k1)).trans (kb_stp (R1.step k1 q1) (Same.kb sm))).trans (Stp.less s2)
theorem ownV_inv {env : Env} {i : Nat} {d : D} (h : ownV env i = some d) : env[i]? = some (.ow d) := by
  unfold ownV at h
  obtain ⟨s, h1, h2⟩ := Option.bind_eq_some_iff.mp h
  cases s with
  | ow e => cases h2; exact h1
  | _ => cases h2
theorem ownLst_inv {env : Env} {i : Nat} {ds : List D} (h : ownLst env i = some ds) : env[i]? = some (.ow (.list ds)) := by
  unfold ownLst at h
  obtain ⟨s, h1, h2⟩ := Option.bind_eq_some_iff.mp h
  cases s with
  | ow e =>
    cases e with
    | list es => cases h2; exact h1
    | _ => cases h2
  | _ => cases h2
/-- a place set -/
theorem stx_read {fz : List Nat} {i : Nat} {k v : IE} {D0 : Ends} {σ : L2.St} {H : Hp} (h : TSv E (.stx fz i k v) D0 σ H) : TEv E false v σ H fun y H1 => gSub (tVar i) (TEv E false k) (rSetO E.hf) y σ H1 D0.nx := by
  obtain ⟨c, ad, env, ps, so, R, w⟩ := h
  obtain ⟨R1, s1⟩ := R.freeze so fz
  simp only [ex] at w
  refine ⟨c, ad, _, ps, R1, (Out.wp_bind.mp w).mono (fun y p1 _ w1 => fun yv H1 k1 q1 r1 _ => ?_) fun _ _ _ _ h => h⟩
  have R2 := R1.step k1 q1
  obtain ⟨d, e0, w1'⟩ := wp_opt.mp (Out.wp_bind.mp w1)
  have hd := ownV_inv e0
  refine ⟨.ref (ad i), (R1.ow i d hd).1, c, ad, _, p1, R2, (Out.wp_bind.mp w1').mono (fun q p2 _ w2 => fun kv H2 k2 q2 r2 _ => ?_) fun _ _ _ _ h => h⟩
  have R3 := R2.step k2 q2
  obtain ⟨d', e1, w3⟩ := wp_opt.mp (Out.wp_bind.mp w2)
  have w4 : ∀ ad' σ' H', Rl E c ad' ((freeze fz env).set i (.ow d')) p2 σ' H' → Stp (OO c ad env) H (OO c ad' ((freeze fz env).set i (.ow d'))) H' → D0.nx σ' H' := w3
  refine ⟨ad i, OO c ad (freeze fz env), d, q, y, d', rfl, .inr ⟨i, d, hd, rfl⟩, (R3.ow i d hd).2.1, r2, rp_kb (E := E) R2.pOO k2 r1, e1, fun o' own => ?_⟩
  obtain ⟨R4, s4⟩ := R3.write hd own
  exact w4 ad σ _ R4 ((((Stp.less s1).trans (kb_stp R1 k1)).trans (kb_stp R2 k2)).trans s4)
theorem muD_list {m : Mu} {xs es : List D} {d' r : D} (h : muD m (.list xs) es = some (d', r)) : ∃ ys, d' = .list ys := by
  cases m with
  | append =>
    match es, h with
    | [y], h =>
      simp only [muD] at h
      split at h
      · cases h; exact ⟨_, rfl⟩
      · cases h
  | extend =>
    match es, h with
    | [.list y], h =>
      simp only [muD] at h
      split at h
      · cases h; exact ⟨_, rfl⟩
      · cases h
  | remove =>
    match es, h with
    | [y], h =>
      simp only [muD] at h
      split at h
      · cases h; exact ⟨_, rfl⟩
      · cases h
  | pop =>
    match es, h with
    | [], h =>
      simp only [muD, Option.map_eq_some_iff] at h
      obtain ⟨y, _, e⟩ := h
      cases e
      exact ⟨_, rfl⟩
    | [.int i], h =>
      simp only [muD] at h
      split at h
      · simp only [Option.bind_eq_some_iff, Option.map_eq_some_iff] at h
        obtain ⟨k, _, y, _, e⟩ := h
        cases e
        exact ⟨_, rfl⟩
      · cases h
/-- a method of one's own list: what it leads to -/
theorem mu_read {i : Nat} {m : Mu} {es : List IE} {σ : L2.St} {H : Hp} {Q : VK} {c : RC} {ad : Nat → Addr} {env : Env} {ps : PS} {xs : List D} {k : D × D → M Fl} {W : Fl → PS → Prop} (R : Rl E c ad env ps σ H) (hd : env[i]? = some (.ow (.list xs)))
    (w : ((evs E.F false es env ps).bind fun ds p => (opt (muD m (.list xs) ds) p).bind k).Wp W E.xq)
    (hq : ∀ d' r p v H1 us', Rl E c ad (env.set i (.ow d')) p σ (upd H1 (ad i) (.lst us')) → Stp (OO c ad env) H (OO c ad (env.set i (.ow d'))) (upd H1 (ad i) (.lst us')) → Rp E.hf (upd H1 (ad i) (.lst us')) (OO c ad (env.set i (.ow d'))) r v → (k (d', r) p).Wp W E.xq → Q v (upd H1 (ad i) (.lst us'))) :
    tBM X.K "list" (rMu E.hf m) (tVar i) (TAv E false es) σ H Q := by
  obtain ⟨a1, own, a3⟩ := R.ow i _ hd
  obtain ⟨vs, hH, hs⟩ := own
  refine ⟨.ref (ad i), a1, .inl ⟨rfl, vs, SqL.of hH⟩, c, ad, env, ps, R, (Out.wp_bind.mp w).mono (fun ds p1 _ w1 => fun us H1 k1 q1 r1 => ?_) fun _ _ _ _ h => h⟩
  have R1 := R.step k1 q1
  obtain ⟨_, ⟨vs1, hH1, hs1⟩, _⟩ := R1.ow i _ hd
  obtain ⟨⟨d', r⟩, e1, w2⟩ := wp_opt.mp (Out.wp_bind.mp w1)
  obtain ⟨ys, rfl⟩ := muD_list e1
  have ino : OO c ad env (ad i) := .inr ⟨i, _, hd, rfl⟩
  refine ⟨ad i, OO c ad env, xs, ds, ys, r, vs1, rfl, hH1, hs1, r1.rs, e1, fun us' v h1 h2 => ?_⟩
  have mv : ∀ a o, ¬ OO c ad env a → H1 a = some o → upd H1 (ad i) (.lst us') a = some o := fun a o n e => by
    rw [upd_ne fun q => n (by rw [q]; exact ino)]; exact e
  have own' : OwnAt E.hf (upd H1 (ad i) (.lst us')) (OO c ad env) (ad i) (.list ys) := ⟨us', upd_same, Rs.move mv (fun a o n _ => n) ys us' h1⟩
  obtain ⟨R2, s2⟩ := R1.write hd own'
  exact hq _ r p1 v H1 us' R2 ((kb_stp R k1).trans s2) (s2.rp h2) w2
theorem pe_mu (ok : XOk X J E sc) {m : Mu} {i : Nat} {es : List IE} {e : Expr} (h : okMu J sc m i es e = true) : PE X e (tBM X.K "list" (rMu E.hf m) (tVar i) (TAv E false es)) ∧ noComp e = true := by
  match e, h with
  | .Call (.Attribute (.Name x px) a ap) xs [] cp, h =>
    simp only [okMu, okVar, Bool.and_eq_true, decide_eq_true_eq] at h
    obtain ⟨⟨⟨⟨⟨⟨h1, h2⟩, h3⟩, h4⟩, h5⟩, h6⟩, h7⟩ := h
    subst h4
    obtain ⟨d1, d2⟩ := dbg_of h3
    refine ⟨?_, rfl⟩
    have pv := pe_var (X := X) (i := i) (pos := px) (by rw [ok.N]; exact h1) (vis_of ok h2) d1 d2
    have pa := sndEs es ok xs h5 false
    have hs := isEs_star h5
    have mu := mu_ok (X := X) (hf := E.hf) ok.un m
    have sl : PySem.Slot "list" (muStr m) (muId m) ∧ typeOf (.builtin (muId m)) = pure (.type "method_descriptor") := by
      cases m with
      | append => exact ⟨F.slot_list_append, F.type_list_append⟩
      | extend => exact ⟨F.slot_list_extend, F.type_list_extend⟩
      | remove => exact ⟨F.slot_list_remove, F.type_list_remove⟩
      | pop => exact ⟨F.slot_list_pop, F.type_list_pop⟩
    cases xs with
    | nil =>
      have el := isEs_len h5
      have en : es = [] := List.eq_nil_of_length_eq_zero el.symm
      subst en
      refine PE_imp (pe_bm0 F.plainAttrs_list sl.1 sl.2 mu pv rfl h6) fun σ H Q ⟨v, hv, ty, q⟩ => ⟨v, hv, ty, tav_end q⟩
    | cons y ys =>
      simp only [List.all_cons, Bool.and_eq_true] at hs
      have few : ∀ {cp : Pos} {l : List Expr}, l.all noStar = true → (backTo cp (starEach l X.env)).all (fun x => !x.1) = true := by
        intro cp l
        induction l with
        | nil => intro _; rfl
        | cons z zs ih =>
          intro h
          simp only [List.all_cons, Bool.and_eq_true] at h
          rw [star_cons h.1]
          show (true && (backTo cp (starEach zs X.env)).all (fun x => !x.1)) = true
          rw [ih h.2]
          rfl
      refine pe_bm F.plainAttrs_list sl.1 sl.2 mu pv pa rfl ?_ h6 (star_cons hs.1) (star_any hs.2)
      rw [few (by simp [hs])]
      simp only [Bool.true_and, Bool.and_eq_true, decide_eq_true_eq]
      refine ⟨rfl, ?_⟩
      simp at h7 ⊢
      omega
/-- a method's answer dropped -/
theorem mut_read {fz : List Nat} {m : Mu} {i : Nat} {es : List IE} {D0 : Ends} {σ : L2.St} {H : Hp} (h : TSv E (.mut fz m i es) D0 σ H) : tBM X.K "list" (rMu E.hf m) (tVar i) (TAv E false es) σ H fun _ H1 => D0.nx σ H1 := by
  obtain ⟨c, ad, env, ps, so, R, w⟩ := h
  obtain ⟨R1, s1⟩ := R.freeze so fz
  simp only [ex] at w
  obtain ⟨xs, e0, w1⟩ := wp_opt.mp (Out.wp_bind.mp w)
  refine mu_read R1 (ownLst_inv e0) w1 fun d' r p v H1 us' R2 s2 rv w2 => ?_
  have w3 : ∀ ad' σ' H', Rl E c ad' ((freeze fz env).set i (.ow d')) p σ' H' → Stp (OO c ad env) H (OO c ad' ((freeze fz env).set i (.ow d'))) H' → D0.nx σ' H' := w2
  exact w3 ad σ _ R2 ((Stp.less s1).trans s2)
theorem mutA_read {fz : List Nat} {m : Mu} {i j : Nat} {es : List IE} {D0 : Ends} {σ : L2.St} {H : Hp} (hp : j ≠ E.pi) (h : TSv E (.mutA fz j m i es) D0 σ H) : tBM X.K "list" (rMu E.hf m) (tVar i) (TAv E false es) σ H fun v H1 => D0.nx (σ.set j (some v)) H1 := by
  obtain ⟨c, ad, env, ps, so, R, w⟩ := h
  obtain ⟨R1, s1⟩ := R.freeze so fz
  simp only [ex] at w
  obtain ⟨xs, e0, w1⟩ := wp_opt.mp (Out.wp_bind.mp w)
  refine mu_read R1 (ownLst_inv e0) w1 fun d' r p v H1 us' R2 s2 rv w2 => ?_
  obtain ⟨env', e1, w3⟩ := wp_opt.mp (Out.wp_bind.mp w2)
  have w4 : ∀ ad' σ' H', Rl E c ad' env' p σ' H' → Stp (OO c ad env) H (OO c ad' env') H' → D0.nx σ' H' := w3
  simp only [asgT] at e1
  split at e1
  · rename_i hi
    cases e1
    exact w4 ad _ _ (R2.setVa hi hp rv) (((Stp.less s1).trans s2).trans (Stp.less fun a => oo_set a))
  · cases e1
/-- while -/
theorem whl_read {fz : List Nat} {cd : IE} {body : List IS} {D0 : Ends} {σ : L2.St} {H : Hp} (h : TSv E (.whl fz cd body) D0 σ H) : tWhile (TTv E true cd) (TSsv E body) D0 σ H := by
  obtain ⟨c, ad, env, ps, so, R, w⟩ := h
  obtain ⟨R1, s1⟩ := R.freeze so fz
  simp only [ex] at w
  generalize hcf : (fun env p => (ev E.F true cd env p).bind fun d p => opt (tru d) p : Env → M Bool) = cf at w
  generalize hbf : (fun env p => exs E.F body env p : Env → M Fl) = bf at w
  refine ⟨fun n σ H => ∃ c ad env ps, SOk c ∧ Rl E c ad env ps σ H ∧ (whlL cf bf n env ps).Wp (fun fl ps' => FlOk E c (OO c ad env) H D0 fl ps') E.xq, ⟨fuel, c, ad, _, ps, so, R1, w.mono (fun fl p _ w1 => w1.from (Stp.less s1)) fun _ _ _ _ h => h⟩, ?_⟩
  rintro n σ H ⟨c, ad, env, ps, so, R, w⟩
  cases n with
  | zero => exact w.elim
  | succ n =>
    simp only [whlL] at w
    have w1 := Out.wp_bind.mp w
    have ec : cf env ps = (ev E.F true cd env ps).bind fun d p => opt (tru d) p := by rw [← hcf]
    rw [ec] at w1
    refine ⟨c, ad, env, ps, R, (Out.wp_bind.mp w1).mono (fun d p1 _ w2 => ?_) fun _ _ _ _ h => h⟩
    obtain ⟨t, e1, w3⟩ := wp_opt.mp w2
    refine ⟨t, e1, fun H1 k1 q1 => ?_⟩
    have R2 := R.step k1 q1
    cases t with
    | false =>
      have w4 : FlOk E c (OO c ad env) H D0 (.nx env) p1 := w3
      exact w4 ad σ H1 R2 (kb_stp R k1)
    | true =>
      refine ⟨fun σ H => ∃ c ad env ps, SOk c ∧ Rl E c ad env ps σ H ∧ (whlL cf bf n env ps).Wp (fun fl ps' => FlOk E c (OO c ad env) H D0 fl ps') E.xq, fun σ' H' q => ⟨n, Nat.lt_succ_self _, q⟩, c, ad, env, p1, so, R2, ?_⟩
      have w4 : ((bf env p1).bind fun r p => match r with | .nx env | .ct env => whlL cf bf n env p | .rt d => Out.ok (.rt d) p | .br env => Out.ok (.nx env) p).Wp (fun fl ps' => FlOk E c (OO c ad env) H D0 fl ps') E.xq := w3
      have eb : bf env p1 = exs E.F body env p1 := by rw [← hbf]
      rw [eb] at w4
      refine (Out.wp_bind.mp w4).mono (fun r p2 _ w5 => ?_) fun _ _ _ _ h => h
      cases r with
      | nx env' => exact fun ad' σ' H' R' s' => ⟨c, ad', env', p2, so, R', Out.Wp.mono w5 (fun fl p _ w6 => FlOk.from w6 ((kb_stp R k1).trans s')) fun _ _ _ _ h => h⟩
      | ct env' => exact fun ad' σ' H' R' s' => ⟨c, ad', env', p2, so, R', Out.Wp.mono w5 (fun fl p _ w6 => FlOk.from w6 ((kb_stp R k1).trans s')) fun _ _ _ _ h => h⟩
      | rt d =>
        have w6 : FlOk E c (OO c ad env) H D0 (.rt d) p2 := w5
        exact w6
      | br env' =>
        have w6 : FlOk E c (OO c ad env) H D0 (.nx env') p2 := w5
        exact fun ad' σ' H' R' s' => w6 ad' σ' H' R' ((kb_stp R k1).trans s')
theorem bs_of {hf : D → Int} {H : Hp} {O : Addr → Prop} : ∀ {ds : List D} {vs : List V}, Rs hf H O ds vs → Bs hf H O ds vs
  | [], vs, h => by
    simp only [Rs] at h
    subst h
    trivial
  | d :: ds, vs, h => by
    obtain ⟨v, r, rfl, h1, h2⟩ := h.inv
    exact ⟨h1.1, bs_of h2⟩
/-- for -/
theorem frs_read {fz : List Nat} {tg : Tg} {k : ItK} {args : List IE} {body : List IS} {D0 : Ends} {σ : L2.St} {H : Hp} {ta : TA} (hta : ∀ σ H R, TAv E false args σ H R → ta σ H R) (h : TSv E (.frs fz tg k args body) D0 σ H) : tFor (iD E.hf ta k) (TGv E tg) (TSsv E body) D0 σ H := by
  obtain ⟨c, ad, env, ps, so, R, w⟩ := h
  obtain ⟨R1, s1⟩ := R.freeze so fz
  simp only [ex] at w
  refine hta _ _ _ ⟨c, ad, _, ps, R1, (Out.wp_bind.mp w).mono (fun ds p1 _ w1 => fun vs H1 k1 q1 r1 => ?_) fun _ _ _ _ h => h⟩
  obtain ⟨xs, ex', w2⟩ := wp_opt.mp (Out.wp_bind.mp w1)
  have R2 := R1.step k1 q1
  refine ⟨OO c ad (freeze fz env), ds, xs, R2.dom, r1.bs, ex', fun J' hJ => ?_⟩
  generalize hfn : (fun x env p => (opt (asgT tg x env) p).bind fun env p => exs E.F body env p : D → Env → M Fl) = fn at w2
  have st0 : Stp (OO c ad env) H (OO c ad (freeze fz env)) H1 := (Stp.less s1).trans (kb_stp R1 k1)
  have rs0 := r1.rs
  refine ⟨fun i m σ' H' => m = xs.length - i ∧ i ≤ xs.length ∧ ∃ ad' env' p, Rl E c ad' env' p σ' H' ∧ Stp (OO c ad (freeze fz env)) H1 (OO c ad' env') H' ∧ (forL fn (xs.drop i) env' p).Wp (fun fl ps' => FlOk E c (OO c ad' env') H' D0 fl ps') E.xq,
    ⟨xs.length, by simp, Nat.zero_le _, ad, _, p1, R2, Stp.refl, by simpa using Out.Wp.mono w2 (fun fl p _ w3 => FlOk.from w3 st0) fun _ _ _ _ h => h⟩, ?_⟩
  rintro i m σ' H' ⟨rfl, hi, ad', env', p, R3, s3, w3⟩
  have bsrc : Bs E.hf H' (OO c ad' env') ds vs := by
    exact bs_of (s3.rs rs0)
  by_cases hlt : i < xs.length
  · rw [List.drop_eq_getElem_cons hlt] at w3
    simp only [forL] at w3
    refine .inr ⟨hJ.goes _ _ _ bsrc hlt, fun σ2 H2 => ∃ ad' env' p, Rl E c ad' env' p σ2 H2 ∧ Stp (OO c ad (freeze fz env)) H1 (OO c ad' env') H2 ∧ (forL fn (xs.drop (i + 1)) env' p).Wp (fun fl ps' => FlOk E c (OO c ad' env') H2 D0 fl ps') E.xq, fun σ2 H2 q => ⟨xs.length - (i + 1), by omega, rfl, hlt, q⟩, fun x H2 y => ?_⟩
    obtain ⟨sm, rx⟩ := hJ.yields _ _ _ _ _ R3.dom bsrc y xs[i] (List.getElem?_eq_getElem hlt)
    have w4 := Out.wp_bind.mp w3
    have ef : fn xs[i] env' p = (opt (asgT tg xs[i] env') p).bind fun env p => exs E.F body env p := by rw [← hfn]
    rw [ef] at w4
    obtain ⟨env1, e1, w5⟩ := wp_opt.mp (Out.wp_bind.mp w4)
    refine ⟨c, ad', env', p, xs[i], env1, R3.same sm, rx, e1, fun σ2 l2 o2 s2 R4 => ⟨c, ad', env1, p, so, R4, ?_⟩⟩
    have st4 : Stp (OO c ad' env') H' (OO c ad' env1) H2 := (kb_stp R3 (Same.kb sm)).trans (Stp.less s2)
    refine Out.Wp.mono w5 (fun r p2 _ w6 => ?_) fun _ _ _ _ h => h
    cases r with
    | nx env2 => exact fun ad2 σ3 H3 R5 s5 => ⟨ad2, env2, p2, R5, (s3.trans st4).trans s5, Out.Wp.mono w6 (fun fl p _ w7 => FlOk.from w7 (st4.trans s5)) fun _ _ _ _ h => h⟩
    | ct env2 => exact fun ad2 σ3 H3 R5 s5 => ⟨ad2, env2, p2, R5, (s3.trans st4).trans s5, Out.Wp.mono w6 (fun fl p _ w7 => FlOk.from w7 (st4.trans s5)) fun _ _ _ _ h => h⟩
    | rt d =>
      have w7 : FlOk E c (OO c ad' env') H' D0 (.rt d) p2 := w6
      exact w7
    | br env2 =>
      have w7 : FlOk E c (OO c ad' env') H' D0 (.nx env2) p2 := w6
      exact fun ad2 σ3 H3 R5 s5 => w7 ad2 σ3 H3 R5 (st4.trans s5)
  · have ei : i = xs.length := by omega
    subst ei
    rw [List.drop_eq_nil_of_le (Nat.le_refl _)] at w3
    have w4 : FlOk E c (OO c ad' env') H' D0 (.nx env') p := w3
    exact .inl ⟨hJ.stops _ _ bsrc, w4 ad' σ' H' R3 Stp.refl⟩
end
end Ev
set_option maxHeartbeats 20000000
/-! The statements' walk, joined. -/
namespace Ev
open PySem PySem.Spec PyProof.Rows L2
section
variable {X : Cx} {J : Inf} {E : EC} {sc : Scope}
theorem swapsWith_lc {elt : Expr} {gs : List Comprehension} {scope : Scope} {pos py : Pos} {y : Str} {l : Nat} {env : PySem.Env} : ∃ t : Bool, swapsWith (.ListComp elt gs scope pos) (some (.Name y py)) l env = pure t ∧ (t = true → env.kindOf y = some .local) := by
  unfold swapsWith
  refine ⟨_, rfl, fun h => ?_⟩
  simp only [Bool.and_eq_true, beq_iff_eq] at h
  exact h.1.1.2
theorem ps_asg_e (ok : SOkX X J E sc) {fz : List Nat} {i : Nat} {fr : Bool} {e : IE} {x : Str} {px pos : Pos} {v : Expr} (h1 : J.N[i]? = some x) (h2 : locB sc fbT x = true) (h3 : i ≠ J.pi) (h4 : fr = true → isFr e = true) (h5 : isE J sc false e v = true) : L2.PS X (.Assign [.Name x px] v pos) (TSv E (.asg fz i fr e)) := by
  obtain ⟨hl, hf⟩ := loc_of ok h2
  have hp : i ≠ E.pi := by rw [ok.pi]; exact h3
  have hN : X.N[i]? = some x := by rw [ok.N]; exact h1
  have pe := (sndE e ok.toXOk v).1 h5 false
  by_cases hc : noComp v = true
  · exact PS_imp (ps_set ok.nd hN hl pe (swaps_no hc) hf) fun D0 σ H q => asg_read hp h4 q
  · cases v with
    | ListComp y gens scope lp =>
      obtain ⟨t, ht, hk⟩ := swapsWith_lc (elt := y) (gs := gens) (scope := scope) (pos := lp) (py := px) (y := x) (l := pos.line) (env := X.env)
      cases t with
      | false => exact PS_imp (ps_set ok.nd hN hl pe ht hf) fun D0 σ H q => asg_read hp h4 q
      | true =>
        have hloc : X.env.scope.names.lookup x = some .local := hk rfl
        cases e with
        | lc own tg k args cond elt =>
          match gens, h5, ht with
          | [⟨te, it, ifs, 0⟩], h5, ht =>
            simp only [isE, Bool.and_eq_true, decide_eq_true_eq, List.all_eq_true] at h5
            obtain ⟨⟨⟨⟨⟨⟨⟨⟨g1, g2⟩, g3⟩, g4⟩, g5⟩, g5'⟩, g6⟩, g7⟩, g8⟩ := h5
            have hb : BlkOk X.N X.env.scope scope own := by
              rw [ok.N, ok.sc]
              exact blkOk_by g1
            obtain ⟨ta, hta, pi⟩ := sndI args ok.toXOk true k te it g5 g5'
            exact PS_imp (ps_setLc ok.calm ok.nd hN hloc ht pi hb (fun s H C cl fp => sndG (ok.toXOk.blk s H scope C cl fp) (fun x hx => hx) tg te g2) (fun s H C cl fp => sndCs cond (ok.toXOk.blk s H scope C cl fp) ifs g6)
              (fun s H C cl fp => (sndE elt (ok.toXOk.blk s H scope C cl fp) y).1 g7 false) (fun x => by cases it <;> first | rfl | cases g8)) fun D0 σ H q => lc_read hta g3 (by rw [ok.pi]; exact g4) (asg_read hp h4 q)
        | _ => simp [isE] at h5
    | SetComp _ _ _ _ => cases e <;> simp [isE] at h5
    | DictComp _ _ _ _ _ => cases e <;> simp [isE] at h5
    | _ => exact absurd rfl hc
theorem ps_par_e (ok : SOkX X J E sc) {fz : List Nat} {ts : List (Tg × Bool)} {es : List IE} {tes vs : List Expr} {kt k2 : Nat} {pt pt2 pos : Pos} (h : par2 J sc ts es tes vs = true ∨ par3 J sc ts es tes vs = true ∨ par0 J sc ts es tes vs = true) :
    L2.PS X (.Assign [.Tuple tes kt pt] (.Tuple vs k2 pt2) pos) (TSv E (.par fz ts es)) := by
  rcases h with h | h | h
  · match ts, es, tes, vs, h with
    | [(.nm i, f), (.nm j, g)], [e1, e2], [.Name x px, .Name y py], [v1, v2], h =>
      simp only [par2, Bool.and_eq_true, decide_eq_true_eq, Bool.not_eq_true', Bool.or_eq_true] at h
      obtain ⟨⟨⟨⟨⟨⟨⟨⟨⟨⟨⟨⟨⟨⟨⟨⟨a1, a2⟩, a3⟩, a4⟩, a5⟩, a6⟩, a7⟩, a8⟩, a9⟩, a10⟩, a11⟩, a12⟩, a13⟩, a14⟩, a15⟩, a16⟩, a17⟩ := h
      have p1 := (sndE e1 ok.toXOk v1).1 a14 false
      have p2 := (sndE e2 ok.toXOk v2).1 a15 false
      have pa := pa_cons p1 (pa_cons p2 pa_nil (star_cons a11)) (star_cons a10)
      have hx := (kind_loc ok.sc a6).2
      have hy := (kind_loc ok.sc a7).2
      refine PS_imp (ps_par ok.calm ok.nd (by rw [ok.N]; exact a1) (by rw [ok.N]; exact a2) a3 hx hy pa (stores2 ok.sc ok.kind a6 a7 a8 a9 a10 a11 a12 a13) swaps_tup) fun D0 σ H q => ?_
      have hp : ∀ l ∈ [i, j], l ≠ E.pi := by
        rw [ok.pi]
        simp [a4, a5]
      have q := par_read (is := [i, j]) (fs := [f, g]) hp rfl q
      have imp1 : f = true → isFr e1 = true := fun e => a16.elim (fun z => by rw [e] at z; cases z) id
      have imp2 : g = true → isFr e2 = true := fun e => a17.elim (fun z => by rw [e] at z; cases z) id
      obtain ⟨c, ad, env, ps, R, w⟩ := tpv_cons imp1 q
      refine ⟨c, ad, env, ps, R, w.mono (fun d p _ w1 => w1.imp fun v H1 _ _ q1 => ?_) fun _ _ _ _ h => h⟩
      obtain ⟨c, ad, env, ps, R, w⟩ := tpv_cons imp2 q1
      refine ⟨c, ad, env, ps, R, w.mono (fun d p _ w1 => w1.imp fun u H2 _ _ q2 => ?_) fun _ _ _ _ h => h⟩
      exact ⟨v, u, rfl, (tpv_nil q2).1⟩
  · match ts, es, tes, vs, h with
    | [(.nm i, f), (.nm j, g), (.nm k, l)], [e1, e2, e3], [.Name x px, .Name y py, .Name z pz], [v1, v2, v3], h =>
      simp only [par3, Bool.and_eq_true, decide_eq_true_eq, Bool.not_eq_true', Bool.or_eq_true] at h
      obtain ⟨⟨⟨⟨⟨⟨⟨⟨⟨⟨⟨⟨⟨⟨⟨⟨⟨⟨⟨⟨⟨⟨⟨⟨⟨⟨⟨a1, a2⟩, a3⟩, b1⟩, b2⟩, b3⟩, b4⟩, b5⟩, b6⟩, c1⟩, c2⟩, c3⟩, d1⟩, d2⟩, d3⟩, d4⟩, d5⟩, n1⟩, n2⟩, n3⟩, f1⟩, f2⟩, g1⟩, g2⟩, g3⟩, i1⟩, i2⟩, i3⟩ := h
      have p1 := (sndE e1 ok.toXOk v1).1 g1 false
      have p2 := (sndE e2 ok.toXOk v2).1 g2 false
      have p3 := (sndE e3 ok.toXOk v3).1 g3 false
      have pa := pa_cons p1 (pa_cons p2 (pa_cons p3 pa_nil (star_cons n3)) (star_cons n2)) (star_cons n1)
      have hx := (kind_loc ok.sc c1).2
      have hy := (kind_loc ok.sc c2).2
      have hz := (kind_loc ok.sc c3).2
      refine PS_imp (ps_par3 ok.calm ok.nd (by rw [ok.N]; exact a1) (by rw [ok.N]; exact a2) (by rw [ok.N]; exact a3) b1 b2 b3 hx hy hz pa (stores3 ok.sc ok.kind c1 c2 c3 d1 d2 d3 d4 d5 n1 n2 n3 f1 f2) swaps_tup) fun D0 σ H q => ?_
      have hp : ∀ m ∈ [i, j, k], m ≠ E.pi := by
        rw [ok.pi]
        simp [b4, b5, b6]
      have q := par_read (is := [i, j, k]) (fs := [f, g, l]) hp rfl q
      have imp1 : f = true → isFr e1 = true := fun e => i1.elim (fun z => by rw [e] at z; cases z) id
      have imp2 : g = true → isFr e2 = true := fun e => i2.elim (fun z => by rw [e] at z; cases z) id
      have imp3 : l = true → isFr e3 = true := fun e => i3.elim (fun z => by rw [e] at z; cases z) id
      obtain ⟨c, ad, env, ps, R, w⟩ := tpv_cons imp1 q
      refine ⟨c, ad, env, ps, R, w.mono (fun d p _ w1 => w1.imp fun v H1 _ _ q1 => ?_) fun _ _ _ _ h => h⟩
      obtain ⟨c, ad, env, ps, R, w⟩ := tpv_cons imp2 q1
      refine ⟨c, ad, env, ps, R, w.mono (fun d p _ w1 => w1.imp fun u H2 _ _ q2 => ?_) fun _ _ _ _ h => h⟩
      obtain ⟨c, ad, env, ps, R, w⟩ := tpv_cons imp3 q2
      refine ⟨c, ad, env, ps, R, w.mono (fun d p _ w1 => w1.imp fun t H3 _ _ q3 => ?_) fun _ _ _ _ h => h⟩
      exact ⟨v, u, t, rfl, (tpv_nil q3).1⟩
  · simp only [par0, Bool.and_eq_true, decide_eq_true_eq] at h
    obtain ⟨⟨⟨⟨h1, h2⟩, h3⟩, h4⟩, h5⟩ := h
    have ha := assign_each (env := X.env) (isTgs_star h2)
    have pg := pg_tup (X := X) (k := kt) (pos := pt) ok.calm (sndGs ok.toXOk (fun x _ => ok.fn x) (ts.map (·.1)) tes h2) (n := tes.length) (by rw [ha, List.length_map]) (by rw [ha, List.findIdx?_map]; simp)
    have pe := pe_tup (X := X) (x1 := k2) (pos := pt2) (sndEs es ok.toXOk vs h3 false)
    refine PS_imp (ps_asg pe pg swaps_tup (stores0 ok.sc h4) rfl) fun D0 σ H q => ?_
    obtain ⟨c, ad, env, ps, R, w⟩ := par_read0 h1 q
    refine ⟨c, ad, env, ps, R, w.mono (fun ds p e0 w1 => fun us H1 k1 q1 r1 => ?_) fun _ _ _ _ h => h⟩
    obtain ⟨hl, w2⟩ := w1 us H1 k1 q1 r1
    have elen : us.length = tes.length := by
      have hg := isTgs_len h2
      rw [List.length_map] at hg
      rw [hl, hg]
    refine ⟨by rw [elen, szL]; exact Nat.le_trans h5 (by decide), fun p np => ⟨p, us, rfl, SqT.of upd_same, elen, w2 p np⟩⟩
end
mutual
theorem sndS {X : Cx} {J : Inf} {E : EC} {sc : Scope} (ok : SOkX X J E sc) : ∀ (s : IS) (x : Stmt), isS J sc s x = true → L2.PS X x (TSv E s)
  | .asg fz i fr e, x, h => by
    simp only [isS, isAsg] at h
    have h' := any1_inv h
    clear h
    obtain ⟨⟨t, v, pos⟩, e1, h⟩ := h'
    have h' := any1_inv h
    clear h
    obtain ⟨⟨n, px⟩, e2, h⟩ := h'
    have f1 := asg1_inv e1
    have f2 := nameOf_inv e2
    dsimp only at f1 f2 h
    subst f1 f2
    simp only [Bool.and_eq_true, decide_eq_true_eq, Bool.or_eq_true, Bool.not_eq_true'] at h
    obtain ⟨⟨⟨⟨h1, h2⟩, h3⟩, h4⟩, h5⟩ := h
    exact ps_asg_e ok h1 h2 h3 (fun e => h4.elim (fun z => by rw [e] at z; cases z) id) h5
  | .asT fz ts e, x, h => by
    simp only [isS, isAsT] at h
    have h' := any1_inv h
    clear h
    obtain ⟨⟨t, v, pos⟩, e1, h⟩ := h'
    have h' := any1_inv h
    clear h
    obtain ⟨⟨tes, k, tp⟩, e2, h⟩ := h'
    have f1 := asg1_inv e1
    have f2 := tupOf_inv e2
    dsimp only at f1 f2 h
    subst f1 f2
    simp only [Bool.and_eq_true] at h
    obtain ⟨⟨h1, h2⟩, h3⟩ := h
    have pg := sndG (fb := fbT) ok.toXOk (fun x _ => ok.fn x) (.tp ts) (.Tuple tes k tp) (by simpa only [isTg] using h1)
    exact PS_imp (ps_asg ((sndE e ok.toXOk v).1 h3 false) pg swaps_tup (stores_nt h2) rfl) fun D0 σ H q => asT_read q
  | .par fz ts es, x, h => by
    simp only [isS, isPar] at h
    have h' := any1_inv h
    clear h
    obtain ⟨⟨t, v, pos⟩, e1, h⟩ := h'
    have h' := any1_inv h
    clear h
    obtain ⟨⟨tes, k, tp⟩, e2, h⟩ := h'
    have h' := any1_inv h
    clear h
    obtain ⟨⟨vs, k2, tp2⟩, e3, h⟩ := h'
    have f1 := asg1_inv e1
    have f2 := tupOf_inv e2
    have f3 := tupOf_inv e3
    dsimp only at f1 f2 f3 h
    subst f1 f2 f3
    simp only [Bool.or_eq_true] at h
    exact ps_par_e ok (by
      rcases h with (h | h) | h
      · exact .inl h
      · exact .inr (.inl h)
      · exact .inr (.inr h))
  | .stx fz i k v, x, h => by
    simp only [isS, isStx] at h
    have h' := any1_inv h
    clear h
    obtain ⟨⟨t, ve, pos⟩, e1, h⟩ := h'
    have h' := any1_inv h
    clear h
    obtain ⟨⟨o, ke, sp⟩, e2, h⟩ := h'
    have h' := any1_inv h
    clear h
    obtain ⟨⟨n, px⟩, e3, h⟩ := h'
    have f1 := asg1_inv e1
    have f2 := subOf_inv e2
    have f3 := nameOf_inv e3
    dsimp only at f1 f2 f3 h
    subst f1 f2 f3
    simp only [okVar, Bool.and_eq_true, decide_eq_true_eq] at h
    obtain ⟨⟨⟨⟨⟨h1, h2⟩, h3⟩, h4⟩, h5⟩, h6⟩ := h
    obtain ⟨d1, d2⟩ := dbg_of h3
    have pv := pe_var (X := X) (i := i) (pos := px) (by rw [ok.N]; exact h1) (vis_of ok.toXOk h2) d1 d2
    have pk := (sndE k ok.toXOk ke).1 h5 false
    have pg := pg_sub (X := X) (pos := sp) pv pk (set_own ok.ds) (fun v => by cases ke <;> first | rfl | cases h4)
    exact PS_imp (ps_asg ((sndE v ok.toXOk ve).1 h6 false) pg swaps_sub stores_sub rfl) fun D0 σ H q => stx_read q
  | .mut fz m i es, x, h => by
    simp only [isS, isMut] at h
    have h' := any1_inv h
    clear h
    obtain ⟨⟨c, pos⟩, e1, h⟩ := h'
    have f1 := exprOf_inv e1
    dsimp only at f1 h
    subst f1
    obtain ⟨p1, n1⟩ := pe_mu ok.toXOk h
    exact PS_imp (ps_expr p1 (swaps_no n1)) fun D0 σ H q => mut_read q
  | .mutA fz j m i es, x, h => by
    simp only [isS, isMutA] at h
    have h' := any1_inv h
    clear h
    obtain ⟨⟨t, c, pos⟩, e1, h⟩ := h'
    have h' := any1_inv h
    clear h
    obtain ⟨⟨n, py⟩, e2, h⟩ := h'
    have f1 := asg1_inv e1
    have f2 := nameOf_inv e2
    dsimp only at f1 f2 h
    subst f1 f2
    simp only [Bool.and_eq_true, decide_eq_true_eq] at h
    obtain ⟨⟨⟨h1, h2⟩, h3⟩, h4⟩ := h
    obtain ⟨p1, n1⟩ := pe_mu ok.toXOk h4
    obtain ⟨hl, hf⟩ := loc_of ok h2
    exact PS_imp (ps_set ok.nd (by rw [ok.N]; exact h1) hl p1 (swaps_no n1) hf) fun D0 σ H q => mutA_read (by rw [ok.pi]; exact h3) q
  | .exp fz e, x, h => by
    simp only [isS] at h
    have h' := any1_inv h
    clear h
    obtain ⟨⟨v, pos⟩, e1, h⟩ := h'
    have f1 := exprOf_inv e1
    dsimp only at f1 h
    subst f1
    simp only [Bool.and_eq_true] at h
    refine PS_imp (ps_expr ((sndE e ok.toXOk v).1 h.2 false) (swaps_no h.1)) fun D0 σ H ⟨c, ad, env, ps, so, R, w⟩ => ?_
    obtain ⟨R1, s1⟩ := R.freeze so fz
    simp only [ex] at w
    refine ⟨c, ad, _, ps, R1, (Out.wp_bind.mp w).mono (fun d p1 _ w1 => fun v H1 k1 q1 r1 _ => ?_) fun _ _ _ _ h => h⟩
    have w2 : ∀ ad' σ' H', Rl E c ad' (freeze fz env) p1 σ' H' → Stp (OO c ad env) H (OO c ad' (freeze fz env)) H' → D0.nx σ' H' := w1
    exact w2 ad σ H1 (R1.step k1 q1) ((Stp.less s1).trans (kb_stp R1 k1))
  | .ifs fz c a b, x, h => by
    simp only [isS] at h
    have h' := any1_inv h
    clear h
    obtain ⟨⟨t, xs, ys, pos⟩, e1, h⟩ := h'
    have f1 := ifOf_inv e1
    dsimp only at f1 h
    subst f1
    simp only [Bool.and_eq_true] at h
    refine PS_imp (ps_if ((sndE c ok.toXOk t).2 h.1.1 true) (sndSs ok a xs h.1.2) (sndSs ok b ys h.2)) fun D0 σ H ⟨c', ad, env, ps, so, R, w⟩ => ?_
    obtain ⟨R1, s1⟩ := R.freeze so fz
    simp only [ex] at w
    refine ⟨c', ad, _, ps, R1, (Out.wp_bind.mp w).mono (fun d p1 _ w1 => ?_) fun _ _ _ _ h => h⟩
    obtain ⟨t, e1, w2⟩ := wp_opt.mp (Out.wp_bind.mp w1)
    refine ⟨t, e1, fun H1 k1 q1 => ?_⟩
    have st := (Stp.less s1).trans (kb_stp R1 k1)
    cases t with
    | true =>
      have w3 : (exs E.F a (freeze fz env) p1).Wp (fun fl ps' => FlOk E c' (OO c' ad env) H D0 fl ps') E.xq := w2
      exact ⟨c', ad, _, p1, so, R1.step k1 q1, w3.mono (fun fl p _ w3 => FlOk.from w3 st) fun _ _ _ _ h => h⟩
    | false =>
      have w3 : (exs E.F b (freeze fz env) p1).Wp (fun fl ps' => FlOk E c' (OO c' ad env) H D0 fl ps') E.xq := w2
      exact ⟨c', ad, _, p1, so, R1.step k1 q1, w3.mono (fun fl p _ w3 => FlOk.from w3 st) fun _ _ _ _ h => h⟩
  | .frs fz tg k args body, x, h => by
    simp only [isS] at h
    have h' := any1_inv h
    clear h
    obtain ⟨⟨te, it, xs, pos⟩, e1, h⟩ := h'
    have f1 := forOf_inv e1
    dsimp only at f1 h
    subst f1
    simp only [Bool.and_eq_true] at h
    obtain ⟨⟨⟨⟨h1, h2⟩, h3⟩, h4⟩, h5⟩ := h
    obtain ⟨ta, hta, pi⟩ := sndI args ok.toXOk false k te it h2 h3
    exact PS_imp (ps_for ok.own ok.calm pi (sndG ok.toXOk (fun x _ => ok.fn x) tg te h1) (sndSs ok body xs h5) (fun x => by cases it <;> first | rfl | cases h4)) fun D0 σ H q => frs_read hta q
  | .whl fz c body, x, h => by
    simp only [isS] at h
    have h' := any1_inv h
    clear h
    obtain ⟨⟨t, xs, pos⟩, e1, h⟩ := h'
    have f1 := whlOf_inv e1
    dsimp only at f1 h
    subst f1
    simp only [Bool.and_eq_true] at h
    exact PS_imp (ps_while ok.own ((sndE c ok.toXOk t).2 h.1 true) (sndSs ok body xs h.2)) fun D0 σ H q => whl_read q
  | .rtn fz e, x, h => by
    simp only [isS] at h
    have h' := any1_inv h
    clear h
    obtain ⟨⟨o, pos⟩, e1, h⟩ := h'
    have h' := any1_inv h
    clear h
    obtain ⟨v, e2, h⟩ := h'
    have f1 := retOf_inv e1
    dsimp only at f1 e2 h
    subst f1 e2
    refine PS_imp (ps_ret ((sndE e ok.toXOk v).1 h false)) fun D0 σ H ⟨c, ad, env, ps, so, R, w⟩ => ?_
    obtain ⟨R1, s1⟩ := R.freeze so fz
    simp only [ex] at w
    refine ⟨c, ad, _, ps, R1, (Out.wp_bind.mp w).mono (fun d p1 _ w1 => fun v H1 k1 q1 r1 _ => ?_) fun _ _ _ _ h => h⟩
    have w2 : ∀ v H', KB c.pt c.H0 H' → PotIs c.pt H' p1 → Rp E.hf H' c.O0 d v → D0.rt v H' := w1
    refine w2 v H1 (R1.keep.trans k1) q1 ?_
    exact Rp.move (fun a o _ e => e) (fun a o n _ q => n (.inl q)) (show Rp E.hf H1 (OO c ad (freeze fz env)) d v from r1)
  | .rtnN, x, h => by
    simp only [isS] at h
    have h' := any1_inv h
    clear h
    obtain ⟨⟨o, pos⟩, e1, h⟩ := h'
    have f1 := retOf_inv e1
    dsimp only at f1 h
    subst f1
    cases o with
    | some _ => cases h
    | none =>
      refine PS_imp ps_retN fun D0 σ H ⟨c, ad, env, ps, so, R, w⟩ => ?_
      simp only [ex, ret] at w
      have w2 : ∀ v H', KB c.pt c.H0 H' → PotIs c.pt H' ps → Rp E.hf H' c.O0 .none v → D0.rt v H' := w
      exact w2 .non H R.keep R.pot .non
  | .pas, x, h => by
    simp only [isS] at h
    obtain ⟨p, rfl⟩ := isPass_inv h
    refine PS_imp ps_pass fun D0 σ H ⟨c, ad, env, ps, so, R, w⟩ => ?_
    simp only [ex, ret] at w
    have w2 : ∀ ad' σ' H', Rl E c ad' env ps σ' H' → Stp (OO c ad env) H (OO c ad' env) H' → D0.nx σ' H' := w
    exact w2 ad σ H R Stp.refl
  | .brk, x, h => by
    simp only [isS] at h
    obtain ⟨p, rfl⟩ := isBrk_inv h
    refine PS_imp ps_break fun D0 σ H ⟨c, ad, env, ps, so, R, w⟩ => ?_
    simp only [ex, ret] at w
    have w2 : ∀ ad' σ' H', Rl E c ad' env ps σ' H' → Stp (OO c ad env) H (OO c ad' env) H' → D0.bk σ' H' := w
    exact w2 ad σ H R Stp.refl
  | .cnt, x, h => by
    simp only [isS] at h
    obtain ⟨p, rfl⟩ := isCnt_inv h
    refine PS_imp ps_continue fun D0 σ H ⟨c, ad, env, ps, so, R, w⟩ => ?_
    simp only [ex, ret] at w
    have w2 : ∀ ad' σ' H', Rl E c ad' env ps σ' H' → Stp (OO c ad env) H (OO c ad' env) H' → D0.ct σ' H' := w
    exact w2 ad σ H R Stp.refl
theorem sndSs {X : Cx} {J : Inf} {E : EC} {sc : Scope} (ok : SOkX X J E sc) : ∀ (ss : List IS) (xs : List Stmt), isSs J sc ss xs = true → PSs X xs (TSsv E ss)
  | [], xs, h => by
    cases xs with
    | cons _ _ => simp [isSs] at h
    | nil =>
      refine PSs_imp pss_nil fun D0 σ H ⟨c, ad, env, ps, so, R, w⟩ => ?_
      simp only [exs, ret] at w
      have w2 : ∀ ad' σ' H', Rl E c ad' env ps σ' H' → Stp (OO c ad env) H (OO c ad' env) H' → D0.nx σ' H' := w
      exact w2 ad σ H R Stp.refl
  | s :: ss, xs, h => by
    cases xs with
    | nil => simp [isSs] at h
    | cons x xs =>
      simp only [isSs, Bool.and_eq_true] at h
      refine PSs_imp (pss_cons (sndS ok s x h.1) (sndSs ok ss xs h.2)) fun D0 σ H ⟨c, ad, env, ps, so, R, w⟩ => ?_
      simp only [exs] at w
      refine ⟨c, ad, env, ps, so, R, (Out.wp_bind.mp w).mono (fun fl p1 _ w1 => ?_) fun _ _ _ _ h => h⟩
      cases fl with
      | nx env' => exact fun ad' σ' H' R' s' => ⟨c, ad', env', p1, so, R', Out.Wp.mono w1 (fun fl p _ w2 => FlOk.from w2 s') fun _ _ _ _ h => h⟩
      | br env' => exact w1
      | ct env' => exact w1
      | rt d => exact w1
end
end Ev
/-! A def keeps its promise. -/
namespace Ev
open PySem PySem.Spec PyProof.Rows L2

def p0 : PS := ⟨[], 0, 0⟩
/-- a def without the pot: what comes does not depend on the pot, which stays -/
def runN (F : Nat → List D → M D) (body : List IS) (n : Nat) (ds : List D) : M D := fun p => match (exs F body (ds.map .va ++ List.replicate (n - ds.length) .un) p0) with
  | .ok (.nx _) _ => .ok .none p
  | .ok (.rt d) _ => .ok d p
  | _ => .bad
/-- a def with the pot (its first slot) -/
def runP (F : Nat → List D → M D) (body : List IS) (n : Nat) (ds : List D) : M D := fun p => (exs F body (.un :: (ds.map .va ++ List.replicate (n - 1 - ds.length) .un)) p).bind fun f p => match f with
  | .nx _ => .ok .none p
  | .rt d => .ok d p
  | _ => .bad
theorem runN_pure (F : Nat → List D → M D) (body : List IS) (n : Nat) (ds : List D) (p : PS) : (∃ d, runN F body n ds p = .ok d p) ∨ runN F body n ds p = .bad := by
  unfold runN
  split
  · exact .inl ⟨_, rfl⟩
  · exact .inl ⟨_, rfl⟩
  · exact .inr rfl
section
variable {P : Program} {w : World} {K : PySem.W.Frag} {mg : Str → Option Value} {base : Heap} {k : Nat} {f : Addr} {name qual : Str} {params : Arguments} {body : List Stmt} {scope : Scope} {dV kV doc pm cdv ct oc : Value} {an od : Option Addr} {osl : Array (Option Value)} {N ps : List Str}
/-- from the body to the call -/
theorem fnG_of {sp : Sp} (lk : K.lookup f = some ⟨oc, od, .func (PySem.W.fnOf name qual params body scope dV kV doc pm an cdv ct), osl⟩) (hcd : PySem.W.codeIn K cdv qual = true) (S : FnScope N ps scope)
    (hbody : ∀ (A : Around) (outer : List PySem.Env) (s : Shared) (H : Hp) (vs : List V) (Q : VK) (E : XK), Room k (A.deeper (envOfC qual scope s.heap.objs.size f cdv)) → A.guards = some [] → vs.length = ps.length → sp vs H Q E →
      ∃ t, PSs (cxOf cx0 P w K mg base N qual scope f cdv A outer s H E) body t ∧ t { nx := fun _ H' => Q .non H', rt := Q } (L2.start N vs) H) :
    FnG P w K mg base (k + 1) f (PySem.W.fnOf name qual params body scope dV kV doc pm an cdv ct) ps sp := by
  refine ⟨fun A outer s H args us vs Q E hr hg e0 hb r hl hsp => ?_⟩
  have KX : K.In s.heap := e0.mod.kin.keeps fun b o e => (e0.bs b o e).1
  have lim : s.heap.NoLimit := e0.mod.nolimit.keeps fun b o e => (e0.bs b o e).1
  have hkind : ∀ y ∈ ps.zip us, scope.names.lookup y.1 = some .local ∨ (scope.names.lookup y.1 = some .cell ∧ ((cellsFrom (s.heap.objs.size + 1) scope.names []).lookup y.1).isSome = true) := by
    rintro ⟨n, v⟩ hy
    rcases S.par n (List.of_mem_zip hy).1 with q | q
    · exact .inl q
    · exact .inr ⟨q, PySem.W.cellsFrom_some _ _ _ (.inl q)⟩
  refine codeAny_call_function hr.depth (KX _ _ lk) rfl S.co S.gen rfl (PySem.W.codeRec_of KX hcd) (hb _ _ _ _ ?_)
  refine wpAny_newFunctionEnv_cells S.kind hkind fun env he s1 x => ?_
  subst he
  refine ⟨lim.keeps x.toInCall.keep, codeAny_func ?_⟩
  obtain ⟨t, ht, hq⟩ := hbody A outer s H vs Q E (hr.deeper _) hg hl hsp
  have I : L2.Inv (cxOf cx0 P w K mg base N qual scope f cdv A outer s H E) [] (L2.start N vs) H s1 := inv_start S hr.hd e0 hl r x
  refine wpAny_mono (ht.run [] s1 (L2.start N vs) H _ I hq) (fun fl s' hs => ?_) fun e s' hs => hs
  cases fl with
  | ret u =>
    obtain ⟨v, σ', H', J, rv, q⟩ := hs
    exact ⟨v, H', J.os, J.bare, J.base, J.hok, rv, q⟩
  | next =>
    obtain ⟨σ', H', J, q⟩ := hs
    exact ⟨V.non, H', J.os, J.bare, J.base, J.hok, rfl, q⟩
  | brk =>
    obtain ⟨_, _, _, q⟩ := hs
    exact False.elim q
  | cont =>
    obtain ⟨_, _, _, q⟩ := hs
    exact False.elim q
/-- the slots at the entry -/
theorem start_get {N : List Str} {vs : List V} {i : Nat} {v : V} (h : vs[i]? = some v) : (L2.start N vs)[i]? = some (some v) := by
  unfold L2.start
  have hi := (List.getElem?_eq_some_iff.mp h).1
  rw [List.getElem?_append_left (by simpa using hi), List.getElem?_map, h]
  rfl
theorem env_get {ds : List D} {n : Nat} {i : Nat} {s : Slot} (h : (ds.map Slot.va ++ List.replicate n Slot.un)[i]? = some s) : s = .un ∨ ∃ d, ds[i]? = some d ∧ s = .va d := by
  by_cases hi : i < ds.length
  · rw [List.getElem?_append_left (by simpa using hi), List.getElem?_map] at h
    obtain ⟨d, h1, h2⟩ := Option.map_eq_some_iff.mp h
    exact .inr ⟨d, h1, h2.symm⟩
  · rw [List.getElem?_append_right (by simpa using hi), List.getElem?_replicate] at h
    split at h
    · exact .inl (by simpa using h.symm)
    · cases h
variable {J : Inf} {hf : D → Int} {F : Nat → List D → M D} {ir : List IS}
def ecOf (hf : D → Int) (F : Nat → List D → M D) (pi : Nat) (hp : Bool) : EC := ⟨hf, F, pi, hp, fun _ _ _ => False⟩
/-- what a body's context is to bear -/
def BodyOk (P : Program) (w : World) (K : PySem.W.Frag) (mg : Str → Option Value) (base : Heap) (J : Inf) (hf : D → Int) (F : Nat → List D → M D) (k : Nat) (scope : Scope) : Prop :=
  ∀ X : Cx, X.prog = P → X.w = w → X.K = K → X.mg = mg → X.base = base → X.N = J.N → X.N.Nodup → X.env.scope = scope → X.calm = true → Room k X.A → X.A.guards = some [] → (∀ x, X.fn x = true) → PassesOwn (model X.prog X.w) X.A X.env X.xe → SOkX X J (ecOf hf F J.pi J.hp) scope
theorem def_N (hp : J.hp = false) (hN : J.N = N) (lk : K.lookup f = some ⟨oc, od, .func (PySem.W.fnOf name qual params body scope dV kV doc pm an cdv ct), osl⟩) (hcd : PySem.W.codeIn K cdv qual = true) (S : FnScope N ps scope) (hok : BodyOk P w K mg base J hf F k scope) (hm : isSs J scope ir body = true) :
    FnG P w K mg base (k + 1) f (PySem.W.fnOf name qual params body scope dV kV doc pm an cdv ct) ps (SpG hf false (runN F ir N.length)) := by
  subst hN
  refine fnG_of lk hcd S fun A outer s H vs Q E hr hg hl hsp => ?_
  have ok := hok (cxOf cx0 P w K mg base J.N qual scope f cdv A outer s H E) rfl rfl rfl rfl rfl rfl S.nd rfl rfl hr hg (fun _ => rfl) (L2.passes_of rfl)
  refine ⟨_, sndSs ok ir body hm, ?_⟩
  obtain ⟨O, ds, ps', pt, vs', dm, pi, po, hpt, rs, wp⟩ := hsp
  obtain ⟨rfl, rfl⟩ := hpt
  have hpl : ps.length ≤ J.N.length := by have := congrArg List.length S.pre; rw [List.length_take] at this; omega
  have hlen := rs.length
  refine ⟨⟨O, H, none⟩, fun _ => 0, ds.map .va ++ List.replicate (J.N.length - ds.length) .un, p0, fun a h => dm.no h, ?_, ?_⟩
  · have nw : ∀ {i : Nat} {d : D}, (ds.map Slot.va ++ List.replicate (J.N.length - ds.length) Slot.un)[i]? ≠ some (.ow d) := fun {i d} h => by
      rcases env_get h with e | ⟨d, _, e⟩ <;> cases e
    have oe : OO (⟨O, H, none⟩ : RC) (fun _ => 0) (ds.map Slot.va ++ List.replicate (J.N.length - ds.length) Slot.un) = O := by
      funext a
      refine propext ⟨fun h => ?_, fun h => .inl h⟩
      rcases h with h | ⟨i, d, h, _⟩
      · exact h
      · exact absurd h nw
    refine ⟨?_, fun i d h => ?_, fun i d h => absurd h nw, fun i j d e h => absurd h nw, by rw [oe]; exact dm, KB.refl _, trivial, fun a h => h.elim, fun P C h => (by cases h), fun h => ?_⟩
    · unfold L2.start
      simp
      omega
    · rcases env_get h with e | ⟨d', h1, e⟩
      · cases e
      · cases e
        obtain ⟨v, hv, rv⟩ := rs.get h1
        exact ⟨v, start_get hv, by rw [oe]; exact rv⟩
    · rw [show (ecOf hf F J.pi J.hp).hp = J.hp from rfl, hp] at h
      cases h
  · unfold runN at wp
    have e0 : (ecOf hf F J.pi J.hp).F = F := rfl
    rw [e0]
    cases hx : exs F ir (ds.map Slot.va ++ List.replicate (J.N.length - ds.length) Slot.un) p0 with
    | ok fl p =>
      rw [hx] at wp
      cases fl with
      | nx env' =>
        intro ad' σ' H' R s'
        exact wp .non H' R.keep trivial .non
      | rt d =>
        intro v H' kb _ rv
        exact wp v H' kb trivial rv
      | br env' => exact wp.elim
      | ct env' => exact wp.elim
    | exc c fs p =>
      rw [hx] at wp
      exact wp.elim
    | bad =>
      rw [hx] at wp
      exact wp.elim
theorem def_P (hp : J.hp = true) (hpi : J.pi = 0) (hN : J.N = N) (h1 : 1 ≤ ps.length) (lk : K.lookup f = some ⟨oc, od, .func (PySem.W.fnOf name qual params body scope dV kV doc pm an cdv ct), osl⟩) (hcd : PySem.W.codeIn K cdv qual = true) (S : FnScope N ps scope) (hok : BodyOk P w K mg base J hf F k scope) (hm : isSs J scope ir body = true) :
    FnG P w K mg base (k + 1) f (PySem.W.fnOf name qual params body scope dV kV doc pm an cdv ct) ps (SpG hf true (runP F ir N.length)) := by
  subst hN
  refine fnG_of lk hcd S fun A outer s H vs Q E hr hg hl hsp => ?_
  have ok := hok (cxOf cx0 P w K mg base J.N qual scope f cdv A outer s H E) rfl rfl rfl rfl rfl rfl S.nd rfl rfl hr hg (fun _ => rfl) (L2.passes_of rfl)
  refine ⟨_, sndSs ok ir body hm, ?_⟩
  obtain ⟨O, ds, ps', pt, vs', dm, pi, po, ⟨PA, CA, rfl, rfl⟩, rs, wp⟩ := hsp
  have hpl : ps.length ≤ J.N.length := by have := congrArg List.length S.pre; rw [List.length_take] at this; omega
  have hlen := rs.length
  simp only [List.length_cons] at hl
  refine ⟨⟨O, H, some (PA, CA)⟩, fun _ => 0, .un :: (ds.map .va ++ List.replicate (J.N.length - 1 - ds.length) .un), ps', fun a h => dm.no h, ?_, ?_⟩
  · have get : ∀ {i : Nat} {s : Slot}, (Slot.un :: (ds.map Slot.va ++ List.replicate (J.N.length - 1 - ds.length) Slot.un))[i]? = some s → s = .un ∨ ∃ d j, i = j + 1 ∧ ds[j]? = some d ∧ s = .va d := fun {i s} h => by
      cases i with
      | zero =>
        simp at h
        exact .inl h.symm
      | succ j =>
        simp only [List.getElem?_cons_succ] at h
        rcases env_get h with e | ⟨d, h1, h2⟩
        · exact .inl e
        · exact .inr ⟨d, j, rfl, h1, h2⟩
    have nw : ∀ {i : Nat} {d : D}, (Slot.un :: (ds.map Slot.va ++ List.replicate (J.N.length - 1 - ds.length) Slot.un))[i]? ≠ some (.ow d) := fun {i d} h => by
      rcases get h with e | ⟨d, j, _, _, e⟩ <;> cases e
    have oe : OO (⟨O, H, some (PA, CA)⟩ : RC) (fun _ => 0) (Slot.un :: (ds.map Slot.va ++ List.replicate (J.N.length - 1 - ds.length) Slot.un)) = O := by
      funext a
      refine propext ⟨fun h => ?_, fun h => .inl h⟩
      rcases h with h | ⟨i, d, h, _⟩
      · exact h
      · exact absurd h nw
    refine ⟨?_, fun i d h => ?_, fun i d h => absurd h nw, fun i j d e h => absurd h nw, by rw [oe]; exact dm, KB.refl _, pi, fun a h => ⟨po a h, dm.no (po a h)⟩, fun P C h => ?_, fun _ h => (by cases h)⟩
    · unfold L2.start
      simp
      omega
    · rcases get h with e | ⟨d', j, hj, h1, e⟩
      · cases e
      · cases e
        subst hj
        obtain ⟨v, hv, rv⟩ := rs.get h1
        exact ⟨v, start_get (by simpa using hv), by rw [oe]; exact rv⟩
    · cases h
      rw [show (ecOf hf F J.pi J.hp).pi = J.pi from rfl, hpi]
      exact start_get rfl
  · unfold runP at wp
    have e0 : (ecOf hf F J.pi J.hp).F = F := rfl
    rw [e0]
    refine (Out.wp_bind.mp wp).mono (fun fl p _ w1 => ?_) fun _ _ _ _ h => h
    cases fl with
    | nx env' =>
      intro ad' σ' H' R s'
      exact w1 .non H' R.keep R.pot .non
    | rt d =>
      intro v H' kb q rv
      exact w1 v H' kb q rv
    | br env' => exact w1.elim
    | ct env' => exact w1.elim
end
end Ev
/-! A text's defs, one behind another. -/
namespace Ev
open PySem PySem.Spec PyProof.Rows L2

/-- a def as others call it: its name, with the pot or not, what it computes, the ways it is called -/
structure Cal where
  name : Str
  pot : Bool
  G : List D → M D
  shapes : List (Nat × List Str × List Nat)
def calF (cs : List Cal) : Nat → List D → M D := fun f => match cs[f]? with
  | some c => c.G
  | none => fun _ _ => .bad
def mkShapes : Nat → List Cal → List (Nat × Nat × List Str × List Nat)
  | _, [] => []
  | i, c :: cs => c.shapes.map (fun q => (i, q)) ++ mkShapes (i + 1) cs
def mkJ (N : List Str) (pi : Nat) (hp : Bool) (cs : List Cal) (ks : List (Str × Int)) : Inf := ⟨N, pi, hp, cs.map fun c => (c.name, c.pot), mkShapes 0 cs, ks⟩
theorem mkShapes_at : ∀ (cs : List Cal) (i f : Nat) (c : Cal), cs[f]? = some c → ((mkShapes i cs).filter fun q => q.1 == i + f).map (·.2) = c.shapes
  | [], _, _, _, h => by simp at h
  | c :: cs, i, f, d, h => by
    have hi : ∀ (cs : List Cal) (j : Nat) (k : Nat), k < j → ((mkShapes j cs).filter fun q => q.1 == k) = [] := by
      intro cs
      induction cs with
      | nil => intros; rfl
      | cons c cs ih =>
        intro j k hk
        simp only [mkShapes, List.filter_append]
        rw [ih (j + 1) k (by omega), List.append_nil, List.filter_eq_nil_iff]
        intro q hq
        obtain ⟨z, _, rfl⟩ := List.mem_map.mp hq
        simp
        omega
    simp only [mkShapes, List.filter_append, List.map_append]
    cases f with
    | zero =>
      simp only [List.getElem?_cons_zero, Option.some.injEq] at h
      subst h
      rw [Nat.add_zero, hi cs (i + 1) i (by omega), List.map_nil, List.append_nil]
      have : (c.shapes.map (fun q => (i, q))).filter (fun q => q.1 == i) = c.shapes.map (fun q => (i, q)) := by
        rw [List.filter_eq_self]
        intro q hq
        obtain ⟨z, _, rfl⟩ := List.mem_map.mp hq
        simp
      rw [this, List.map_map]
      exact List.map_id'' (fun _ => rfl) _
    | succ f =>
      rw [List.getElem?_cons_succ] at h
      have ih := mkShapes_at cs (i + 1) f d h
      have e1 : (c.shapes.map (fun q => (i, q))).filter (fun q => q.1 == i + (f + 1)) = [] := by
        rw [List.filter_eq_nil_iff]
        intro q hq
        obtain ⟨z, _, rfl⟩ := List.mem_map.mp hq
        simp
      rw [e1, List.map_nil, List.nil_append, show i + (f + 1) = i + 1 + f by omega]
      exact ih
section
variable {P : Program} {w : World} {K : PySem.W.Frag} {mg : Str → Option Value} {base : Heap}
/-- a def that keeps what it promises -/
structure DefOk (P : Program) (w : World) (K : PySem.W.Frag) (mg : Str → Option Value) (base : Heap) (k : Nat) (c : Cal) : Prop where
  ok : ∃ (fa : Addr) (fd : FuncData) (ps : List Str), mg c.name = some (.ref fa) ∧ PySem.W.keepIn K (.ref fa) = true ∧ FnG P w K mg base k fa fd ps (SpG (hfW w) c.pot c.G) ∧ ∀ q ∈ c.shapes, Shape K fd ps q.1 q.2.1 q.2.2
  pure : c.pot = false → ∀ ds ps, (∃ d, c.G ds ps = .ok d ps) ∨ c.G ds ps = .bad
theorem DefOk.mono {j k : Nat} {c : Cal} (h : DefOk P w K mg base j c) (hk : j ≤ k) : DefOk P w K mg base k c :=
  ⟨let ⟨fa, fd, ps, h1, h2, h3, h4⟩ := h.ok; ⟨fa, fd, ps, h1, h2, h3.mono hk, h4⟩, h.pure⟩
/-- what the top has left, besides -/
structure TopOk (mg : Str → Option Value) (base : Heap) (ks : List (Str × Int)) : Prop where
  sm : ∃ o, base.get? sysModules = some o
  bl : ∀ x ∈ blNames, mg x = none
  cs : ∀ x n, (x, n) ∈ ks → ∃ t, mg x = some (.int n t)
theorem bodyOk {N : List Str} {pi : Nat} {hp : Bool} {cs : List Cal} {ks : List (Str × Int)} {k : Nat} {scope : Scope} (T : TopOk mg base ks) (hk : scope.kind = .function) (hc : ∀ c ∈ cs, DefOk P w K mg base k c) :
    BodyOk P w K mg base (mkJ N pi hp cs ks) (hfW w) (calF cs) k scope := by
  intro X e1 e2 e3 e4 e5 e6 nd esc calm hr hg hfn own
  subst e1 e2 e3 e4 e5
  have un : X.A.units + 70 < cLine := by have := hr.un; omega
  refine { sc := esc, N := e6, nd := nd, calm := calm, un := un, gd := hg, sm := T.sm, bl := T.bl, cs := T.cs, pi := rfl, hp := rfl, nx := fun _ _ _ h => h, pure := fun f x h ds ps => ?_, call := fun f x pot h => ?_, fn := hfn, kind := by rw [esc]; exact hk, own := own, ds := dictSet un }
  · have h' : (cs.map fun c => (c.name, c.pot))[f]? = some (x, false) := h
    rw [List.getElem?_map] at h'
    obtain ⟨c, hc1, e⟩ := Option.map_eq_some_iff.mp h'
    have e2 : c.pot = false := congrArg Prod.snd e
    have e3 : calF cs f = c.G := by
      unfold calF
      rw [hc1]
    show (∃ d, calF cs f ds ps = .ok d ps) ∨ calF cs f ds ps = .bad
    rw [e3]
    exact (hc c (List.mem_of_getElem? hc1)).pure e2 ds ps
  · have h' : (cs.map fun c => (c.name, c.pot))[f]? = some (x, pot) := h
    rw [List.getElem?_map] at h'
    obtain ⟨c, hc1, e⟩ := Option.map_eq_some_iff.mp h'
    cases e
    obtain ⟨fa, fd, ps, h1, h2, h3, h4⟩ := (hc c (List.mem_of_getElem? hc1)).ok
    have e : (ecOf (hfW X.w) (calF cs) pi hp).F f = c.G := by
      show calF cs f = c.G
      unfold calF
      rw [hc1]
    refine ⟨k, fa, fd, ps, h1, h2, hr, ?_, fun q hq => h4 q ?_⟩
    · show FnG X.prog X.w X.K X.mg X.base k fa fd ps (SpG (hfW X.w) c.pot (calF cs f))
      rw [show calF cs f = c.G from e]
      exact h3
    · have := mkShapes_at cs 0 f c hc1
      rw [Nat.zero_add] at this
      rw [← this]
      exact hq
/-- a def without the pot -/
theorem defOk_N {c : Cal} {N ps : List Str} {cs : List Cal} {ks : List (Str × Int)} {k : Nat} {qual : Str} {params : Arguments} {body : List Stmt} {scope : Scope} {f : Addr} {fd : FuncData} {pi : Nat} {ir : List IS} (T : TopOk mg base ks) (F : FunD K c.name qual params body scope [] [] f fd) (hg : mg c.name = some (.ref f)) (S : FnScope N ps scope)
    (hc : ∀ c ∈ cs, DefOk P w K mg base k c) (hp : c.pot = false) (hG : c.G = runN (calF cs) ir N.length) (hm : isSs (mkJ N pi false cs ks) scope ir body = true) (hs : ∀ q ∈ c.shapes, Shape K fd ps q.1 q.2.1 q.2.2) : DefOk P w K mg base (k + 1) c := by
  obtain ⟨oc, od, dV, kV, doc, pm, an, cdv, ct, osl, rfl, lk, hcd, _, _⟩ := F.ex
  refine ⟨⟨f, _, ps, hg, F.kp, ?_, hs⟩, fun _ ds ps => by rw [hG]; exact runN_pure _ _ _ _ _⟩
  rw [hp, hG]
  exact def_N (J := mkJ N pi false cs ks) rfl rfl lk hcd S (bodyOk T S.kind hc) hm
/-- a def with the pot -/
theorem defOk_P {c : Cal} {N ps : List Str} {cs : List Cal} {ks : List (Str × Int)} {k : Nat} {qual : Str} {params : Arguments} {body : List Stmt} {scope : Scope} {f : Addr} {fd : FuncData} {ir : List IS} (T : TopOk mg base ks) (F : FunD K c.name qual params body scope [] [] f fd) (hg : mg c.name = some (.ref f)) (S : FnScope N ps scope) (h1 : 1 ≤ ps.length)
    (hc : ∀ c ∈ cs, DefOk P w K mg base k c) (hp : c.pot = true) (hG : c.G = runP (calF cs) ir N.length) (hm : isSs (mkJ N 0 true cs ks) scope ir body = true) (hs : ∀ q ∈ c.shapes, Shape K fd ps q.1 q.2.1 q.2.2) : DefOk P w K mg base (k + 1) c := by
  obtain ⟨oc, od, dV, kV, doc, pm, an, cdv, ct, osl, rfl, lk, hcd, _, _⟩ := F.ex
  refine ⟨⟨f, _, ps, hg, F.kp, ?_, hs⟩, fun z => by rw [hp] at z; cases z⟩
  rw [hp, hG]
  exact def_P (J := mkJ N 0 true cs ks) rfl rfl rfl h1 lk hcd S (bodyOk T S.kind hc) hm
/-- a way of calling -/
theorem shape_of {x qual : Str} {params : Arguments} {body : List Stmt} {scope : Scope} {f : Addr} {fd : FuncData} {ps ks : List Str} {n : Nat} {pm : List Nat} (F : FunD K x qual params body scope [] [] f fd)
    (h : ∀ (kV doc pm' : Value) (an : Option Addr) (cdv ct : Value) (us ws as : List Value), us.length = n → ws.length = ks.length → pick (us ++ ws) pm = some as → as.length = ps.length ∧ bindArgs (PySem.W.fnOf x qual params body scope .none kV doc pm' an cdv ct) ⟨us, ks.zip ws⟩ = pure (ps.zip as)) : Shape K fd ps n ks pm := by
  obtain ⟨oc, od, dV, kV, doc, pm', an, cdv, ct, osl, rfl, lk, hcd, hD, hK⟩ := F.ex
  rcases hD with ⟨_, rfl⟩ | ⟨e, _⟩
  · intro s us ws as _ h1 h2 h3
    obtain ⟨e1, e2⟩ := h kV doc pm' an cdv ct us ws as h1 h2 h3
    exact ⟨e1, .of_eq e2⟩
  · exact absurd rfl e
end
end Ev
/-! The draws. -/
namespace Ev
open PySem PySem.Spec PyProof.Rows L2
def potN (m c : Int) : Int :=
  let a := (m + c * 2654435761) % 4294967279
  let b := (a * a + c * 40503 + 5) % 4294967231
  (b * b + m) % 4294967291
/-- _law_of -/
def ofD : List D → M D
  | [.int many], p =>
    if many < 2 then .ok (.int 0) p
    else if many < 1073741824 ∧ p.cells.length ≤ 1000 then
      match p.cells.getLast? with
      | some x => .ok (.int (x % many)) ⟨if many ≤ x then p.cells.dropLast ++ [x / many] else p.cells.dropLast, p.mixed, p.count⟩
      | none => .ok (.int (potN p.mixed (p.count + 1) / 256 % many)) ⟨p.cells, p.mixed, p.count + 1⟩
    else .bad
  | _, _ => .bad
theorem of_facts {hf : D → Int} {vs : List V} {H : Hp} {Q : VK} {E : XK} (h : SpG hf true ofD vs H Q E) : ∃ (PA CA : Addr) (cells : List Int) (mixed count many : Int), vs = [.ref PA, .int many] ∧ PA ≠ CA ∧ H PA = some (.lst [.ref CA, .int mixed, .int count]) ∧ H CA = some (.lst (cells.map V.int)) ∧
    (many < 2 → Q (.int 0) H) ∧ (¬ many < 2 → many < 1073741824 ∧ cells.length ≤ 1000 ∧
      (∀ x H', cells.getLast? = some x → (∀ a o, a ≠ PA → a ≠ CA → H a = some o → H' a = some o) → H' PA = some (.lst [.ref CA, .int mixed, .int count]) → H' CA = some (.lst ((if many ≤ x then cells.dropLast ++ [x / many] else cells.dropLast).map V.int)) → Q (.int (x % many)) H') ∧
      (∀ H', cells = [] → (∀ a o, a ≠ PA → a ≠ CA → H a = some o → H' a = some o) → H' PA = some (.lst [.ref CA, .int mixed, .int (count + 1)]) → H' CA = some (.lst []) → Q (.int (potN mixed (count + 1) / 256 % many)) H')) := by
  obtain ⟨O, ds, ps, pt, vs', dm, pi, po, ⟨PA, CA, rfl, rfl⟩, rs, wp⟩ := h
  obtain ⟨hne, hP, hC⟩ := pi
  have fin : ∀ (ps' : PS) (d : Int) (H' : Hp), (∀ a o, a ≠ PA → a ≠ CA → H a = some o → H' a = some o) → H' PA = some (.lst [.ref CA, .int ps'.mixed, .int ps'.count]) → H' CA = some (.lst (ps'.cells.map V.int)) →
      (∀ v H', KB (some (PA, CA)) H H' → PotIs (some (PA, CA)) H' ps' → Rp hf H' O (.int d) v → Q v H') → Q (.int d) H' := fun ps' d H' k p1 p2 q => q _ _ (fun a o n e => k a o (fun z => n (.inl z)) (fun z => n (.inr z)) e) ⟨hne, p1, p2⟩ ⟨rfl, fun a e => by cases e⟩
  match ds, rs, wp with
  | [], _, wp => exact wp.elim
  | [.int many], rs, wp =>
    obtain ⟨v1, r1, rfl, hb1, _, hr1⟩ := rs
    obtain rfl := hb1
    obtain rfl := hr1
    refine ⟨PA, CA, ps.cells, ps.mixed, ps.count, many, rfl, hne, hP, hC, fun h2 => ?_, fun h2 => ?_⟩
    · simp only [ofD, h2, if_true] at wp
      exact fin ps 0 H (fun _ _ _ _ e => e) hP hC wp
    · simp only [ofD, h2, if_false] at wp
      split at wp
      · rename_i h3
        refine ⟨h3.1, h3.2, fun x H' hx k p1 p2 => ?_, fun H' hx k p1 p2 => ?_⟩
        · rw [hx] at wp
          exact fin ⟨if many ≤ x then ps.cells.dropLast ++ [x / many] else ps.cells.dropLast, ps.mixed, ps.count⟩ _ H' k p1 p2 wp
        · rw [hx] at wp
          exact fin ⟨[], ps.mixed, ps.count + 1⟩ _ H' k p1 p2 wp
      · exact wp.elim
  | .none :: _, _, wp => exact wp.elim
  | .bool _ :: _, _, wp => exact wp.elim
  | .str _ :: _, _, wp => exact wp.elim
  | .list _ :: _, _, wp => exact wp.elim
  | .tuple _ :: _, _, wp => exact wp.elim
  | .dict _ :: _, _, wp => exact wp.elim
  | .int _ :: _ :: _, _, wp => exact wp.elim
def c__law_of : Cal := ⟨"_law_of", true, ofD, [(2, [], [0, 1])]⟩
end Ev
/-! The draws: the walk's second half. -/
namespace Ev
open PySem PySem.Spec PyProof.Rows L2
abbrev rAdd0 : R2 := rI0 fun i j => V.int (i + j)
abbrev rMul0 : R2 := rI CMul fun i j => V.int (i * j)
abbrev rMod0 : R2 := rI (fun x j => 0 < j) fun i j => V.int (i % j)
abbrev rDiv0 : R2 := rI CDiv fun i j => V.int (i / j)
abbrev tPot (K : PySem.W.Frag) (i : Int) : TE := tOp (rIxL K) (tVar 0) (tC (V.int i))
def tOfA (K : PySem.W.Frag) : TS := tSeq (tAsg (tBM0 K "list" rPop (tPot K 0)) (gName 2))
  (tSeq (tIfS (tTest (tOp (rI0 fun i j => V.bl (decide (j ≤ i))) (tVar 2) (tVar 1))) (tDrop (tBM K "list" rAppend (tPot K 0) (tCons (tOp rDiv0 (tVar 2) (tVar 1)) tNil))) tNext)
    (tRet (tOp rMod0 (tVar 2) (tVar 1))))
def tOfB (K : PySem.W.Frag) : TS := tSeq (tAsg (tOp rAdd0 (tPot K 2) (tC (V.int 1))) (gSub (tVar 0) (tC (V.int 2)) rSetL))
  (tSeq (tAsg (tOp rMod0 (tOp rAdd0 (tPot K 1) (tOp rMul0 (tPot K 2) (tC (V.int 2654435761)))) (tC (V.int 4294967279))) (gName 3))
  (tSeq (tAsg (tOp rMod0 (tOp rAdd0 (tOp rAdd0 (tOp rMul0 (tVar 3) (tVar 3)) (tOp rMul0 (tPot K 2) (tC (V.int 40503)))) (tC (V.int 5))) (tC (V.int 4294967231))) (gName 3))
  (tSeq (tAsg (tOp rMod0 (tOp rAdd0 (tOp rMul0 (tVar 3) (tVar 3)) (tPot K 1)) (tC (V.int 4294967291))) (gName 3))
    (tRet (tOp rMod0 (tOp rDiv0 (tVar 3) (tC (V.int 256))) (tVar 1))))))
def tOf (K : PySem.W.Frag) (hf : D → Int) : TS :=
  tSeq (tIfS (tTest (tOp (rI0 fun i j => V.bl (decide (i < j))) (tVar 1) (tC (V.int 2)))) (tRet (tC (V.int 0))) tNext)
    (tSeq (tIfS (tTest (tOp (rD2 hf true fun x y => Option.map PyData.bool (cmpD COp.ne x y)) (tPot K 0) (tLst tNil))) (tOfA K) tNext) (tOfB K))
theorem lay_ints : ∀ ns : List Int, PyData.canLayAll0 (ns.map PyData.int) = true
  | [] => rfl
  | n :: ns => by
    simp only [List.map_cons, PyData.canLayAll0, lay_ints ns, Bool.and_true, PyData.canLay0]
theorem depth_ints : ∀ ns : List Int, PyData.depthAll (ns.map PyData.int) = 0
  | [] => rfl
  | n :: ns => by
    simp [List.map_cons, PyData.depthAll, depth_ints ns, PyData.depth]
theorem shaped_ints (ns : List Int) : SeqAt.shaped (.list (ns.map PyData.int)) = true := by
  simp [SeqAt.shaped, PyData.canLay0, lay_ints ns, PyData.depth, depth_ints ns]
theorem of_run {K : PySem.W.Frag} {hf : D → Int} {vs : List V} {H : Hp} {Q : VK} {E : XK} (h : SpG hf true ofD vs H Q E) : tOf K hf { nx := fun _ H' => Q .non H', rt := Q } (L2.start ["pot", "many", "cell", "number"] vs) H := by
  obtain ⟨PA, CA, cells, mixed, count, many, rfl, hne, hP, hC, q0, q1⟩ := of_facts h
  clear h
  refine ⟨.int many, rfl, many, 2, rfl, rfl, _, rfl, ite2 (fun e => ?_) (fun e => ?_)⟩
  · exact q0 (of_decide_eq_true e)
  · obtain ⟨b1, b2, q2, q3⟩ := q1 fun z => e (decide_eq_true z)
    have pot : ∀ {H' : Hp} {c : Int}, H' PA = some (.lst [.ref CA, .int mixed, .int c]) → SqL K H' PA [.ref CA, .int mixed, .int c] := fun h => .inl (.inl h)
    refine ⟨.ref PA, rfl, PA, _, 0, .ref CA, rfl, rfl, pot hP, rfl, Nat.zero_le _, fun p np => ?_⟩
    have nP : PA ≠ p := fun z => by rw [← z, hP] at np; cases np
    have nC : CA ≠ p := fun z => by rw [← z, hC] at np; cases np
    have hP1 : upd H p (.lst []) PA = some (.lst [.ref CA, .int mixed, .int count]) := by rw [upd_ne nP]; exact hP
    have hC1 : upd H p (.lst []) CA = some (.lst (cells.map V.int)) := by rw [upd_ne nC]; exact hC
    have sh : SeqAt.shaped (.list (cells.map PyData.int)) = true := shaped_ints cells
    have hne2 : cmpD .ne (.list (cells.map PyData.int)) (.list []) = some (!cells.isEmpty) := by
      simp only [cmpD, eqD, sh]
      cases cells <;> rfl
    refine ⟨fun _ => False, .list (cells.map PyData.int), .list [], .bool (!cells.isEmpty), fun a z => z.elim, ⟨CA, _, rfl, hC1, .of_ints _⟩, ⟨p, [], rfl, upd_same, rfl⟩, by show Option.map PyData.bool (cmpD .ne (.list (cells.map PyData.int)) (.list [])) = _; rw [hne2]; rfl, fun v H2 sm rp _ => ?_⟩
    obtain rfl : v = .bl (!cells.isEmpty) := rp.1
    have hP2 := sm _ _ hP1
    have hC2 := sm _ _ hC1
    have k2 : ∀ a o, H a = some o → H2 a = some o := fun a o h => sm _ _ (by rw [upd_ne (fun z => by rw [z, np] at h; cases h)]; exact h)
    refine ⟨_, rfl, ite2 (fun e1 => ?_) (fun e1 => ?_)⟩
    · cases hx : cells.getLast? with
      | none =>
        rw [List.getLast?_eq_none_iff] at hx
        subst hx
        cases e1
      | some x =>
        have hx' : (cells.map V.int)[(cells.map V.int).length - 1]? = some (.int x) := by
          rw [← List.getLast?_eq_getElem?, List.getLast?_map, hx]
          rfl
        have hP3 : ∀ u, upd H2 CA u PA = some (.lst [.ref CA, .int mixed, .int count]) := fun u => by rw [upd_ne hne]; exact hP2
        refine ⟨.ref PA, rfl, PA, _, 0, .ref CA, rfl, rfl, pot hP2, rfl, .inl ⟨rfl, _, .inl (.inl hC2)⟩, CA, _, .int x, rfl, rfl, hC2, hx', ?_⟩
        have ty : tyV K "list" (.ref CA) (upd H2 CA (.lst (cells.map V.int).dropLast)) := .inl ⟨rfl, _, .inl (.inl upd_same)⟩
        have pm : 0 < many := by
          have := of_decide_eq_false (Bool.eq_false_iff.mpr e)
          omega
        have k3 : ∀ u a o, a ≠ PA → a ≠ CA → H a = some o → upd H2 CA u a = some o := fun u a o n1 n2 h => by rw [upd_ne n2]; exact k2 a o h
        refine ⟨.int x, rfl, .int many, rfl, x, many, rfl, rfl, _, rfl, ite2 (fun e2 => ?_) (fun e2 => ?_)⟩
        · have e3 := of_decide_eq_true e2
          refine ⟨.ref PA, rfl, PA, _, 0, .ref CA, rfl, rfl, pot (hP3 _), rfl, ty, .int x, rfl, .int many, rfl, x, many, rfl, rfl, ⟨pm, b1⟩, CA, _, .int (x / many), rfl, rfl, upd_same, ?_, ?_⟩
          · rw [List.length_dropLast, List.length_map]
            exact small1000 (by omega)
          · refine ⟨.int x, rfl, .int many, rfl, x, many, rfl, rfl, pm, q2 x _ hx (fun a o n1 n2 h => ?_) ?_ ?_⟩
            · rw [upd_ne n2]
              exact k3 _ a o n1 n2 h
            · rw [upd_ne hne]
              exact hP3 _
            · rw [upd_same, if_pos e3, List.map_append, List.map_dropLast]
              rfl
        · have e3 : ¬ many ≤ x := fun z => e2 (decide_eq_true z)
          refine ⟨.int x, rfl, .int many, rfl, x, many, rfl, rfl, pm, q2 x _ hx (fun a o n1 n2 h => k3 _ a o n1 n2 h) (hP3 _) ?_⟩
          rw [upd_same, if_neg e3, List.map_dropLast]
    · have ec : cells = [] := by cases cells with
        | nil => rfl
        | cons _ _ => exact absurd rfl e1
      subst ec
      have hC3 : ∀ u, upd H2 PA u CA = some (.lst []) := fun u => by rw [upd_ne hne.symm]; exact hC2
      have hP4 : upd H2 PA (.lst [.ref CA, .int mixed, .int (count + 1)]) PA = some (.lst [.ref CA, .int mixed, .int (count + 1)]) := upd_same
      have pm : 0 < many := by
        have := of_decide_eq_false (Bool.eq_false_iff.mpr e)
        omega
      refine ⟨.ref PA, rfl, PA, _, 2, .int count, rfl, rfl, pot hP2, rfl, count, 1, rfl, rfl, .ref PA, rfl, PA, _, 2, 2, rfl, rfl, hP2, rfl, ?_⟩
      have hS : SqL K (upd H2 PA (.lst [.ref CA, .int mixed, .int (count + 1)])) PA [.ref CA, .int mixed, .int (count + 1)] := pot hP4
      refine ⟨.ref PA, rfl, PA, _, 1, .int mixed, rfl, rfl, hS, rfl, .ref PA, rfl, PA, _, 2, .int (count + 1), rfl, rfl, hS, rfl, count + 1, 2654435761, rfl, rfl, .inr ⟨by decide, by decide⟩, mixed, _, rfl, rfl, _, 4294967279, rfl, rfl, (by decide : (0 : Int) < 4294967279), ?_⟩
      have m1 := Int.emod_nonneg (mixed + (count + 1) * 2654435761) (b := 4294967279) (by decide)
      have m2 := Int.emod_lt_of_pos (mixed + (count + 1) * 2654435761) (b := 4294967279) (by decide)
      refine ⟨_, rfl, _, rfl, _, _, rfl, rfl, .inl ⟨by omega, by omega⟩, .ref PA, rfl, PA, _, 2, .int (count + 1), rfl, rfl, hS, rfl, count + 1, 40503, rfl, rfl, .inr ⟨by decide, by decide⟩, _, _, rfl, rfl, _, 5, rfl, rfl, _, 4294967231, rfl, rfl, (by decide : (0 : Int) < 4294967231), ?_⟩
      have m3 := Int.emod_nonneg ((mixed + (count + 1) * 2654435761) % 4294967279 * ((mixed + (count + 1) * 2654435761) % 4294967279) + (count + 1) * 40503 + 5) (b := 4294967231) (by decide)
      have m4 := Int.emod_lt_of_pos ((mixed + (count + 1) * 2654435761) % 4294967279 * ((mixed + (count + 1) * 2654435761) % 4294967279) + (count + 1) * 40503 + 5) (b := 4294967231) (by decide)
      refine ⟨_, rfl, _, rfl, _, _, rfl, rfl, .inl ⟨by omega, by omega⟩, .ref PA, rfl, PA, _, 1, .int mixed, rfl, rfl, hS, rfl, _, _, rfl, rfl, _, 4294967291, rfl, rfl, (by decide : (0 : Int) < 4294967291), ?_⟩
      refine ⟨_, rfl, _, 256, rfl, rfl, ⟨by decide, by decide⟩, _, rfl, _, _, rfl, rfl, pm, ?_⟩
      exact q3 _ rfl (fun a o n1 n2 h => by rw [upd_ne n1]; exact k2 a o h) hP4 (hC3 _)
end Ev
/-! The pot is made. -/
namespace Ev
open PySem PySem.Spec PyProof.Rows L2
/-- what _law_pot does: a new pot, of whatever cells and numbers, not too many -/
def SpPot (K : PySem.W.Frag) : Sp := fun vs H Q _ => ∃ (a : Addr) (ns : List Int), vs = [.ref a] ∧ SqL K H a (ns.map V.int) ∧ ns.length ≤ 63 ∧
  ∀ (PA CA : Addr) (H' : Hp) (ps : PS), Same H H' → PA ≠ CA → H PA = none → H CA = none → H' PA = some (.lst [.ref CA, .int ps.mixed, .int ps.count]) → H' CA = some (.lst (ps.cells.map V.int)) → ps.cells.length ≤ 63 → Q (.ref PA) H'
abbrev tElt (hf : D → Int) : TE := tOp (rI0 fun i j => V.int (i + j)) (tOp (rI CMul fun i j => V.int (i * j)) (tC (V.int 2)) (tCB (fun xs H Q => ∃ i, xs = [V.int i] ∧ Q (V.int (if i < 0 then -i else i)) H) (tCons (tVar 3) tNil)))
  (tCB (rBI hf (biD BI.int)) (tCons (tOp (rI0 fun i j => V.bl (decide (i < j))) (tVar 3) (tC (V.int 0))) tNil))
abbrev rLenSeq (K : PySem.W.Frag) : List V → Hp → VK → Prop := fun xs H_1 Q => ∃ p ys, xs = [V.ref p] ∧ (SqL K H_1 p ys ∨ SqT K H_1 p ys) ∧ Q (V.int ys.length) H_1
def tPotT (K : PySem.W.Frag) (hf : D → Int) : TS :=
  tSeq (tPar 1 2 (tCons (tLc (iList K (tSl (rSlL K) (tVar 0) tNoPart (tPart (tC (V.int 63))))) (gName 3) tYes (tElt hf) [3])
      (tCons (tOp (rI0 fun i j => V.int (i + j)) (tC (V.int 17533)) (tOp (rI CMul fun i j => V.int (i * j)) (tC (V.int 83)) (tCB (rLenSeq K) (tCons (tVar 0) tNil)))) tNil)))
    (tSeq (tFor (iList K (tVar 1)) (gName 3) (tAsg (tOp (rI (fun x j => 0 < j) fun i j => V.int (i % j)) (tOp (rI0 fun i j => V.int (i + j)) (tOp (rI0 fun i j => V.int (i + j)) (tOp (rI CMul fun i j => V.int (i * j)) (tVar 2) (tC (V.int 69069))) (tVar 3)) (tC (V.int 11))) (tC (V.int 4294967291))) (gName 2)))
      (tRet (tLst (tCons (tLc (iList K (tVar 1)) (gName 3) (tTest (tOp (rI0 fun i j => V.bl (decide (j < i))) (tVar 3) (tOp (rI CPow fun i j => V.int (i ^ j.toNat)) (tC (V.int 10)) (tC (V.int 12))))) (tVar 3) [3]) (tCons (tVar 2) (tCons (tC (V.int 0)) tNil))))))
/-- a list of whole numbers in the making -/
def Mk (H1 : Hp) (Dd : Addr) (i : Nat) (H' : Hp) : Prop := (∀ b o, b ≠ Dd → H1 b = some o → H' b = some o) ∧ ∃ acc : List Int, H' Dd = some (.lst (acc.map V.int)) ∧ acc.length ≤ i
theorem Mk.start {H1 : Hp} {Dd : Addr} : Mk H1 Dd 0 (upd H1 Dd (.lst [])) := ⟨fun b o n e => by rw [upd_ne n]; exact e, [], upd_same, Nat.le_refl _⟩
theorem Mk.put {H1 H2 : Hp} {Dd : Addr} {i : Nat} {acc : List Int} (k : ∀ b o, b ≠ Dd → H1 b = some o → H2 b = some o) (hl : acc.length ≤ i) (y : Int) : Mk H1 Dd (i + 1) (upd H2 Dd (.lst (acc.map V.int ++ [.int y]))) :=
  ⟨fun b o n e => by rw [upd_ne n]; exact k b o n e, acc ++ [y], by rw [upd_same]; simp, by simp; omega⟩
theorem Mk.less {H1 H2 : Hp} {Dd : Addr} {i : Nat} (h : Mk H1 Dd i H2) : Mk H1 Dd (i + 1) H2 := ⟨h.1, let ⟨acc, e, l⟩ := h.2; ⟨acc, e, by omega⟩⟩
theorem seq_keep {K : PySem.W.Frag} {H1 H2 : Hp} {Dd a : Addr} {xs : List V} (nd : H1 Dd = none) (k : ∀ b o, b ≠ Dd → H1 b = some o → H2 b = some o) (h : SqL K H1 a xs) : SqL K H2 a xs := by
  have k2 : Same H1 H2 := fun b o e => k b o (fun z => by rw [z, nd] at e; cases e) e
  exact k2.seq h
theorem sz63 {n : Nat} (h : n ≤ 63) : n < sizeLine := by
  have := sizeLine_eq
  omega
theorem pot_run {K : PySem.W.Frag} {hf : D → Int} {vs : List V} {H : Hp} {Q : VK} {E : XK} (h : SpPot K vs H Q E) : tPotT K hf { nx := fun _ H' => Q .non H', rt := Q } (L2.start ["script", "cells", "mixed", "cell"] vs) H := by
  obtain ⟨a, ns, rfl, hS, hl, fin⟩ := h
  refine ⟨.ref a, rfl, ?_⟩
  refine ⟨63, rfl, a, _, rfl, hS, fun p np => ?_⟩
  have cutl : cutV (ns.map V.int) none (some 63) = (ns.take 63).map V.int := by
    unfold cutV
    rw [HT.sIx_none, List.drop_zero, Nat.sub_zero, show (63 : Int) = ((63 : Nat) : Int) from rfl, HT.sIx_nat, List.map_take, List.length_map]
    by_cases q : 63 ≤ ns.length
    · rw [Nat.min_eq_left q]
    · rw [Nat.min_eq_right (by omega), List.take_of_length_le (by simp), List.take_of_length_le (by simp; omega)]
  rw [cutl]
  have hp1 : upd H p (.lst ((ns.take 63).map V.int)) p = some (.lst ((ns.take 63).map V.int)) := upd_same
  refine ⟨p, rfl, ⟨_, .inl (.inl hp1)⟩, fun C1 nC1 => ?_⟩
  refine lc_list (xs := (ns.take 63).map V.int) (Mk (upd H p (.lst ((ns.take 63).map V.int))) C1) Mk.start (fun i H' hi m => seq_keep nC1 m.1 (.inl (.inl hp1))) (fun i x H' hx m => ?_) (fun H' m => ?_)
  · obtain ⟨n, hn⟩ : ∃ n, x = .int n := by
      rw [List.getElem?_map] at hx
      obtain ⟨n, _, e⟩ := Option.map_eq_some_iff.mp hx
      exact ⟨n, e.symm⟩
    subst hn
    have hi : i < 63 := by
      have := (List.getElem?_eq_some_iff.mp hx).1
      simp at this
      omega
    refine ⟨rfl, .int n, rfl, n, rfl, 2, _, rfl, rfl, .inl ⟨by decide, by decide⟩, .int n, rfl, n, 0, rfl, rfl, fun _ => False, [.bool (decide (n < 0))], .int (if decide (n < 0) then 1 else 0), fun a z => z.elim, ⟨rfl, trivial⟩, rfl, fun v H2 sm rp _ => ?_⟩
    obtain rfl : v = .int (if decide (n < 0) then 1 else 0) := rp.1
    obtain ⟨k, acc, e1, e2⟩ := m
    refine ⟨_, _, rfl, rfl, acc.map V.int, sm _ _ e1, sz63 (by simp; omega), Mk.put (fun b o nb e => sm _ _ (k b o nb e)) e2 _⟩
  · obtain ⟨k, acc, e1, e2⟩ := m
    have hal : acc.length ≤ 63 := by simp at e2; omega
    have kH : Same H H' := fun b o e => by
      have n1 : b ≠ p := fun z => by rw [z, np] at e; cases e
      have e3 : upd H p (.lst ((ns.take 63).map V.int)) b = some o := by rw [upd_ne n1]; exact e
      exact k b o (fun z => by rw [z, nC1] at e3; cases e3) e3
    refine ⟨.ref a, rfl, a, _, rfl, .inl (kH.seq hS), 83, _, rfl, rfl, .inl ⟨by decide, by decide⟩, 17533, _, rfl, rfl, _, _, rfl, ?_⟩
    have sq : SqL K H' C1 (acc.map V.int) := .inl (.inl e1)
    refine ⟨.ref C1, rfl, C1, rfl, ⟨_, sq⟩, ?_⟩
    refine for_list (xs := acc.map V.int) (fun i σ H'' => H'' = H' ∧ ∃ m c3, σ = [some (V.ref a), some (V.ref C1), some (V.int m), c3]) ⟨rfl, _, _, rfl⟩ (fun i σ H'' hi hp => by rw [hp.1]; exact sq) (fun i x σ H'' hx hp => ?_) (fun σ H'' hp => ?_)
    · obtain ⟨rfl, m, c3, rfl⟩ := hp
      obtain ⟨n, rfl⟩ : ∃ n, x = .int n := by
        rw [List.getElem?_map] at hx
        obtain ⟨n, _, e⟩ := Option.map_eq_some_iff.mp hx
        exact ⟨n, e.symm⟩
      exact ⟨.int m, rfl, m, 69069, rfl, rfl, .inr ⟨by decide, by decide⟩, .int n, rfl, _, n, rfl, rfl, _, 11, rfl, rfl, _, 4294967291, rfl, rfl, (by decide : (0 : Int) < 4294967291), rfl, _, _, rfl⟩
    · obtain ⟨rfl, m, c3, rfl⟩ := hp
      refine ⟨.ref C1, rfl, C1, rfl, ⟨_, sq⟩, fun C2 nC2 => ?_⟩
      refine lc_list (xs := acc.map V.int) (Mk H'' C2) Mk.start (fun i H3 hi m => seq_keep nC2 m.1 sq) (fun i x H3 hx mk => ?_) (fun H3 mk => ?_)
      · obtain ⟨n, rfl⟩ : ∃ n, x = .int n := by
          rw [List.getElem?_map] at hx
          obtain ⟨n, _, e⟩ := Option.map_eq_some_iff.mp hx
          exact ⟨n, e.symm⟩
        have hi : i < acc.length := by
          have := (List.getElem?_eq_some_iff.mp hx).1
          simpa using this
        refine ⟨rfl, .int n, rfl, 10, 12, rfl, rfl, ⟨by decide, by decide, by decide⟩, n, _, rfl, rfl, _, rfl, ?_⟩
        dsimp only
        by_cases hb : decide ((10 : Int) ^ Int.toNat 12 < n) = true
        · rw [if_pos hb]
          obtain ⟨k, acc2, f1, f2⟩ := mk
          exact ⟨.int n, rfl, acc2.map V.int, f1, sz63 (by simp; omega), Mk.put k f2 n⟩
        · rw [if_neg hb]
          exact mk.less
      · obtain ⟨k, acc2, f1, f2⟩ := mk
        have k2 : Same H H3 := fun b o e => k b o (fun z => by rw [z] at e; have := kH _ _ e; rw [nC2] at this; cases this) (kH b o e)
        refine ⟨.int m, rfl, Nat.le_of_lt (sz63 (n := 3) (by decide)), fun PA nPA => ?_⟩
        have nCP : PA ≠ C2 := fun z => by rw [z, f1] at nPA; cases nPA
        refine fin PA C2 _ ⟨acc2, m, 0⟩ (fun b o e => ?_) nCP ?_ ?_ upd_same ?_ ?_
        · rw [upd_ne (fun z => by rw [z] at e; have := k2 _ _ e; rw [nPA] at this; cases this)]
          exact k2 b o e
        · exact k2.free nPA
        · exact kH.free nC2
        · rw [upd_ne (fun z => nCP z.symm)]
          exact f1
        · rw [List.length_map] at f2
          exact Nat.le_trans f2 hal
end Ev
/-! The law's own def, and the end. -/
namespace Ev
open PySem PySem.Spec PyProof.Rows L2
section
variable {X : Cx} {k : Nat} {f : Addr} {fd : FuncData} {pr : List Str} {sp : Sp} {e : Expr} {te : TE} {x : Str} {p pos : Pos}
def tCallG (sp : Sp) (te : TE) : TE := fun σ H Q => te σ H fun v H1 => ∃ u, [v] = [u] ∧ sp [u] H1 Q fun _ _ _ => False
/-- f(e) by a def's promise where nothing is being shown -/
theorem pe_callG1 (F : FnG X.prog X.w X.K X.mg X.base k f fd pr sp) (hr : Room k X.A) (hg0 : X.A.guards = some []) (hg : Gl X x) (hm : X.mg x = some (.ref f)) (hk : PySem.W.keepIn X.K (.ref f) = true) (sh : Shape X.K fd pr 1 [] [0]) (he : PE X e te)
    (hdb : (x == ("__debug__" : Str)) = false := by decide) (h1 : starEach [e] X.env = (false, eval e X.env) :: starEach [] X.env := by rfl) : PE X (.Call (.Name x p) [e] [] pos) (tCallG sp te) := by
  refine ⟨fun pins s σ H Q I h => ?_⟩
  refine wpAny_Call_Name_kw (ld_glob I hg hm ?_ hdb)
  refine PySem.W.callWith_K (h₀ := X.base) I.ok.mod.kin hk (thn ((pa_cons he pa_nil h1).run pos pins s σ H (fun vs H1 => ∃ u, vs = [u] ∧ sp [u] H1 Q fun _ _ _ => False) I h) fun us s1 ⟨vs, H1, I1, r, q⟩ => ⟨I1.kIn, ?_⟩) h1 (by rfl)
  obtain ⟨v, rfl, q⟩ := q
  cases r with
  | cons r1 r2 =>
    cases r2
    exact runG (ws := []) (zs := []) F hr hg0 sh I1 (.cons r1 .nil) .nil rfl rfl rfl q
end
/-- the law's promise -/
def SpLaw (K : PySem.W.Frag) : Sp := fun vs H Q _ => ∃ (a : Addr) (ns : List Int), vs = [.ref a] ∧ SqL K H a (ns.map V.int) ∧ ns.length ≤ 63 ∧ ∀ H', Q (.bl true) H'
/-- from the pot on -/
theorem law_body {K : PySem.W.Frag} {E : EC} {b : List IS} {n : Nat} {vs : List V} {H : Hp} {Q : VK} {XE : XK} {N : List Str} (hpi : E.pi = 1) (hE : E.xq = fun _ _ _ => False) (hN : N.length = n + 2)
    (tru : ∀ s : PS, s.cells.length ≤ 1000 → (exs E.F b (.un :: .un :: List.replicate n .un) s).Wp (fun fl _ => fl = .rt (.bool true)) fun _ _ _ => False) (h : SpLaw K vs H Q XE) :
    tSeq (tAsg (tCallG (SpPot K) (tVar 0)) (gName 1)) (TSsv E b) { nx := fun _ H' => Q .non H', rt := Q } (L2.start N vs) H := by
  obtain ⟨a, ns, rfl, hS, hl, hq⟩ := h
  have st : L2.start N [V.ref a] = some (.ref a) :: List.replicate (n + 1) none := by
    unfold L2.start
    simp [hN]
  rw [st]
  refine ⟨.ref a, rfl, .ref a, rfl, a, ns, rfl, hS, hl, fun PA CA H' ps sm ne nP nC eP eC hc => ?_⟩
  refine ⟨⟨fun z => z = PA ∨ z = CA, H', some (PA, CA)⟩, fun _ => 0, .un :: .un :: List.replicate n .un, ps, ?_, ?_, ?_⟩
  · intro z hz
    rcases hz with rfl | rfl
    · show H' z ≠ none
      rw [eP]
      simp
    · show H' z ≠ none
      rw [eC]
      simp
  · have un : ∀ {i : Nat} {s : Slot}, (Slot.un :: Slot.un :: List.replicate n Slot.un)[i]? = some s → s = .un := fun {i s} hi => by
      have := List.mem_of_getElem? hi
      simp only [List.mem_cons, List.mem_replicate] at this
      rcases this with e | e | e
      · exact e
      · exact e
      · exact e.2
    have oo : OO (⟨fun z => z = PA ∨ z = CA, H', some (PA, CA)⟩ : RC) (fun _ => 0) (.un :: .un :: List.replicate n .un) = fun z => z = PA ∨ z = CA := by
      funext z
      refine propext ⟨fun h => ?_, fun h => .inl h⟩
      rcases h with h | ⟨i, d, hi, _⟩
      · exact h
      · cases un hi
    refine ⟨by simp, fun i d hi => (by cases un hi), fun i d hi => (by cases un hi), fun i j d e hi => (by cases un hi), ?_, KB.refl _, ⟨ne, eP, eC⟩, fun z hz => ⟨hz, ?_⟩, fun P C hp => ?_, fun _ => by simp⟩
    · rw [oo]
      intro z hz
      rcases hz with rfl | rfl
      · exact ⟨_, eP, rfl⟩
      · exact ⟨_, eC, rfl⟩
    · show H' z ≠ none
      rcases hz with rfl | rfl
      · rw [eP]
        simp
      · rw [eC]
        simp
    · cases hp
      rw [hpi]
      rfl
  · rw [hE]
    refine (tru ps (by omega)).mono (fun fl p _ e => ?_) fun _ _ _ _ z => z.elim
    subst e
    intro v H2 _ _ rv
    obtain rfl : v = .bl true := rv.1
    exact hq H2
end Ev
namespace Ev
open PySem PySem.Spec PyProof.Rows L2
/-- the call that the claim makes, by a promise where nothing is being shown -/
theorem go_law {P : Program} {w : World} {K : PySem.W.Frag} {mg mb : Str → Option Value} {k : Nat} {fl sa : Addr} {fd : FuncData} {x : Str} {sp : Sp} {t : Shared} {us : List Value} {ns : List Int}
    (hK : K.In t.heap) (hm : t.heap.Ns mainGlobals mg) (hb : t.heap.Ns builtinsNs mb) (hbb : ∀ x : Str, x ≠ "__name__" → mb x = bootBuiltins x) (hno : t.heap.NoLimit) (hgn : t.gens = #[])
    (hs : t.heap.get? sa = some { cls := .type "list", data := .seq us.toArray }) (hu : IntsAre us ns) (hz : ns.length ≤ sizeLine) (room : Room k callerA)
    (G : ∀ b : Heap, K.In b → b.Ns mainGlobals mg → FnG P w K mg b k fl fd [x] sp) (bind : ∀ (s : Shared) (u : Value), BindsTo s fd ⟨[u], []⟩ [(x, u)])
    (ask : ∀ H : Hp, SqL K H sa (ns.map V.int) → sp [.ref sa] H (fun v _ => v = .bl true) fun _ _ _ => False) :
    codeAny (model P w) callerA (.call (.ref fl) ⟨[.ref sa], []⟩) (fun r t' => r = .ok (.ret (.bool true)) ∧ OldK t.heap t'.heap ∧ t'.os = t.os ∧ AllBare t'.gens) t := by
  have vi := vals_ints hu
  have ul := hu.length
  -- whatever is tracked: nothing, or the script alone, as it stands
  suffices S : ∀ H : Hp, (∀ z u, H z = some u → z = sa ∧ K.lookup sa = none ∧ ∃ o ys, u = .frz o (.lst ys)) → SqL K H sa (ns.map V.int) → HOk P w H t.heap → codeAny (model P w) callerA (.call (.ref fl) ⟨[.ref sa], []⟩) (fun r t' => r = .ok (.ret (.bool true)) ∧ OldK t.heap t'.heap ∧ t'.os = t.os ∧ AllBare t'.gens) t by
    cases q : K.lookup sa with
    | some ob =>
      have e1 := hK sa ob q
      rw [hs] at e1; cases e1
      exact S (fun _ => none) (fun z u e => by cases e) (.inr ⟨_, us.toArray, _, q, rfl, rfl, rfl, by rw [List.size_toArray, ul]; exact hz, by simpa using vi⟩) fun z u e => by cases (show (none : Option HO) = some u from e)
    | none =>
      refine S (fun z => if z = sa then some (.frz { cls := .type "list", data := .seq us.toArray } (.lst (ns.map V.int))) else none) (fun z u e => ?_) (.inl (.inr ⟨_, if_pos rfl⟩)) fun z u e => ?_
      · by_cases hz2 : z = sa
        · have e2 := (if_pos hz2).symm.trans e; cases e2
          exact ⟨hz2, q, _, _, rfl⟩
        · have e2 := (if_neg hz2).symm.trans e; cases e2
      · by_cases hz2 : z = sa
        · have e2 := (if_pos hz2).symm.trans e; cases e2
          subst hz2
          exact ⟨hs, by rw [List.length_map]; exact hz, us, _, vi, hs⟩
        · have e2 := (if_neg hz2).symm.trans e; cases e2
  intro H one hS ok
  have hid : ∀ {z : Addr} {o : Obj}, t.heap.get? z = some o → H z = none → (hidT t.heap H).get? z = some o := fun e n => hidT_get e n
  have dict0 : ∀ {z : Addr} {o : Obj} {es : Array DictEntry} {m : Nat}, t.heap.get? z = some o → o.data = .dict es m → H z = none := fun {z o es m} e d => by
    cases q : H z with
    | none => rfl
    | some u =>
      obtain ⟨rfl, _⟩ := one z u q
      rw [hs] at e; cases e; cases (show Data.seq us.toArray _ = Data.dict es m from d)
  have ns2 : ∀ {z : Addr} {m : Str → Option Value}, t.heap.Ns z m → (hidT t.heap H).Ns z m := fun ⟨o, es, m, e, d, r⟩ => ⟨o, es, m, hid e (dict0 e d), d, r⟩
  have inB : K.In (hidT t.heap H) := fun z o e => hid (hK z o e) (by
    cases q : H z with
    | none => rfl
    | some u =>
      obtain ⟨rfl, n, _⟩ := one z u q
      rw [n] at e; cases e)
  have mod : Mod K mg (hidT t.heap H) := ⟨inB, ns2 hm, ⟨mb, ns2 hb, hbb⟩, hno.elim fun mc h => ⟨mc, ns2 h.1, h.2⟩⟩
  have env : Env0 P w K mg (hidT t.heap H) callerA [] t H := ⟨rfl, mod, fun z o e => of_hidT e, Nat.le_of_eq (hidT_size _ _), trivial, fun z hz => (List.not_mem_nil hz).elim, ok, .of_eq hgn⟩
  refine codeAny_mono ((G _ inB (ns2 hm)).run callerA [] t H ⟨[.ref sa], []⟩ [.ref sa] [.ref sa] _ _ room rfl env (bind t (.ref sa)) (.cons rfl .nil) rfl (ask H hS)) fun r t' h => ?_
  match r, h with
  | .ok (.ret u), ⟨v, H', os, bare, un, ok2, rv, q⟩ =>
    have q2 : v = .bl true := q
    subst q2
    obtain rfl : u = Value.bool true := rv
    refine ⟨rfl, OldK.of_keep fun z o e => ?_, os, bare⟩
    cases q : H z with
    | none => exact un.keep z o e q (fun y => (List.not_mem_nil (show z ∈ ([] : List Addr) from y)).elim) (by simp)
    | some u =>
      obtain ⟨rfl, _, o2, ys, rfl⟩ := one z u q
      have g1 := (ok z _ q).1
      rw [e] at g1; cases g1
      exact (ok2 z _ (un.frzs z _ _ q)).1
  | .ok .next, h => exact False.elim h
  | .ok .brk, h => exact False.elim h
  | .ok .cont, h => exact False.elim h
  | .error e, h => exact False.elim h
/-- the end of a law's row over a head by facts -/
theorem walk_ofG {l : PySem.W.OpenLaw} {k : Nat} {q : Program} {loose : List Str} {XP : (Str → Option Value) → Heap → Prop} {YP : World → Heap → Prop} {d : DefRec} {x : Str} (hn : l.most = some 63) (hdf : d.params.defaults = []) (hr : Room k callerA)
    (F : ∀ (w : World) (mg : Str → Option Value) (fa : Addr) (h : Heap), YP w h → h.Ns mainGlobals mg → mg d.name = some (.ref fa) → ∃ (K : PySem.W.Frag) (fd : FuncData) (sp : Sp), K.In h ∧ (∀ (s : Shared) (u : Value), BindsTo s fd ⟨[u], []⟩ [(x, u)]) ∧
        (∀ (H : Hp) (a : Addr) (ns : List Int), ns.length ≤ 63 → SqL K H a (ns.map V.int) → sp [.ref a] H (fun v _ => v = .bl true) fun _ _ _ => False) ∧ ∀ base : Heap, K.In base → base.Ns mainGlobals mg → FnG l.prog w K mg base k fa fd [x] sp) :
    PySem.W.WalkO q loose XP YP l.row.toRowW d [] (fun f vs => PySem.call f vs) := by
  refine Att.attach_call hn hdf fun w s₀ s₁ mg mb fa o pm cd doc a vs ns G Y _ _ _ hmg hobj hints hlen hg => ?_
  obtain ⟨K, fd, sp, kx, hb, hsp, hF⟩ := F w mg fa _ Y G.T.g hmg
  exact go_law kx G.T.g G.T.b G.T.builtins G.T.nolimit hg hobj hints (Nat.le_of_lt (sz63 hlen)) hr hF hb fun H hS => hsp H a ns hlen hS
end Ev
/-! The head's facts, sys.modules among them. -/
namespace Ev
open PySem PySem.Spec PyProof.Rows L2
def kM (n : Nat) (g : Addr → Option Obj) : PySem.W.Frag := He.frG g (He.asD g n ++ [sysModules])
def obsM (n : Nat) (fa : List He.Fa) (fn : List He.DefD) (g : Addr → Option Obj) : Bool × He.AlD := (((kM n g).lookup sysModules).isSome, He.obsD fa fn (kM n g))
def SaysM (fa : List He.Fa) (fn : List He.DefD) (K : PySem.W.Frag) : Prop := (K.lookup sysModules).isSome = true ∧ He.SaysD fa fn K
def hookM (n : Nat) (fa : List He.Fa) (fn : List He.DefD) : PySem.W.Hook where
  α := Bool × He.AlD
  obs := fun s => obsM n fa fn s.heap.get?
  val := fun _ => (true, He.valD fn)
  says := fun _ h => ∃ K : PySem.W.Frag, K.In h ∧ SaysM fa fn K
  of := fun _ _ e => ⟨_, He.frG_in, congrArg Prod.fst e, congrArg Prod.snd e⟩
  keeps := fun _ _ _ ⟨K, hK, c⟩ k => ⟨K, PySem.W.Frag.In.keeps hK k, c⟩
theorem obsM_eq {n : Nat} {fa : List He.Fa} {fn : List He.DefD} {g : Addr → Option Obj} {s : Shared} (h : ∀ a, g a = s.heap.get? a) : obsM n fa fn g = (hookM n fa fn).obs s := by
  have e : g = s.heap.get? := funext h
  subst e
  rfl
theorem fact_mem {fa : List He.Fa} {fn : List He.DefD} {K : PySem.W.Frag} (c : He.SaysD fa fn K) {f : He.Fa} (h : f ∈ fa) : f.ok K = true := by
  obtain ⟨i, hi⟩ := List.getElem?_of_mem h
  exact c.fact i hi
/-- what the top has left, by the facts -/
theorem top_ok {fa : List He.Fa} {fn : List He.DefD} {K : PySem.W.Frag} {mg : Str → Option Value} {h base : Heap} {ks : List (Str × Int)} (X : K.In h) (G : h.Ns mainGlobals mg) (c : SaysM fa fn K) (B : K.In base) (hb : ∀ x ∈ blNames, He.Fa.free x ∈ fa) (hk : ∀ q ∈ ks, He.Fa.int q.1 q.2 ∈ fa) : TopOk mg base ks := by
  refine ⟨?_, fun x hx => He.free_ok X G (fact_mem c.2 (hb x hx)), fun x n hx => He.int_ok X G (fact_mem c.2 (hk (x, n) hx))⟩
  obtain ⟨o, ho⟩ := Option.isSome_iff_exists.mp c.1
  exact ⟨o, B _ _ ho⟩
end Ev
/-! Tools of the plain laws: data by their kinds, loops, comprehensions. -/
namespace Ev
open PySem PySem.Spec PyProof.Rows

/-! ### data of whole numbers -/
abbrev di (xs : List Int) : List D := xs.map PyData.int
abbrev ti (xs : List Int) : D := .tuple (di xs)
abbrev li (xs : List Int) : D := .list (di xs)
def SZn : Nat := SZ
theorem intsOf_di : ∀ xs : List Int, intsOf (di xs) = some xs
  | [] => rfl
  | x :: xs => by
    show (intsOf (di xs)).map (x :: ·) = _
    rw [intsOf_di xs]
    rfl
theorem lenOk_ok {ds : List D} {p : PS} (h : ds.length ≤ SZ) : lenOk ds p = .ok ds p := by
  unfold lenOk
  exact if_pos h
inductive All2 {α β : Type} (R : α → β → Prop) : List α → List β → Prop where
  | nil : All2 R [] []
  | cons {a : α} {b : β} {as : List α} {bs : List β} (h : R a b) (t : All2 R as bs) : All2 R (a :: as) (b :: bs)
theorem All2.length {α β : Type} {R : α → β → Prop} {as : List α} {bs : List β} (h : All2 R as bs) : bs.length = as.length := by
  induction h with
  | nil => rfl
  | cons _ _ ih => simp [ih]
theorem All2.right {α β : Type} {R : α → β → Prop} {S : β → Prop} {as : List α} {bs : List β} (h : All2 R as bs) (hs : ∀ a ∈ as, ∀ b, R a b → S b) : ∀ b ∈ bs, S b := by
  induction h with
  | nil => intro b hb; cases hb
  | cons h t ih =>
    intro b hb
    rcases List.mem_cons.mp hb with e | e
    · subst e
      exact hs _ (List.mem_cons_self ..) _ h
    · exact ih (fun a ha => hs a (List.mem_cons_of_mem _ ha)) b e
/-! ### comprehensions -/
theorem compL_fm {α : Type} {f : D → M (Option D)} {e : α → D} {g : α → Option D} : ∀ (xs : List α) (p : PS), (∀ x ∈ xs, ∀ p, f (e x) p = .ok (g x) p) → compL f (xs.map e) p = .ok (xs.filterMap g) p
  | [], p, _ => rfl
  | x :: xs, p, h => by
    show (f (e x) p).bind _ = _
    rw [h x (List.mem_cons_self ..)]
    show ((compL f (xs.map e) p).bind _) = _
    rw [compL_fm xs p fun y hy => h y (List.mem_cons_of_mem _ hy)]
    cases hx : g x with
    | none => simp [hx]
    | some y => simp [hx]
theorem compL_map {α : Type} {f : D → M (Option D)} {e : α → D} {g : α → D} (xs : List α) (p : PS) (h : ∀ x ∈ xs, ∀ p, f (e x) p = .ok (some (g x)) p) : compL f (xs.map e) p = .ok (xs.map g) p := by
  rw [compL_fm (g := fun x => some (g x)) xs p h, List.filterMap_eq_map']
theorem compL_filter {α : Type} {f : D → M (Option D)} {e : α → D} {t : α → Bool} {g : α → D} (xs : List α) (p : PS) (h : ∀ x ∈ xs, ∀ p, f (e x) p = .ok (if t x then some (g x) else none) p) : compL f (xs.map e) p = .ok ((xs.filter t).map g) p := by
  rw [compL_fm (g := fun x => if t x then some (g x) else none) xs p h]
  congr 1
  induction xs with
  | nil => rfl
  | cons x xs ih =>
    rw [List.filterMap_cons, List.filter_cons]
    cases t x with
    | true => simp [ih fun y hy => h y (List.mem_cons_of_mem _ hy)]
    | false => simp [ih fun y hy => h y (List.mem_cons_of_mem _ hy)]
/-- with draws -/
theorem compL_wp {f : D → M (Option D)} {I : PS → Prop} {R : D → D → Prop} : ∀ (xs : List D) (p : PS), (∀ x ∈ xs, ∀ p, I p → (f x p).Wp (fun o p' => I p' ∧ ∃ y, o = some y ∧ R x y) fun _ _ _ => False) → I p →
    (compL f xs p).Wp (fun ys p' => I p' ∧ All2 R xs ys) fun _ _ _ => False
  | [], p, _, hi => ⟨hi, .nil⟩
  | x :: xs, p, h, hi => by
    show ((f x p).bind _).Wp _ _
    rw [Out.wp_bind]
    refine (h x (List.mem_cons_self ..) p hi).mono (fun o p1 _ q => ?_) fun _ _ _ _ h => h
    obtain ⟨h1, y, rfl, hr⟩ := q
    rw [Out.wp_bind]
    refine (compL_wp xs p1 (fun y hy => h y (List.mem_cons_of_mem _ hy)) h1).mono (fun ys p2 _ q2 => ?_) fun _ _ _ _ h => h
    exact ⟨q2.1, .cons hr q2.2⟩
/-! ### loops -/
theorem forL_inv {α σ : Type} {f : D → Env → M Fl} {e : α → D} {g : σ → α → σ} {Inv : σ → Env → Prop} : ∀ (xs : List α) (s : σ) (env : Env) (p : PS), (∀ s env x p, x ∈ xs → Inv s env → ∃ env', f (e x) env p = .ok (.nx env') p ∧ Inv (g s x) env') → Inv s env →
    ∃ env', forL f (xs.map e) env p = .ok (.nx env') p ∧ Inv (xs.foldl g s) env'
  | [], s, env, p, _, hi => ⟨env, rfl, hi⟩
  | x :: xs, s, env, p, h, hi => by
    obtain ⟨env1, e1, i1⟩ := h s env x p (List.mem_cons_self ..) hi
    obtain ⟨env2, e2, i2⟩ := forL_inv xs (g s x) env1 p (fun s env y p hy => h s env y p (List.mem_cons_of_mem _ hy)) i1
    refine ⟨env2, ?_, i2⟩
    show ((f (e x) env p).bind _) = _
    rw [e1]
    exact e2
/-- a loop with draws, returns, breaks: Inv of the items left -/
theorem forL_wp {f : D → Env → M Fl} {Inv : List D → Env → PS → Prop} {B : Env → PS → Prop} {R : D → PS → Prop} {E : Nat → List D → PS → Prop} : ∀ (xs : List D) (env : Env) (p : PS),
    (∀ x rest env p, Inv (x :: rest) env p → (f x env p).Wp (fun fl p' => match fl with
      | .nx env' => Inv rest env' p'
      | .ct env' => Inv rest env' p'
      | .rt d => R d p'
      | .br env' => B env' p') E) → Inv xs env p →
    (forL f xs env p).Wp (fun fl p' => match fl with
      | .nx env' => Inv [] env' p' ∨ B env' p'
      | .rt d => R d p'
      | _ => False) E
  | [], env, p, _, hi => .inl hi
  | x :: xs, env, p, h, hi => by
    show ((f x env p).bind _).Wp _ _
    rw [Out.wp_bind]
    refine (h x xs env p hi).mono (fun fl p1 _ q => ?_) fun _ _ _ _ h => h
    cases fl with
    | nx env1 => exact forL_wp xs env1 p1 h q
    | ct env1 => exact forL_wp xs env1 p1 h q
    | rt d => exact q
    | br env1 => exact .inr q
/-! ### what is walked -/
theorem zipL_map {α β : Type} (e1 : α → D) (e2 : β → D) : ∀ (xs : List α) (ys : List β), zipL (xs.map e1) (ys.map e2) = (xs.zip ys).map fun q => .tuple [e1 q.1, e2 q.2]
  | [], _ => by simp [zipL]
  | _ :: _, [] => by simp [zipL]
  | x :: xs, y :: ys => by simp [zipL, zipL_map e1 e2 xs ys]
theorem enumL_map {α : Type} (e : α → D) : ∀ (xs : List α) (n : Nat), enumL n (xs.map e) = (xs.zipIdx n).map fun q => .tuple [.int q.2, e q.1]
  | [], _ => rfl
  | x :: xs, n => by simp [enumL, enumL_map e xs (n + 1)]
theorem rngL_nat (n : Nat) : rngL 0 (n : Int) = (List.range n).map fun (k : Nat) => .int (k : Int) := by
  simp [rngL]
theorem atI_map {α β : Type} (e : α → β) (xs : List α) (i : Int) : atI (xs.map e) i = (atI xs i).map e := by
  unfold atI L2.atI
  simp only [List.length_map, List.getElem?_map]
  cases L2.ixN xs.length i <;> rfl
end Ev
/-! The evaluator's steps as equations. -/
namespace Ev
open PySem PySem.Spec PyProof.Rows

section
variable {F : Nat → List D → M D} {env : Env} {b : Bool} {p : PS}
theorem ok_bind {α β : Type} (a : α) (p : PS) (f : α → M β) : (Out.ok a p).bind f = f a p := (rfl)
theorem bor0 {d : D} : borV (.va d :: env) 0 = some d := (rfl)
theorem borO {d : D} : borV (.ow d :: env) 0 = some d := (rfl)
theorem borS {s : Slot} {n : Nat} : borV (s :: env) (n + 1) = borV env n := (rfl)
theorem esc0 {d : D} : escV (.va d :: env) 0 = some d := (rfl)
theorem escS {s : Slot} {n : Nat} : escV (s :: env) (n + 1) = escV env n := (rfl)
theorem ownL0 {ds : List D} : ownLst (.ow (.list ds) :: env) 0 = some ds := (rfl)
theorem ownLS {s : Slot} {n : Nat} : ownLst (s :: env) (n + 1) = ownLst env n := (rfl)
theorem ownV0 {d : D} : ownV (.ow d :: env) 0 = some d := (rfl)
theorem ownVS {s : Slot} {n : Nat} : ownV (s :: env) (n + 1) = ownV env n := (rfl)
theorem set0 {s t : Slot} : List.set (s :: env) 0 t = t :: env := (rfl)
theorem setS {s t : Slot} {n : Nat} : List.set (s :: env) (n + 1) t = s :: List.set env n t := (rfl)
theorem set0' {α : Type} {s t : α} {env : List α} : List.set (s :: env) 0 t = t :: env := (rfl)
/-- one slot -/
def setV : Nat → Slot → Env → Option Env
  | _, _, [] => none
  | 0, t, _ :: env => some (t :: env)
  | n + 1, t, s :: env => (setV n t env).map (s :: ·)
theorem setV_eq : ∀ (n : Nat) (t : Slot) (env : Env), setV n t env = if n < env.length then some (env.set n t) else none
  | n, t, [] => by simp [setV]
  | 0, t, _ :: env => by simp [setV]
  | n + 1, t, s :: env => by
    rw [setV, setV_eq n t env]
    by_cases h : n < env.length
    · simp [h]
    · simp [h]
theorem setV0 {s t : Slot} : setV 0 t (s :: env) = some (t :: env) := (rfl)
theorem setVS {s t : Slot} {n : Nat} : setV (n + 1) t (s :: env) = (setV n t env).map (s :: ·) := (rfl)
theorem asg_nm {i : Nat} {d : D} : asgT (.nm i) d env = setV i (.va d) env := by
  rw [setV_eq]
  rfl
theorem asg_tp {ts : List Tg} {ds : List D} : asgT (.tp ts) (.tuple ds) env = asgTs ts ds env := by simp [asgT]
theorem asgs0 : asgTs [] [] env = some env := by simp [asgTs]
theorem asgsS {t : Tg} {ts : List Tg} {d : D} {ds : List D} : asgTs (t :: ts) (d :: ds) env = (asgT t d env).bind (asgTs ts ds) := by simp [asgTs]
theorem asgF_f {t : Tg} {d : D} : asgF t false d env = asgT t d env := by
  cases t <;> rfl
theorem asgF_l {i : Nat} {ds : List D} : asgF (.nm i) true (.list ds) env = setV i (.ow (.list ds)) env := by
  rw [setV_eq]
  simp [asgF, holdable]
theorem asgF_d {i : Nat} {ds : List (D × D)} : asgF (.nm i) true (.dict ds) env = setV i (.ow (.dict ds)) env := by
  rw [setV_eq]
  simp [asgF, holdable]
theorem parF0 : parF [] [] env = some env := (rfl)
theorem parFS {t : Tg} {fr : Bool} {ts : List (Tg × Bool)} {d : D} {ds : List D} : parF ((t, fr) :: ts) (d :: ds) env = (asgF t fr d env).bind (parF ts ds) := (rfl)
theorem bind_some {α β : Type} (a : α) (f : α → Option β) : (some a).bind f = f a := (rfl)
theorem map_some' {α β : Type} (a : α) (f : α → β) : (some a).map f = some (f a) := (rfl)
def wipe1 : Nat → Env → Env
  | _, [] => []
  | 0, _ :: env => .un :: env
  | n + 1, s :: env => s :: wipe1 n env
theorem wipe1_eq : ∀ (n : Nat) (env : Env), wipe1 n env = env.set n .un
  | n, [] => by cases n <;> rfl
  | 0, _ :: env => rfl
  | n + 1, s :: env => by simp [wipe1, wipe1_eq n env]
theorem wipe_nil : wipeE [] env = env := (rfl)
theorem wipe_cons {i : Nat} {r : List Nat} : wipeE (i :: r) env = wipe1 i (wipeE r env) := by rw [wipe1_eq]; rfl
theorem wipe10 {s : Slot} : wipe1 0 (s :: env) = .un :: env := (rfl)
theorem wipe1S {s : Slot} {n : Nat} : wipe1 (n + 1) (s :: env) = s :: wipe1 n env := (rfl)
def fz1 : Nat → Env → Env
  | _, [] => []
  | 0, s :: env => s.fz :: env
  | n + 1, s :: env => s :: fz1 n env
theorem fz1_eq : ∀ (n : Nat) (env : Env), fz1 n env = match env[n]? with
    | some s => env.set n s.fz
    | none => env
  | n, [] => by cases n <;> simp [fz1]
  | 0, _ :: env => by simp [fz1]
  | n + 1, s :: env => by
    rw [fz1, fz1_eq n env, List.getElem?_cons_succ]
    cases h : env[n]? <;> simp
theorem freeze_nil : freeze [] env = env := (rfl)
theorem freeze_cons {i : Nat} {r : List Nat} : freeze (i :: r) env = freeze r (fz1 i env) := by
  rw [fz1_eq]
  rfl
theorem fz10 {s : Slot} : fz1 0 (s :: env) = s.fz :: env := (rfl)
theorem fz1S {s : Slot} {n : Nat} : fz1 (n + 1) (s :: env) = s :: fz1 n env := (rfl)
theorem fz_ow {d : D} : Slot.fz (.ow d) = .va d := (rfl)
theorem fz_va {d : D} : Slot.fz (.va d) = .va d := (rfl)
theorem fz_un : Slot.fz .un = .un := (rfl)
theorem opt_bor {o : Option D} {p : PS} {d : D} (h : o = some d) : opt o p = .ok d p := by rw [h]; rfl
/-! values -/
variable {i j k : Int} {xs ys ds : List D} {x y d : D}
theorem s_add : binD .add (.int i) (.int j) = some (.int (i + j)) := (rfl)
theorem s_sub : binD .sub (.int i) (.int j) = some (.int (i - j)) := (rfl)
theorem s_mul (h1 : -18446744073709551616 < i) (h2 : i < 18446744073709551616) : binD .mul (.int i) (.int j) = some (.int (i * j)) := by
  have : small64 i = true := by simp only [small64, Bool.and_eq_true, decide_eq_true_eq]; omega
  simp [binD, this]
theorem s_mul' (h1 : -18446744073709551616 < j) (h2 : j < 18446744073709551616) : binD .mul (.int i) (.int j) = some (.int (i * j)) := by
  have : small64 j = true := by simp only [small64, Bool.and_eq_true, decide_eq_true_eq]; omega
  simp [binD, this]
theorem s_mod (h : 0 < j) : binD .mod (.int i) (.int j) = some (.int (i % j)) := by simp [binD, h]
theorem s_fdiv (h : 0 < j) (h2 : j < 1073741824) : binD .fdiv (.int i) (.int j) = some (.int (i / j)) := by simp [binD, h, h2]
theorem s_addT (h : xs.length + ys.length ≤ 16777216) : binD .add (.tuple xs) (.tuple ys) = some (.tuple (xs ++ ys)) := by simp [binD, h]
theorem s_addL (h : xs.length + ys.length ≤ 16777216) : binD .add (.list xs) (.list ys) = some (.list (xs ++ ys)) := by simp [binD, h]
theorem s_mulT (h : xs.length ≤ 1000) (h2 : k ≤ 1000) (h3 : -1000 ≤ k) : binD .mul (.tuple xs) (.int k) = some (.tuple (rep xs k)) := by simp [binD, h, h2, h3]
theorem s_mulL (h : repOk xs.length k = true) : binD .mul (.list xs) (.int k) = some (.list (rep xs k)) := by simp [binD, h]
theorem t_int : tru (.int i) = some (i != 0) := (rfl)
theorem t_bool {b : Bool} : tru (.bool b) = some b := (rfl)
theorem t_none : tru .none = some false := (rfl)
theorem t_list : tru (.list xs) = some (!xs.isEmpty) := (rfl)
theorem t_tuple : tru (.tuple xs) = some (!xs.isEmpty) := (rfl)
theorem s_len : biD .len [.list xs] = some (.int xs.length) := (rfl)
theorem s_lenT : biD .len [.tuple xs] = some (.int xs.length) := (rfl)
theorem s_tuple : biD .tuple [.list xs] = some (.tuple xs) := (rfl)
theorem s_tupleT : biD .tuple [.tuple xs] = some (.tuple xs) := (rfl)
theorem s_list : biD .list [.list xs] = some (.list xs) := (rfl)
theorem s_listT : biD .list [.tuple xs] = some (.list xs) := (rfl)
theorem s_int : biD .int [.int i] = some (.int i) := (rfl)
theorem s_intB {b : Bool} : biD .int [.bool b] = some (.int (if b then 1 else 0)) := (rfl)
theorem s_abs : biD .abs [.int i] = some (.int (if i < 0 then -i else i)) := (rfl)
theorem s_sum {ns : List Int} : biD .sum [.list (ns.map .int)] = some (.int ns.sum) := by
  show (intsOf (di ns)).map _ = _
  rw [intsOf_di]
  rfl
theorem s_ixL : ixD (.list xs) (.int i) = atI xs i := (rfl)
theorem s_ixT : ixD (.tuple xs) (.int i) = atI xs i := (rfl)
theorem s_slL {lo hi : Option Int} : slD lo hi (.list xs) = some (.list (cut xs lo hi)) := (rfl)
theorem s_slT {lo hi : Option Int} : slD lo hi (.tuple xs) = some (.tuple (cut xs lo hi)) := (rfl)
theorem s_revL : revD (.list xs) = some (.list xs.reverse) := (rfl)
theorem s_revT : revD (.tuple xs) = some (.tuple xs.reverse) := (rfl)
theorem s_intOf : intOf (.int i) = some i := (rfl)
theorem i_seqL : itemsOf .seq [.list xs] = some xs := (rfl)
theorem i_seqT : itemsOf .seq [.tuple xs] = some xs := (rfl)
theorem i_rng1 (h : j < 4611686018427387904) (h' : -4611686018427387904 ≤ j) : itemsOf .rng [.int j] = some (rngL 0 j) := by
  have : in62 j = true := by simp only [in62, Bool.and_eq_true, decide_eq_true_eq]; omega
  simp [itemsOf, this]
theorem i_rng2 (h1 : i < 4611686018427387904) (h1' : -4611686018427387904 ≤ i) (h : j < 4611686018427387904) (h' : -4611686018427387904 ≤ j) : itemsOf .rng [.int i, .int j] = some (rngL i j) := by
  have q : in62 j = true := by simp only [in62, Bool.and_eq_true, decide_eq_true_eq]; omega
  have r : in62 i = true := by simp only [in62, Bool.and_eq_true, decide_eq_true_eq]; omega
  simp [itemsOf, q, r]
theorem i_zip {x y : D} : itemsOf .zip [x, y] = (seqOf x).bind fun xs => (seqOf y).map fun ys => zipL xs ys := (rfl)
theorem i_enum {x : D} : itemsOf .enum [x] = (seqOf x).map (enumL 0) := (rfl)
theorem s_seqL : seqOf (.list xs) = some xs := (rfl)
theorem s_seqT : seqOf (.tuple xs) = some xs := (rfl)
theorem c_eq : cmpD .eq (.int i) (.int j) = some (decide (i = j)) := by
  simp [cmpD, eqD, SeqAt.shaped, PyData.canLay0, PyData.depth, PyData.eqv]
  rfl
theorem c_ne : cmpD .ne (.int i) (.int j) = some (!decide (i = j)) := by
  show (cmpD .eq (.int i) (.int j)).map _ = _
  rw [c_eq]
  rfl
theorem c_lt : cmpD .lt (.int i) (.int j) = some (decide (i < j)) := by simp [cmpD, ordOk, ordD, intC, SeqAt.shaped, PyData.canLay0, PyData.depth]
theorem c_le : cmpD .le (.int i) (.int j) = some (decide (i ≤ j)) := by simp [cmpD, ordOk, ordD, intC, SeqAt.shaped, PyData.canLay0, PyData.depth]
theorem c_gt : cmpD .gt (.int i) (.int j) = some (decide (j < i)) := by simp [cmpD, ordOk, ordD, intC, SeqAt.shaped, PyData.canLay0, PyData.depth]
theorem c_ge : cmpD .ge (.int i) (.int j) = some (decide (j ≤ i)) := by simp [cmpD, ordOk, ordD, intC, SeqAt.shaped, PyData.canLay0, PyData.depth]
theorem calF_0 {c : Cal} {cs : List Cal} : calF (c :: cs) 0 = c.G := (rfl)
theorem calF_S {c : Cal} {cs : List Cal} {n : Nat} : calF (c :: cs) (n + 1) = calF cs n := (rfl)
theorem pick0 {α : Type} {xs : List α} : pick xs [] = some [] := (rfl)
theorem pickS {α : Type} {xs : List α} {j : Nat} {r : List Nat} : pick xs (j :: r) = (xs[j]?).bind fun d => (pick xs r).map (d :: ·) := (rfl)
theorem get0 {α : Type} {x : α} {xs : List α} : (x :: xs)[0]? = some x := (rfl)
theorem getS {α : Type} {x : α} {xs : List α} {n : Nat} : (x :: xs)[n + 1]? = xs[n]? := (rfl)
theorem calm_ok {α : Type} {a : α} : (Out.ok a p).calm = .ok a p := (rfl)
theorem rep_int {a : D} (k : Int) : rep [a] k = List.replicate k.toNat a := by
  unfold rep
  induction k.toNat with
  | zero => rfl
  | succ n ih => rw [List.replicate_succ, List.flatten_cons, ih]; rfl
end
end Ev
namespace Ev
open PySem PySem.Spec PyProof.Rows
theorem compL_mapE {α β : Type} {f : D → M (Option D)} {e : α → D} (k : β → D) (g : α → β) (xs : List α) (p : PS) (h : ∀ x ∈ xs, ∀ p, f (e x) p = .ok (some (k (g x))) p) : compL f (xs.map e) p = .ok ((xs.map g).map k) p := by
  rw [compL_map (g := fun x => k (g x)) xs p h, List.map_map]
  rfl
theorem compL_filE {α β : Type} {f : D → M (Option D)} {e : α → D} (t : α → Bool) (k : β → D) (g : α → β) (xs : List α) (p : PS) (h : ∀ x ∈ xs, ∀ p, f (e x) p = .ok (if t x then some (k (g x)) else none) p) : compL f (xs.map e) p = .ok (((xs.filter t).map g).map k) p := by
  rw [compL_filter (t := t) (g := fun x => k (g x)) xs p h, List.map_map]
  rfl
theorem atI_ofNat {α : Type} {xs : List α} {c : Nat} (h : c < xs.length) : atI xs (c : Int) = some xs[c] := by
  unfold atI L2.atI L2.ixN
  simp [h]
theorem at_di {xs : List Int} {c : Nat} (h : c < xs.length) : atI (di xs) (c : Int) = some (.int (xs.getD c 0)) := by
  rw [atI_ofNat (by simpa using h)]
  simp [List.getD_eq_getElem?_getD, h]
theorem at_map {α : Type} {e : α → D} {xs : List α} {c : Nat} (h : c < xs.length) : atI (xs.map e) (c : Int) = some (e xs[c]) := by
  rw [atI_ofNat (by simpa using h)]
  simp
theorem at_zero {x : D} {xs : List D} : atI (x :: xs) 0 = some x := by
  have := atI_ofNat (xs := x :: xs) (c := 0) (by simp)
  exact this
theorem at_one {x y : D} {xs : List D} : atI (x :: y :: xs) 1 = some y := by
  have := atI_ofNat (xs := x :: y :: xs) (c := 1) (by simp)
  exact this
theorem map_cons' {α β : Type} {e : α → β} {x : α} {xs : List α} : (x :: xs).map e = e x :: xs.map e := (rfl)
end Ev
/-! Data that are not too great: what is shown, held against each other. -/
namespace Ev
open PySem PySem.Spec PyProof.Rows

def TxOk (s : Str) : Prop := ∀ c ∈ s.cps.toList, c < 0x110000
theorem TxOk.append {x y : Str} (h1 : TxOk x) (h2 : TxOk y) : TxOk (x ++ y) := by
  intro c hc
  have e : (x ++ y).cps = x.cps ++ y.cps := rfl
  rw [e, Array.toList_append, List.mem_append] at hc
  exact hc.elim (h1 c) (h2 c)
theorem TxOk.of {s : Str} (h : PyData.strOk s = true) : TxOk s := by
  intro c hc
  unfold PyData.strOk at h
  rw [Array.all_eq_true_iff_forall_mem] at h
  exact of_decide_eq_true (h c (Array.mem_def.mpr hc))
theorem TxOk.ok {s : Str} (h : TxOk s) : PyData.strOk s = true := by
  unfold PyData.strOk
  rw [Array.all_eq_true_iff_forall_mem]
  exact fun c hc => decide_eq_true (h c (Array.mem_def.mp hc))
theorem TxOk.lit {s : Str} (h : PyData.strOk s = true := by decide +kernel) : TxOk s := .of h
theorem TxOk.num (i : Int) : TxOk (Str.ofString (toString i)) := by
  intro c hc
  rw [Str.ofString_eq_toList] at hc
  simp only [List.mem_map] at hc
  obtain ⟨x, hx, rfl⟩ := hc
  have := int_ascii i x hx
  omega
theorem TxOk.join : ∀ ts : List Str, (∀ t ∈ ts, TxOk t) → TxOk (Str.join ", " ts)
  | [], _ => by
    show TxOk Str.empty
    exact .lit
  | [x], h => h x (List.mem_cons_self ..)
  | x :: y :: r, h => by
    show TxOk (x ++ ", " ++ Str.join ", " (y :: r))
    exact ((h x (List.mem_cons_self ..)).append .lit).append (TxOk.join (y :: r) fun t ht => h t (List.mem_cons_of_mem _ ht))
theorem TxOk.from_ : ∀ (ts : List Str) (k : Nat) (acc : Str), TxOk acc → (∀ t ∈ ts, TxOk t) → TxOk (textFrom k acc ts)
  | [], k, acc, ha, _ => ha
  | t :: ts, k, acc, ha, h => by
    show TxOk (textFrom (k + 1) (acc ++ (if k > 0 then ", " else "" : String) ++ t) ts)
    refine TxOk.from_ ts _ _ ((ha.append ?_).append (h t (List.mem_cons_self ..))) fun t ht => h t (List.mem_cons_of_mem _ ht)
    split <;> exact .lit
/-- may be laid, shown; so deep at most; so long a text at most -/
structure Ok (n k : Nat) (d : D) : Prop where
  lay : d.canLay0 = true
  sho : d.showable = true
  dep : d.depth ≤ k
  len : d.shown.length ≤ n
  txt : TxOk d.shown
theorem Ok.mono {n k n' k' : Nat} {d : D} (h : Ok n k d) (hn : n ≤ n') (hk : k ≤ k') : Ok n' k' d := ⟨h.lay, h.sho, Nat.le_trans h.dep hk, Nat.le_trans h.len hn, h.txt⟩
theorem Ok.none : Ok 4 0 (.none : D) := ⟨rfl, rfl, Nat.le_refl _, by decide +kernel, .lit⟩
theorem Ok.bool (b : Bool) : Ok 5 0 (.bool b : D) := ⟨rfl, rfl, Nat.le_refl _, by cases b <;> decide +kernel, by cases b <;> exact .lit⟩
theorem Ok.int {m : Nat} (hm : 0 < m) (hm2 : m ≤ 500) {i : Int} (h : i.natAbs < 10 ^ m) : Ok (m + 1) 0 (.int i : D) := by
  refine ⟨rfl, ?_, Nat.le_refl _, ?_, by simp only [PyData.shown]; exact .num i⟩
  · simp only [PyData.showable, decide_eq_true_eq]
    by_cases h0 : i.natAbs = 0
    · rw [h0]
      decide
    · rw [Nat.log2_lt h0]
      refine Nat.lt_of_lt_of_le h ?_
      calc 10 ^ m ≤ 10 ^ 500 := Nat.pow_le_pow_right (by decide) hm2
        _ ≤ 2 ^ 1920 := by decide +kernel
  · simp only [PyData.shown]
    rw [PySem.ofString_length]
    exact int_text_length_le10 hm h
theorem Ok.int9 {i : Int} (h1 : -1000000000 < i) (h2 : i < 1000000000) : Ok 10 0 (.int i : D) := Ok.int (m := 9) (by decide) (by decide) (by omega)
theorem textFrom_le : ∀ (ts : List Str) (n k : Nat) (acc : Str), (∀ t ∈ ts, t.length ≤ n) → (textFrom k acc ts).length ≤ acc.length + ts.length * (n + 2)
  | [], n, k, acc, _ => by simp [textFrom]
  | t :: ts, n, k, acc, h => by
    have ih := textFrom_le ts n (k + 1) (acc ++ (if k > 0 then ", " else "" : String) ++ t) fun t ht => h t (List.mem_cons_of_mem _ ht)
    have h1 := h t (List.mem_cons_self ..)
    have e : (((if k > 0 then ", " else "" : String) : Str)).length ≤ 2 := by split <;> decide
    rw [strLen_append, strLen_append] at ih
    show (textFrom (k + 1) (acc ++ (if k > 0 then ", " else "" : String) ++ t) ts).length ≤ _
    rw [List.length_cons, Nat.succ_mul]
    omega
theorem join_le : ∀ (ts : List Str) (n : Nat), (∀ t ∈ ts, t.length ≤ n) → (Str.join ", " ts).length ≤ ts.length * (n + 2)
  | [], n, _ => by
    show (Str.empty).length ≤ _
    exact Nat.zero_le _
  | [x], n, h => by
    have h1 := h x (List.mem_cons_self ..)
    show x.length ≤ _
    simp
    omega
  | x :: y :: r, n, h => by
    have h1 := h x (List.mem_cons_self ..)
    have ih := join_le (y :: r) n fun t ht => h t (List.mem_cons_of_mem _ ht)
    show (x ++ ", " ++ Str.join ", " (y :: r)).length ≤ _
    have e2 : ((", " : String) : Str).length = 2 := rfl
    rw [strLen_append, strLen_append, e2, List.length_cons (as := y :: r), Nat.succ_mul]
    omega
theorem shownAll_mem : ∀ (xs : List D) (n : Nat), (∀ x ∈ xs, x.shown.length ≤ n) → ∀ t ∈ PyData.shownAll xs, t.length ≤ n
  | [], n, _, t, ht => by simp [PyData.shownAll] at ht
  | x :: xs, n, h, t, ht => by
    simp only [PyData.shownAll, List.mem_cons] at ht
    rcases ht with rfl | ht
    · exact h x (List.mem_cons_self ..)
    · exact shownAll_mem xs n (fun y hy => h y (List.mem_cons_of_mem _ hy)) t ht
theorem shownAll_length : ∀ xs : List D, (PyData.shownAll xs).length = xs.length
  | [] => by simp [PyData.shownAll]
  | x :: xs => by simp [PyData.shownAll, shownAll_length xs]
theorem shownAll_tx : ∀ (xs : List D), (∀ x ∈ xs, TxOk x.shown) → ∀ t ∈ PyData.shownAll xs, TxOk t
  | [], _, t, ht => by simp [PyData.shownAll] at ht
  | x :: xs, h, t, ht => by
    simp only [PyData.shownAll, List.mem_cons] at ht
    rcases ht with rfl | ht
    · exact h x (List.mem_cons_self ..)
    · exact shownAll_tx xs (fun y hy => h y (List.mem_cons_of_mem _ hy)) t ht
theorem layAll_of : ∀ xs : List D, (∀ x ∈ xs, x.canLay0 = true) → PyData.canLayAll0 xs = true
  | [], _ => by simp [PyData.canLayAll0]
  | x :: xs, h => by
    simp only [PyData.canLayAll0, Bool.and_eq_true]
    exact ⟨h x (List.mem_cons_self ..), layAll_of xs fun y hy => h y (List.mem_cons_of_mem _ hy)⟩
theorem showAll_of : ∀ xs : List D, (∀ x ∈ xs, x.showable = true) → PyData.showableAll xs = true
  | [], _ => by simp [PyData.showableAll]
  | x :: xs, h => by
    simp only [PyData.showableAll, Bool.and_eq_true]
    exact ⟨h x (List.mem_cons_self ..), showAll_of xs fun y hy => h y (List.mem_cons_of_mem _ hy)⟩
theorem depthAll_of : ∀ (xs : List D) (k : Nat), (∀ x ∈ xs, x.depth ≤ k) → PyData.depthAll xs ≤ k
  | [], k, _ => by simp [PyData.depthAll]
  | x :: xs, k, h => by
    simp only [PyData.depthAll]
    exact Nat.max_le.mpr ⟨h x (List.mem_cons_self ..), depthAll_of xs k fun y hy => h y (List.mem_cons_of_mem _ hy)⟩
theorem Ok.list {n k m : Nat} {xs : List D} (h : ∀ x ∈ xs, Ok n k x) (hm : xs.length ≤ m) : Ok (m * (n + 2) + 2) (k + 1) (.list xs : D) := by
  refine ⟨by simp only [PyData.canLay0]; exact layAll_of xs fun x hx => (h x hx).lay, by simp only [PyData.showable]; exact showAll_of xs fun x hx => (h x hx).sho, ?_, ?_, ?_⟩
  · simp only [PyData.depth]
    exact Nat.succ_le_succ (depthAll_of xs k fun x hx => (h x hx).dep)
  · simp only [PyData.shown, listText]
    have e := textFrom_le (PyData.shownAll xs) n 0 "[" (shownAll_mem xs n fun x hx => (h x hx).len)
    rw [shownAll_length] at e
    have e1 : ((("[" : String) : Str)).length = 1 := rfl
    have e2 : ((("]" : String) : Str)).length = 1 := rfl
    have e3 := Nat.mul_le_mul_right (n + 2) hm
    rw [strLen_append, e2]
    omega
  · simp only [PyData.shown, listText]
    exact (TxOk.from_ _ _ _ .lit (shownAll_tx xs fun x hx => (h x hx).txt)).append .lit
theorem Ok.tuple {n k m : Nat} {xs : List D} (h : ∀ x ∈ xs, Ok n k x) (hm : xs.length ≤ m) : Ok (m * (n + 2) + 3) (k + 1) (.tuple xs : D) := by
  refine ⟨by simp only [PyData.canLay0]; exact layAll_of xs fun x hx => (h x hx).lay, by simp only [PyData.showable]; exact showAll_of xs fun x hx => (h x hx).sho, ?_, ?_, ?_⟩
  · simp only [PyData.depth]
    exact Nat.succ_le_succ (depthAll_of xs k fun x hx => (h x hx).dep)
  · simp only [PyData.shown, tupleText]
    have e := join_le (PyData.shownAll xs) n (shownAll_mem xs n fun x hx => (h x hx).len)
    rw [shownAll_length] at e
    have e1 : ((("(" : String) : Str)).length = 1 := rfl
    have e3 := Nat.mul_le_mul_right (n + 2) hm
    have e4 : (((if (PyData.shownAll xs).length == 1 then ",)" else ")" : String) : Str)).length ≤ 2 := by split <;> decide
    rw [strLen_append, strLen_append, e1]
    omega
  · simp only [PyData.shown, tupleText]
    refine (TxOk.append .lit (TxOk.join _ (shownAll_tx xs fun x hx => (h x hx).txt))).append ?_
    split <;> exact .lit
/-- the items of what is so -/
theorem Ok.ints {xs : List Int} (h : ∀ x ∈ xs, -1000000000 < x ∧ x < 1000000000) : ∀ d ∈ di xs, Ok 10 0 d := by
  intro d hd
  obtain ⟨x, hx, rfl⟩ := List.mem_map.mp hd
  exact Ok.int9 (h x hx).1 (h x hx).2
theorem Ok.shaped {n k : Nat} {d : D} (h : Ok n k d) (hk : k ≤ 64) : SeqAt.shaped d = true := by
  simp only [SeqAt.shaped, h.lay, Bool.true_and, decide_eq_true_eq]
  exact Nat.le_trans h.dep hk
theorem s_reprL {n k : Nat} {xs : List D} (h : Ok n k (.list xs)) (hk : k ≤ 64) (hn : n ≤ 16777216) : biD .repr [.list xs] = some (.str (PyData.list xs).shown) := by
  have h1 := h.sho
  have h2 := Nat.le_trans h.dep hk
  have h3 := Nat.le_trans h.len hn
  simp [biD, h1, h2, h3]
theorem s_reprT {n k : Nat} {xs : List D} (h : Ok n k (.tuple xs)) (hk : k ≤ 64) (hn : n ≤ 16777216) : biD .repr [.tuple xs] = some (.str (PyData.tuple xs).shown) := by
  have h1 := h.sho
  have h2 := Nat.le_trans h.dep hk
  have h3 := Nat.le_trans h.len hn
  simp [biD, h1, h2, h3]
theorem c_eqS {s t : Str} (hs : TxOk s) (ht : TxOk t) : cmpD .eq (.str s) (.str t) = some (decide (s = t)) := by
  have h1 : SeqAt.shaped (.str s) = true := by simp [SeqAt.shaped, PyData.canLay0, hs.ok, PyData.depth]
  have h2 : SeqAt.shaped (.str t) = true := by simp [SeqAt.shaped, PyData.canLay0, ht.ok, PyData.depth]
  simp only [cmpD, eqD, h1, h2, PyData.eqv]
  by_cases e : s = t <;> simp [e]
theorem c_neS {s t : Str} (hs : TxOk s) (ht : TxOk t) : cmpD .ne (.str s) (.str t) = some (!decide (s = t)) := by
  show (cmpD .eq (.str s) (.str t)).map _ = _
  rw [c_eqS hs ht]
  rfl
/-! ### held against each other -/
mutual
theorem eqv_refl : ∀ d : D, d.canLay0 = true → PyData.eqv d d = true
  | .none, _ => by simp [PyData.eqv]
  | .bool b, _ => by simp [PyData.eqv]
  | .int i, _ => by simp [PyData.eqv]
  | .str s, _ => by simp [PyData.eqv]
  | .list xs, h => by
    simp only [PyData.eqv]
    exact eqvAll_refl xs (by simpa only [PyData.canLay0] using h)
  | .tuple xs, h => by
    simp only [PyData.eqv]
    exact eqvAll_refl xs (by simpa only [PyData.canLay0] using h)
  | .dict _, h => by simp [PyData.canLay0] at h
theorem eqvAll_refl : ∀ xs : List D, PyData.canLayAll0 xs = true → PyData.eqvAll xs xs = true
  | [], _ => by simp [PyData.eqvAll]
  | x :: xs, h => by
    simp only [PyData.canLayAll0, Bool.and_eq_true] at h
    simp only [PyData.eqvAll, Bool.and_eq_true]
    exact ⟨eqv_refl x h.1, eqvAll_refl xs h.2⟩
end
theorem eqvAll_map {α : Type} [DecidableEq α] {e : α → D} (h : ∀ x y, PyData.eqv (e x) (e y) = decide (x = y)) : ∀ xs ys : List α, PyData.eqvAll (xs.map e) (ys.map e) = decide (xs = ys)
  | [], [] => by simp [PyData.eqvAll]
  | [], _ :: _ => by simp [PyData.eqvAll]
  | _ :: _, [] => by simp [PyData.eqvAll]
  | x :: xs, y :: ys => by
    simp only [List.map_cons, PyData.eqvAll, h, eqvAll_map h xs ys, List.cons.injEq, Bool.decide_and]
theorem eqv_int (x y : Int) : PyData.eqv (.int x) (.int y) = decide (x = y) := by simp only [PyData.eqv]; rfl
theorem eqv_di (xs ys : List Int) : PyData.eqvAll (di xs) (di ys) = decide (xs = ys) := eqvAll_map eqv_int xs ys
theorem eqv_ti (xs ys : List Int) : PyData.eqv (ti xs) (ti ys) = decide (xs = ys) := by simp only [PyData.eqv]; exact eqv_di xs ys
theorem eqv_li (xs ys : List Int) : PyData.eqv (li xs) (li ys) = decide (xs = ys) := by simp only [PyData.eqv]; exact eqv_di xs ys
/-- against the empty one -/
theorem c_neL0 {xs : List D} (h : SeqAt.shaped (.list xs) = true) : cmpD .ne (.list xs) (.list []) = some (!xs.isEmpty) := by
  have h2 : SeqAt.shaped (.list ([] : List D)) = true := rfl
  simp only [cmpD, eqD, h, h2]
  cases xs <;> simp [PyData.eqv, PyData.eqvAll]
theorem c_eqL0 {xs : List D} (h : SeqAt.shaped (.list xs) = true) : cmpD .eq (.list xs) (.list []) = some xs.isEmpty := by
  have h2 : SeqAt.shaped (.list ([] : List D)) = true := rfl
  simp only [cmpD, eqD, h, h2]
  cases xs <;> simp [PyData.eqv, PyData.eqvAll]
theorem c_eqT0 {xs : List D} (h : SeqAt.shaped (.tuple xs) = true) : cmpD .eq (.tuple xs) (.tuple []) = some xs.isEmpty := by
  have h2 : SeqAt.shaped (.tuple ([] : List D)) = true := rfl
  simp only [cmpD, eqD, h, h2]
  cases xs <;> simp [PyData.eqv, PyData.eqvAll]
theorem any_di (x : Int) : ∀ ys : List Int, ((di ys).any fun z => PyData.eqv z (.int x)) = decide (x ∈ ys)
  | [] => by simp
  | y :: ys => by
    have e : di (y :: ys) = .int y :: di ys := rfl
    rw [e, List.any_cons, eqv_int, any_di x ys]
    by_cases e : y = x
    · simp [e]
    · simp [e, Ne.symm e]
theorem shaped_di (ys : List Int) : SeqAt.shaped (.list (di ys)) = true := by
  simp only [SeqAt.shaped, PyData.canLay0, PyData.depth, Bool.and_eq_true, decide_eq_true_eq]
  have h0 : PyData.depthAll (di ys) ≤ 0 := depthAll_of _ 0 fun d hd => by
    obtain ⟨i, _, rfl⟩ := List.mem_map.mp hd
    exact Nat.le_refl _
  constructor
  · refine layAll_of _ fun d hd => ?_
    obtain ⟨i, _, rfl⟩ := List.mem_map.mp hd
    rfl
  · refine decide_eq_true (p := (PyData.list (di ys)).depth ≤ 64) ?_
    simp only [PyData.depth]
    omega
theorem memD_di {x : Int} {ys : List Int} : memD (.int x) (.list (di ys)) = some (decide (x ∈ ys)) := by
  have h1 : SeqAt.shaped (.int x) = true := rfl
  simp only [memD, h1, shaped_di ys, any_di]
  simp
end Ev
/-! Rows led by steps (plain). -/
namespace Ev
abbrev Row := List Int
def Pr (p : Int) : Prop := p = 2 ∨ p = 3 ∨ p = 5 ∨ p = 7
theorem Pr.pos {p : Int} (h : Pr p) : 0 < p := by rcases h with h | h | h | h <;> omega
theorem Pr.le {p : Int} (h : Pr p) : p ≤ 7 := by rcases h with h | h | h | h <;> omega
theorem Pr.ge {p : Int} (h : Pr p) : 2 ≤ p := by rcases h with h | h | h | h <;> omega
def inv (p x : Int) : Int := x ^ (p.toNat - 2) % p
theorem inv_ok {p x : Int} (hp : Pr p) (h1 : 0 < x) (h2 : x < p) : x * inv p x % p = 1 := by
  rcases hp with rfl | rfl | rfl | rfl
  · have : x = 1 := by omega
    subst this; decide
  · have : x = 1 ∨ x = 2 := by omega
    rcases this with rfl | rfl <;> decide
  · have : x = 1 ∨ x = 2 ∨ x = 3 ∨ x = 4 := by omega
    rcases this with rfl | rfl | rfl | rfl <;> decide
  · have : x = 1 ∨ x = 2 ∨ x = 3 ∨ x = 4 ∨ x = 5 ∨ x = 6 := by omega
    rcases this with rfl | rfl | rfl | rfl | rfl | rfl <;> decide
def InP (p : Int) (r : Row) : Prop := ∀ x ∈ r, 0 ≤ x ∧ x < p
def RowOk (p : Int) (n : Nat) (r : Row) : Prop := r.length = n ∧ InP p r
abbrev at0 (r : Row) (c : Nat) : Int := r.getD c 0
def less (p : Int) (row head : Row) (t : Int) : Row := List.zipWith (fun x y => (x - t * y) % p) row head
def scale (p k : Int) (row : Row) : Row := row.map fun x => x * k % p
def dot (z r : Row) : Int := (List.zipWith (· * ·) z r).sum
def Orth (p : Int) (z r : Row) : Prop := p ∣ dot z r
theorem at0_of_le {r : Row} {c : Nat} (h : r.length ≤ c) : at0 r c = 0 := by simp [at0, List.getD_eq_getElem?_getD, List.getElem?_eq_none h]
theorem at0_in {p : Int} {r : Row} (hp : 0 < p) (h : InP p r) (c : Nat) : 0 ≤ at0 r c ∧ at0 r c < p := by
  by_cases hc : c < r.length
  · have e : at0 r c = r[c] := by simp [at0, List.getD_eq_getElem?_getD, hc]
    rw [e]
    exact h _ (List.getElem_mem hc)
  · rw [at0_of_le (by omega)]
    exact ⟨Int.le_refl _, hp⟩
theorem less_length {p t : Int} {row head : Row} {n : Nat} (h1 : row.length = n) (h2 : head.length = n) : (less p row head t).length = n := by simp [less, h1, h2]
theorem at0_less {p t : Int} {row head : Row} {n : Nat} (h1 : row.length = n) (h2 : head.length = n) (c : Nat) : at0 (less p row head t) c = (at0 row c - t * at0 head c) % p := by
  by_cases hc : c < n
  · simp [at0, less, List.getD_eq_getElem?_getD, List.getElem?_zipWith, h1, h2, hc]
  · rw [at0_of_le (by rw [less_length h1 h2]; omega), at0_of_le (by omega), at0_of_le (by omega)]
    simp
theorem at0_scale {p k : Int} {row : Row} (c : Nat) : at0 (scale p k row) c = at0 row c * k % p := by
  by_cases hc : c < row.length
  · simp [at0, scale, List.getD_eq_getElem?_getD, hc]
  · rw [at0_of_le (by simp [scale]; omega), at0_of_le (by omega)]
    simp
theorem less_in {p t : Int} (hp : 0 < p) {row head : Row} : InP p (less p row head t) := by
  intro x hx
  unfold less at hx
  obtain ⟨i, hi, rfl⟩ := List.mem_iff_getElem.mp hx
  rw [List.getElem_zipWith]
  exact ⟨Int.emod_nonneg _ (by omega), Int.emod_lt_of_pos _ hp⟩
theorem scale_in {p k : Int} (hp : 0 < p) {row : Row} : InP p (scale p k row) := by
  intro x hx
  obtain ⟨y, _, rfl⟩ := List.mem_map.mp hx
  exact ⟨Int.emod_nonneg _ (by omega), Int.emod_lt_of_pos _ hp⟩
theorem less_zero {p : Int} {row head : Row} (h : InP p row) (hl : row.length = head.length) : less p row head 0 = row := by
  induction row generalizing head with
  | nil => simp [less]
  | cons x row ih =>
    cases head with
    | nil => simp at hl
    | cons y head =>
      have hx := h x (List.mem_cons_self ..)
      have e := ih (head := head) (fun z hz => h z (List.mem_cons_of_mem _ hz)) (by simpa using hl)
      unfold less at e ⊢
      rw [List.zipWith_cons_cons, e]
      congr 1
      rw [Int.zero_mul, Int.sub_zero, Int.emod_eq_of_lt hx.1 hx.2]
theorem dot_less {p t : Int} : ∀ {z row head : Row}, row.length = head.length → p ∣ dot z (less p row head t) - (dot z row - t * dot z head)
  | [], row, head, _ => by simp [dot]
  | _ :: _, [], [], _ => by simp [dot, less]
  | z :: zs, x :: row, y :: head, hl => by
    have ih := dot_less (p := p) (t := t) (z := zs) (row := row) (head := head) (by simpa using hl)
    simp only [dot, less, List.zipWith_cons_cons, List.sum_cons] at ih ⊢
    have e : (x - t * y) % p = (x - t * y) - p * ((x - t * y) / p) := by rw [Int.emod_def]
    rw [e]
    obtain ⟨k, hk⟩ := ih
    refine ⟨k - z * ((x - t * y) / p), ?_⟩
    have e2 : (List.zipWith (· * ·) zs (List.zipWith (fun x y => (x - t * y) % p) row head)).sum = (List.zipWith (· * ·) zs row).sum - t * (List.zipWith (· * ·) zs head).sum + p * k := by omega
    rw [e2]
    generalize (x - t * y) / p = q
    simp only [Int.mul_sub, Int.mul_add, Int.mul_left_comm z p q, Int.mul_left_comm z t y]
    omega
  | _ :: _, [], _ :: _, hl => by simp at hl
  | _ :: _, _ :: _, [], hl => by simp at hl
theorem dot_scale {p k : Int} : ∀ {z row : Row}, p ∣ dot z (scale p k row) - k * dot z row
  | [], row => by simp [dot]
  | _ :: _, [] => by simp [dot, scale]
  | z :: zs, x :: row => by
    have ih := dot_scale (p := p) (k := k) (z := zs) (row := row)
    simp only [dot, scale, List.map_cons, List.zipWith_cons_cons, List.sum_cons] at ih ⊢
    have e : x * k % p = x * k - p * (x * k / p) := by rw [Int.emod_def]
    rw [e]
    obtain ⟨j, hj⟩ := ih
    refine ⟨j - z * (x * k / p), ?_⟩
    have e2 : (List.zipWith (· * ·) zs (List.map (fun x => x * k % p) row)).sum = k * (List.zipWith (· * ·) zs row).sum + p * j := by omega
    rw [e2]
    generalize x * k / p = q
    simp only [Int.mul_sub, Int.mul_add, Int.mul_left_comm z p q, Int.mul_left_comm k z x, Int.mul_comm k x]
    omega
theorem orth_less {p t : Int} {z row head : Row} (hl : row.length = head.length) (h : Orth p z head) : Orth p z (less p row head t) ↔ Orth p z row := by
  have d := dot_less (p := p) (t := t) (z := z) hl
  have e : dot z (less p row head t) = (dot z (less p row head t) - (dot z row - t * dot z head)) + (dot z row - t * dot z head) := by omega
  unfold Orth at h ⊢
  have ht : p ∣ t * dot z head := Int.dvd_mul_of_dvd_right h
  constructor
  · intro q
    have e2 : dot z row = dot z (less p row head t) - (dot z (less p row head t) - (dot z row - t * dot z head)) + t * dot z head := by omega
    rw [e2]
    exact Int.dvd_add (Int.dvd_sub q d) ht
  · intro q
    rw [e]
    exact Int.dvd_add d (Int.dvd_sub q ht)
theorem orth_scale {p k : Int} {z row : Row} (h : Orth p z row) : Orth p z (scale p k row) := by
  have d := dot_scale (p := p) (k := k) (z := z) (row := row)
  unfold Orth at h ⊢
  have e : dot z (scale p k row) = (dot z (scale p k row) - k * dot z row) + k * dot z row := by omega
  rw [e]
  exact Int.dvd_add d (Int.dvd_mul_of_dvd_right h)
/-- back from a row times what can be undone -/
theorem orth_unscale {p k u : Int} {z row : Row} (hu : u * k % p = 1) (h : Orth p z (scale p k row)) : Orth p z row := by
  have d := dot_scale (p := p) (k := k) (z := z) (row := row)
  unfold Orth at h ⊢
  have e : k * dot z row = dot z (scale p k row) - (dot z (scale p k row) - k * dot z row) := by omega
  have h2 : p ∣ k * dot z row := by rw [e]; exact Int.dvd_sub h d
  have h3 : p ∣ u * (k * dot z row) := Int.dvd_mul_of_dvd_right h2
  have e4 : u * k = 1 + p * (u * k / p) := by
    have := Int.emod_add_mul_ediv (u * k) p
    omega
  have e5 : dot z row = u * (k * dot z row) - p * ((u * k / p) * dot z row) := by
    rw [← Int.mul_assoc, e4, Int.add_mul, Int.one_mul, Int.mul_assoc]
    have : (1 + p * (u * k / p)) / p = u * k / p := by rw [← e4]
    rw [this]
    omega
  rw [e5]
  exact Int.dvd_sub h3 (Int.dvd_mul_right ..)
/-! ### the steps -/
def isLed (c : Nat) (r : Row) : Bool := at0 r c != 0
def stepR (p : Int) (s : List Row × List Row) (c : Nat) : List Row × List Row :=
  match s.1.find? (isLed c) with
  | none => s
  | some r => ((s.1.eraseP (isLed c)).map fun row => less p row (scale p (inv p (at0 r c)) r) (at0 row c), (s.2.map fun row => less p row (scale p (inv p (at0 r c)) r) (at0 row c)) ++ [scale p (inv p (at0 r c)) r])
def red (p : Int) (n : Nat) (rows : List Row) : List Row := ((List.range n).foldl (stepR p) (rows, [])).2
/-- the first place that is not 0 -/
def hd (r : Row) : Nat := r.findIdx (· != 0)
structure Led (p : Int) (n c : Nat) (s : List Row × List Row) : Prop where
  left : ∀ r ∈ s.1, RowOk p n r ∧ ∀ k, k < c → at0 r k = 0
  done : ∀ r ∈ s.2, RowOk p n r ∧ hd r < c ∧ at0 r (hd r) = 1
  apart : s.2.Pairwise fun r q => at0 r (hd q) = 0 ∧ at0 q (hd r) = 0
theorem hd_eq {r : Row} {c : Nat} (h1 : at0 r c ≠ 0) (h2 : ∀ k, k < c → at0 r k = 0) : hd r = c := by
  have hc : c < r.length := by
    refine Nat.lt_of_not_le fun q => h1 (at0_of_le q)
  unfold hd
  rw [List.findIdx_eq hc]
  have e : ∀ k (hk : k < r.length), at0 r k = r[k] := fun k hk => by simp [at0, List.getD_eq_getElem?_getD, hk]
  refine ⟨?_, fun k hk => ?_⟩
  · rw [← e c hc]
    simpa using h1
  · have := h2 k hk
    rw [e k (by omega)] at this
    simp [this]
theorem before_hd {r : Row} {k : Nat} (h : k < hd r) : at0 r k = 0 := by
  unfold hd at h
  have hk : k < r.length := Nat.lt_of_lt_of_le h (List.findIdx_le_length)
  have := List.not_of_lt_findIdx h
  have e : at0 r k = r[k] := by simp [at0, List.getD_eq_getElem?_getD, hk]
  rw [e]
  simpa using this
theorem stepR_led {p : Int} (hp : Pr p) {n c : Nat} {s : List Row × List Row} (h : Led p n c s) : Led p n (c + 1) (stepR p s c) := by
  have pos := hp.pos
  unfold stepR
  cases e : s.1.find? (isLed c) with
  | none =>
    have all := List.find?_eq_none.mp e
    refine ⟨fun r hr => ⟨(h.left r hr).1, fun k hk => ?_⟩, fun r hr => ?_, h.apart⟩
    · rcases Nat.lt_succ_iff_lt_or_eq.mp hk with q | q
      · exact (h.left r hr).2 k q
      · subst q
        have := all r hr
        simpa [isLed] using this
    · obtain ⟨h1, h2, h3⟩ := h.done r hr
      exact ⟨h1, by omega, h3⟩
  | some r =>
    have hr := List.mem_of_find?_eq_some e
    have hc : at0 r c ≠ 0 := by simpa [isLed] using List.find?_some e
    obtain ⟨⟨hl, hi⟩, hz⟩ := h.left r hr
    have hb := at0_in pos hi c
    have hv := inv_ok hp (x := at0 r c) (by omega) hb.2
    generalize hL : scale p (inv p (at0 r c)) r = L
    have L1 : L.length = n := by rw [← hL]; simp [scale, hl]
    have L2 : InP p L := by rw [← hL]; exact scale_in pos
    have L3 : at0 L c = 1 := by rw [← hL, at0_scale]; exact hv
    have L4 : ∀ k, k < c → at0 L k = 0 := fun k hk => by rw [← hL, at0_scale, hz k hk]; simp
    have hdL : hd L = c := hd_eq (by rw [L3]; decide) L4
    have q1 : ∀ row, RowOk p n row → at0 (less p row L (at0 row c)) c = 0 := fun row hrow => by
      rw [at0_less hrow.1 L1, L3]
      simp
    have q2 : ∀ row, RowOk p n row → ∀ k, k < c → at0 (less p row L (at0 row c)) k = at0 row k := fun row hrow k hk => by
      have b := at0_in pos hrow.2 k
      rw [at0_less hrow.1 L1, L4 k hk, Int.mul_zero, Int.sub_zero, Int.emod_eq_of_lt b.1 b.2]
    have q3 : ∀ row, RowOk p n row → RowOk p n (less p row L (at0 row c)) := fun row hrow => ⟨less_length hrow.1 L1, less_in pos⟩
    have q4 : ∀ row, RowOk p n row → hd row < c → at0 row (hd row) = 1 → hd (less p row L (at0 row c)) = hd row := fun row hrow h1 h2 => by
      refine hd_eq ?_ fun k hk => ?_
      · rw [q2 row hrow _ h1, h2]
        decide
      · rw [q2 row hrow k (by omega)]
        exact before_hd hk
    dsimp only
    simp only [hL]
    refine ⟨fun x hx => ?_, fun x hx => ?_, ?_⟩
    · obtain ⟨row, hrow, rfl⟩ := List.mem_map.mp hx
      have hm := List.mem_of_mem_eraseP hrow
      obtain ⟨o, z⟩ := h.left row hm
      refine ⟨q3 row o, fun k hk => ?_⟩
      rcases Nat.lt_succ_iff_lt_or_eq.mp hk with q | q
      · rw [q2 row o k q]
        exact z k q
      · subst q
        exact q1 row o
    · rcases List.mem_append.mp hx with hx | hx
      · obtain ⟨row, hrow, rfl⟩ := List.mem_map.mp hx
        obtain ⟨o, h1, h2⟩ := h.done row hrow
        refine ⟨q3 row o, ?_, ?_⟩
        · rw [q4 row o h1 h2]; omega
        · rw [q4 row o h1 h2, q2 row o _ h1, h2]
      · obtain rfl := List.mem_singleton.mp hx
        exact ⟨⟨L1, L2⟩, by omega, by rw [hdL, L3]⟩
    · rw [List.pairwise_append]
      refine ⟨?_, List.pairwise_singleton .., fun x hx y hy => ?_⟩
      · rw [List.pairwise_map]
        refine List.Pairwise.imp_of_mem (fun {x y} hx hy hxy => ?_) h.apart
        obtain ⟨o1, a1, b1⟩ := h.done x hx
        obtain ⟨o2, a2, b2⟩ := h.done y hy
        rw [q4 x o1 a1 b1, q4 y o2 a2 b2, q2 x o1 _ a2, q2 y o2 _ a1]
        exact hxy
      · obtain rfl := List.mem_singleton.mp hy
        obtain ⟨row, hrow, rfl⟩ := List.mem_map.mp hx
        obtain ⟨o, h1, h2⟩ := h.done row hrow
        rw [hdL, q4 row o h1 h2]
        exact ⟨q1 row o, L4 _ h1⟩
theorem led_start {p : Int} {n : Nat} {rows : List Row} (h : ∀ r ∈ rows, RowOk p n r) : Led p n 0 (rows, []) := ⟨fun r hr => ⟨h r hr, fun k hk => by omega⟩, (fun r hr => by cases hr), List.Pairwise.nil⟩
theorem led_fold {p : Int} (hp : Pr p) {n : Nat} {rows : List Row} (h : ∀ r ∈ rows, RowOk p n r) : ∀ c, Led p n c ((List.range c).foldl (stepR p) (rows, []))
  | 0 => led_start h
  | c + 1 => by
    rw [List.range_succ, List.foldl_append]
    exact stepR_led hp (led_fold hp h c)
/-! ### what is at noughts with all -/
theorem stepR_orth {p : Int} (hp : Pr p) {n c : Nat} {s : List Row × List Row} (h : Led p n c s) (z : Row) : (∀ r ∈ (stepR p s c).1 ++ (stepR p s c).2, Orth p z r) ↔ ∀ r ∈ s.1 ++ s.2, Orth p z r := by
  have pos := hp.pos
  unfold stepR
  cases e : s.1.find? (isLed c) with
  | none => exact Iff.rfl
  | some r =>
    have hr := List.mem_of_find?_eq_some e
    have hc : at0 r c ≠ 0 := by simpa [isLed] using List.find?_some e
    obtain ⟨⟨hl, hi⟩, hz⟩ := h.left r hr
    have hb := at0_in pos hi c
    have hv := inv_ok hp (x := at0 r c) (by omega) hb.2
    have lens : ∀ row ∈ s.1 ++ s.2, row.length = (scale p (inv p (at0 r c)) r).length := fun row hrow => by
      have : row.length = n := (List.mem_append.mp hrow).elim (fun q => (h.left row q).1.1) fun q => (h.done row q).1.1
      rw [this]
      simp [scale, hl]
    have split : ∀ row ∈ s.1, row = r ∨ row ∈ s.1.eraseP (isLed c) := by
      obtain ⟨_, hr2⟩ := List.find?_eq_some_iff_append.mp e
      obtain ⟨l1, l2, e1, e2⟩ := hr2
      intro row hrow
      have e3 : s.1.eraseP (isLed c) = l1 ++ l2 := by
        rw [e1, List.eraseP_append_right _ (fun b hb => by have := e2 b hb; simpa using this), List.eraseP_cons_of_pos (by simpa using List.find?_some e)]
      rw [e3]
      rw [e1] at hrow
      simp only [List.mem_append, List.mem_cons] at hrow ⊢
      rcases hrow with h | h | h
      · exact .inr (.inl h)
      · exact .inl h
      · exact .inr (.inr h)
    constructor
    · intro g row hrow
      have gL : Orth p z (scale p (inv p (at0 r c)) r) := g _ (by simp)
      have gr : Orth p z r := orth_unscale hv gL
      have hl := lens row hrow
      rcases List.mem_append.mp hrow with q | q
      · rcases split row q with rfl | q
        · exact gr
        · exact (orth_less hl gL).mp (g _ (List.mem_append_left _ (List.mem_map.mpr ⟨row, q, rfl⟩)))
      · exact (orth_less hl gL).mp (g _ (List.mem_append_right _ (List.mem_append_left _ (List.mem_map.mpr ⟨row, q, rfl⟩))))
    · intro g row hrow
      have gr : Orth p z r := g r (List.mem_append_left _ hr)
      have gL : Orth p z (scale p (inv p (at0 r c)) r) := orth_scale gr
      rcases List.mem_append.mp hrow with q | q
      · obtain ⟨x, hx, rfl⟩ := List.mem_map.mp q
        have hm : x ∈ s.1 ++ s.2 := List.mem_append_left _ (List.mem_of_mem_eraseP hx)
        exact (orth_less (lens x hm) gL).mpr (g x hm)
      · rcases List.mem_append.mp q with q | q
        · obtain ⟨x, hx, rfl⟩ := List.mem_map.mp q
          have hm : x ∈ s.1 ++ s.2 := List.mem_append_right _ hx
          exact (orth_less (lens x hm) gL).mpr (g x hm)
        · obtain rfl := List.mem_singleton.mp q
          exact gL
theorem fold_orth {p : Int} (hp : Pr p) {n : Nat} {rows : List Row} (h : ∀ r ∈ rows, RowOk p n r) (z : Row) : ∀ c, (∀ r ∈ ((List.range c).foldl (stepR p) (rows, [])).1 ++ ((List.range c).foldl (stepR p) (rows, [])).2, Orth p z r) ↔ ∀ r ∈ rows, Orth p z r
  | 0 => by simp
  | c + 1 => by
    rw [List.range_succ, List.foldl_append]
    exact (stepR_orth hp (led_fold hp h c) z).trans (fold_orth hp h z c)
theorem dot_zeros : ∀ (z r : Row), (∀ k, at0 r k = 0) → dot z r = 0
  | [], r, _ => by simp [dot]
  | _ :: _, [], _ => by simp [dot]
  | z :: zs, x :: r, h => by
    have h0 : x = 0 := by simpa [at0] using h 0
    have ih := dot_zeros zs r fun k => by simpa [at0] using h (k + 1)
    simp only [dot, List.zipWith_cons_cons, List.sum_cons] at ih ⊢
    rw [ih, h0]
    simp
theorem red_orth {p : Int} (hp : Pr p) {n : Nat} {rows : List Row} (h : ∀ r ∈ rows, RowOk p n r) (z : Row) : (∀ r ∈ red p n rows, Orth p z r) ↔ ∀ r ∈ rows, Orth p z r := by
  rw [← fold_orth hp h z n]
  constructor
  · intro g r hr
    rcases List.mem_append.mp hr with q | q
    · obtain ⟨⟨hl, _⟩, hz⟩ := (led_fold hp h n).left r q
      have e : dot z r = 0 := dot_zeros z r fun k => by
        by_cases hk : k < n
        · exact hz k hk
        · exact at0_of_le (by omega)
      unfold Orth
      rw [e]
      exact Int.dvd_zero _
    · exact g r q
  · intro g r hr
    exact g r (List.mem_append_right _ hr)
theorem red_ok {p : Int} (hp : Pr p) {n : Nat} {rows : List Row} (h : ∀ r ∈ rows, RowOk p n r) : ∀ r ∈ red p n rows, RowOk p n r ∧ hd r < n ∧ at0 r (hd r) = 1 := (led_fold hp h n).done
theorem red_apart {p : Int} (hp : Pr p) {n : Nat} {rows : List Row} (h : ∀ r ∈ rows, RowOk p n r) : (red p n rows).Pairwise fun r q => at0 r (hd q) = 0 ∧ at0 q (hd r) = 0 := (led_fold hp h n).apart
end Ev
/-! What is at noughts with rows (plain). -/
namespace Ev
/-! ### sums -/
def sm {α : Type} (l : List α) (f : α → Int) : Int := (l.map f).sum
theorem sm_nil {α : Type} (f : α → Int) : sm [] f = 0 := rfl
theorem sm_cons {α : Type} (a : α) (l : List α) (f : α → Int) : sm (a :: l) f = f a + sm l f := by simp [sm]
theorem sm_congr {α : Type} {l : List α} {f g : α → Int} (h : ∀ a ∈ l, f a = g a) : sm l f = sm l g := by
  induction l with
  | nil => rfl
  | cons a l ih => rw [sm_cons, sm_cons, h a (List.mem_cons_self ..), ih fun b hb => h b (List.mem_cons_of_mem _ hb)]
theorem sm_add {α : Type} (l : List α) (f g : α → Int) : sm l (fun a => f a + g a) = sm l f + sm l g := by
  induction l with
  | nil => rfl
  | cons a l ih => rw [sm_cons, sm_cons, sm_cons, ih]; omega
theorem sm_mul {α : Type} (l : List α) (c : Int) (f : α → Int) : sm l (fun a => c * f a) = c * sm l f := by
  induction l with
  | nil => simp [sm_nil]
  | cons a l ih => rw [sm_cons, sm_cons, ih, Int.mul_add]
theorem sm_zero {α : Type} (l : List α) : sm l (fun _ => 0) = 0 := by
  induction l with
  | nil => rfl
  | cons a l ih => rw [sm_cons, ih]; rfl
theorem sm_swap {α β : Type} (l : List α) (m : List β) (f : α → β → Int) : sm l (fun a => sm m fun b => f a b) = sm m fun b => sm l fun a => f a b := by
  induction l with
  | nil => rw [sm_nil]; exact (sm_zero m).symm
  | cons a l ih =>
    rw [sm_cons, ih, ← sm_add]
    rfl
theorem sm_dvd {α : Type} {p : Int} {l : List α} {f : α → Int} (h : ∀ a ∈ l, p ∣ f a) : p ∣ sm l f := by
  induction l with
  | nil => exact Int.dvd_zero _
  | cons a l ih =>
    rw [sm_cons]
    exact Int.dvd_add (h a (List.mem_cons_self ..)) (ih fun b hb => h b (List.mem_cons_of_mem _ hb))
/-- the same modulo p -/
theorem sm_cong {α : Type} {p : Int} {l : List α} {f g : α → Int} (h : ∀ a ∈ l, p ∣ f a - g a) (hg : p ∣ sm l g) : p ∣ sm l f := by
  have e : sm l f = sm l (fun a => f a - g a) + sm l g := by
    rw [← sm_add]
    exact sm_congr fun a _ => by omega
  rw [e]
  exact Int.dvd_add (sm_dvd h) hg
theorem dvd_mod_sub (p x : Int) : p ∣ x % p - x := by
  rw [Int.emod_def]
  exact ⟨-(x / p), by rw [Int.mul_neg]; omega⟩
theorem dot_comm : ∀ z r : Row, dot z r = dot r z
  | [], r => by simp [dot]
  | _ :: _, [] => by simp [dot]
  | z :: zs, x :: r => by
    have ih := dot_comm zs r
    simp only [dot, List.zipWith_cons_cons, List.sum_cons] at ih ⊢
    rw [ih, Int.mul_comm]
theorem orth_comm {p : Int} {z r : Row} : Orth p z r ↔ Orth p r z := by
  unfold Orth
  rw [dot_comm]
theorem dot_zip (z r : Row) : dot z r = sm (z.zip r) fun q => q.1 * q.2 := by
  unfold dot sm
  rw [List.zip, List.map_zipWith]
theorem dot_map {α : Type} (f : α → Int) : ∀ (z : Row) (l : List α), dot z (l.map f) = sm (z.zip l) fun q => q.1 * f q.2
  | [], l => by simp [dot, sm_nil]
  | _ :: _, [] => by simp [dot, sm_nil]
  | z :: zs, a :: l => by
    have ih := dot_map f zs l
    rw [List.zip_cons_cons, sm_cons, ← ih]
    simp [dot]
theorem dot_range : ∀ (u x : Row) (n : Nat), u.length ≤ n → dot u x = sm (List.range n) fun i => at0 u i * at0 x i
  | [], x, n, _ => by
    have e : (fun i => at0 ([] : Row) i * at0 x i) = fun _ => 0 := by
      funext i
      simp [at0]
    rw [e, sm_zero]
    simp [dot]
  | u :: us, [], n, _ => by
    have e : (fun i => at0 (u :: us) i * at0 ([] : Row) i) = fun _ => 0 := by
      funext i
      simp [at0]
    rw [e, sm_zero]
    simp [dot]
  | u :: us, x :: xs, n, h => by
    cases n with
    | zero => simp at h
    | succ n =>
      have ih := dot_range us xs n (by simpa using h)
      rw [List.range_succ_eq_map, sm_cons]
      have e : sm (List.map Nat.succ (List.range n)) (fun i => at0 (u :: us) i * at0 (x :: xs) i) = sm (List.range n) fun i => at0 us i * at0 xs i := by
        unfold sm
        rw [List.map_map]
        rfl
      rw [e, ← ih]
      simp [dot, at0]
theorem dot_set : ∀ (own t : Row) (h : Nat) (v : Int), h < own.length → dot (own.set h v) t = dot own t + (v - at0 own h) * at0 t h
  | [], t, h, v, hl => by simp at hl
  | o :: own, [], h, v, _ => by
    cases h <;> simp [dot, at0]
  | o :: own, x :: t, 0, v, _ => by
    simp only [List.set_cons_zero, dot, List.zipWith_cons_cons, List.sum_cons, at0, List.getD_cons_zero, Int.sub_mul]
    omega
  | o :: own, x :: t, h + 1, v, hl => by
    have ih := dot_set own t h v (by simpa using hl)
    simp only [List.set_cons_succ, dot, List.zipWith_cons_cons, List.sum_cons, at0, List.getD_cons_succ] at ih ⊢
    rw [ih]
    omega
/-! ### rows at noughts -/
def unitRow (n free : Nat) : Row := (List.replicate n 0).set free 1
def noughtRow (p : Int) (n : Nat) (steps : List Row) (free : Nat) : Row := steps.foldl (fun own row => own.set (hd row) (-(at0 row free) % p)) (unitRow n free)
def frees (n : Nat) (steps : List Row) : List Nat := (List.range n).filter fun k => decide (k ∉ steps.map hd)
def noughts (p : Int) (n : Nat) (steps : List Row) : List Row := (frees n steps).map (noughtRow p n steps)
theorem at0_unit {n free : Nat} (h : free < n) (k : Nat) : at0 (unitRow n free) k = if k = free then 1 else 0 := by
  unfold unitRow at0
  rw [List.getD_eq_getElem?_getD, List.getElem?_set]
  by_cases e : free = k
  · subst e
    simp [h]
  · rw [if_neg e, if_neg (Ne.symm e)]
    by_cases hk : k < n <;> simp [hk]
theorem dot_unit {n free : Nat} (h : free < n) (t : Row) : dot (unitRow n free) t = at0 t free := by
  rw [dot_comm, show dot t (unitRow n free) = dot t (unitRow n free) from rfl]
  unfold unitRow
  rw [dot_comm, dot_set _ _ _ _ (by simpa using h)]
  have e : dot (List.replicate n 0) t = 0 := by
    rw [dot_comm]
    refine dot_zeros t _ fun k => ?_
    by_cases hk : k < n <;> simp [at0, List.getD_eq_getElem?_getD, hk]
  have e2 : at0 (List.replicate n (0 : Int)) free = 0 := by simp [at0, List.getD_eq_getElem?_getD, h]
  rw [e, e2]
  omega
theorem fold_set_length (p : Int) (free : Nat) : ∀ (l : List Row) (own : Row), (l.foldl (fun own row => own.set (hd row) (-(at0 row free) % p)) own).length = own.length
  | [], own => rfl
  | r :: l, own => by rw [List.foldl_cons, fold_set_length p free l]; simp
theorem fold_set_dot (p : Int) (free : Nat) (t : Row) : ∀ (l : List Row) (own : Row), (∀ r ∈ l, at0 t (hd r) = 0 ∧ hd r < own.length) → dot (l.foldl (fun own row => own.set (hd row) (-(at0 row free) % p)) own) t = dot own t
  | [], own, _ => rfl
  | r :: l, own, h => by
    obtain ⟨h1, h2⟩ := h r (List.mem_cons_self ..)
    rw [List.foldl_cons, fold_set_dot p free t l _ fun q hq => by simpa using h q (List.mem_cons_of_mem _ hq), dot_set _ _ _ _ h2, h1]
    omega
theorem fold_set_at (p : Int) (free k : Nat) : ∀ (l : List Row) (own : Row), (∀ r ∈ l, hd r ≠ k) → at0 (l.foldl (fun own row => own.set (hd row) (-(at0 row free) % p)) own) k = at0 own k
  | [], own, _ => rfl
  | r :: l, own, h => by
    rw [List.foldl_cons, fold_set_at p free k l _ fun q hq => h q (List.mem_cons_of_mem _ hq)]
    have := h r (List.mem_cons_self ..)
    simp [at0, List.getD_eq_getElem?_getD, List.getElem?_set, this]
/-- led rows: heads with ones, noughts at each other's -/
structure Steps (p : Int) (n : Nat) (s : List Row) : Prop where
  ok : ∀ r ∈ s, RowOk p n r ∧ hd r < n ∧ at0 r (hd r) = 1
  apart : s.Pairwise fun r q => at0 r (hd q) = 0 ∧ at0 q (hd r) = 0
theorem noughtRow_orth {p : Int} {n : Nat} {s : List Row} (S : Steps p n s) {free : Nat} (hf : free < n) (hh : free ∉ s.map hd) {t : Row} (ht : t ∈ s) : Orth p (noughtRow p n s free) t := by
  obtain ⟨l1, l2, rfl⟩ := List.append_of_mem ht
  have ap := S.apart
  rw [List.pairwise_append] at ap
  obtain ⟨_, ap2, ap3⟩ := ap
  rw [List.pairwise_cons] at ap2
  have one := (S.ok t ht).2.2
  have len : ∀ r ∈ l1 ++ t :: l2, hd r < (unitRow n free).length := fun r hr => by simpa [unitRow] using (S.ok r hr).2.1
  have f1 : ∀ r ∈ l1, at0 t (hd r) = 0 := fun r hr => (ap3 r hr t (List.mem_cons_self ..)).2
  have f2 : ∀ r ∈ l2, at0 t (hd r) = 0 := fun r hr => (ap2.1 r hr).1
  have n1 : ∀ r ∈ l1, hd r ≠ hd t := fun r hr e => by
    have := f1 r hr
    rw [e, one] at this
    cases this
  have hft : hd t ≠ free := fun e => hh (List.mem_map.mpr ⟨t, ht, e⟩)
  unfold Orth noughtRow
  rw [List.foldl_append, List.foldl_cons, fold_set_dot p free t l2 _ fun r hr => ⟨f2 r hr, by rw [List.length_set, fold_set_length]; exact len r (by simp [hr])⟩,
    dot_set _ _ _ _ (by rw [fold_set_length]; exact len t ht), fold_set_dot p free t l1 _ fun r hr => ⟨f1 r hr, len r (by simp [hr])⟩, fold_set_at p free _ l1 _ n1, dot_unit hf, at0_unit hf, if_neg hft, one]
  have := dvd_mod_sub p (-(at0 t free))
  have e : at0 t free + (-at0 t free % p - 0) * 1 = -at0 t free % p - -at0 t free := by omega
  rw [e]
  exact this
theorem fold_set_in {p : Int} (hp : 0 < p) (free : Nat) : ∀ (l : List Row) (own : Row), InP p own → InP p (l.foldl (fun own row => own.set (hd row) (-(at0 row free) % p)) own)
  | [], own, h => h
  | r :: l, own, h => by
    rw [List.foldl_cons]
    refine fold_set_in hp free l _ fun x hx => ?_
    rcases List.mem_or_eq_of_mem_set hx with q | q
    · exact h x q
    · rw [q]
      exact ⟨Int.emod_nonneg _ (by omega), Int.emod_lt_of_pos _ hp⟩
theorem unit_ok {p : Int} (hp : 2 ≤ p) (n free : Nat) : RowOk p n (unitRow n free) := by
  refine ⟨by simp [unitRow], fun x hx => ?_⟩
  rcases List.mem_or_eq_of_mem_set hx with q | q
  · have := (List.mem_replicate.mp q).2
    omega
  · omega
theorem noughtRow_ok {p : Int} (hp : 2 ≤ p) (n : Nat) (s : List Row) (free : Nat) : RowOk p n (noughtRow p n s free) :=
  ⟨by unfold noughtRow; rw [fold_set_length]; simp [unitRow], fold_set_in (by omega) free s _ (unit_ok hp n free).2⟩
theorem red_steps {p : Int} (hp : Pr p) {n : Nat} {rows : List Row} (h : ∀ r ∈ rows, RowOk p n r) : Steps p n (red p n rows) := ⟨red_ok hp h, red_apart hp h⟩
/-- the checks of a code are at noughts with what is at noughts with its noughts -/
theorem checks_orth {p : Int} (hp : Pr p) {n : Nat} {rows : List Row} (h : ∀ r ∈ rows, RowOk p n r) {w : Row} (hw : ∀ z : Row, (∀ r ∈ rows, Orth p z r) → Orth p z w) : ∀ c ∈ red p n (noughts p n (red p n rows)), Orth p c w := by
  have S := red_steps hp h
  have ok : ∀ r ∈ noughts p n (red p n rows), RowOk p n r := fun r hr => by
    obtain ⟨f, _, rfl⟩ := List.mem_map.mp hr
    exact noughtRow_ok hp.ge n _ f
  intro c hc
  rw [orth_comm]
  refine (red_orth hp ok w).mpr (fun own ho => ?_) c hc
  rw [orth_comm]
  obtain ⟨f, hf, rfl⟩ := List.mem_map.mp ho
  obtain ⟨f1, f2⟩ := List.mem_filter.mp hf
  refine hw _ ((red_orth hp h _).mp fun t ht => noughtRow_orth S (List.mem_range.mp f1) (of_decide_eq_true f2) ht)
/-! ### products -/
/-- the row of a place's products -/
def prodRow (p : Int) (ps : List (Row × Row)) (i j : Nat) : Row := ps.map fun q => at0 q.1 i * at0 q.2 j % p
def prodVals (p : Int) (ps : List (Row × Row)) (x y : Row) : Row := ps.map fun q => dot q.1 x * dot q.2 y % p
def prodRows (p : Int) (a b : Nat) (ps : List (Row × Row)) : List Row := (List.range a).flatMap fun i => (List.range b).map fun j => prodRow p ps i j
theorem vals_orth {p : Int} {a b : Nat} {ps : List (Row × Row)} (hl : ∀ q ∈ ps, q.1.length ≤ a ∧ q.2.length ≤ b) {z x y : Row} (h : ∀ i, i < a → ∀ j, j < b → Orth p z (prodRow p ps i j)) : Orth p z (prodVals p ps x y) := by
  unfold Orth at h ⊢
  unfold prodVals
  rw [dot_map]
  refine sm_cong (g := fun q : Int × (Row × Row) => sm (List.range a) fun i => sm (List.range b) fun j => (at0 x i * at0 y j) * (q.1 * (at0 q.2.1 i * at0 q.2.2 j))) (fun q hq => ?_) ?_
  · have hm : q.2 ∈ ps := (List.of_mem_zip (show (q.1, q.2) ∈ z.zip ps from hq)).2
    obtain ⟨h1, h2⟩ := hl _ hm
    have e : (sm (List.range a) fun i => sm (List.range b) fun j => (at0 x i * at0 y j) * (q.1 * (at0 q.2.1 i * at0 q.2.2 j))) = q.1 * (dot q.2.1 x * dot q.2.2 y) := by
      rw [dot_range q.2.1 x a h1, dot_range q.2.2 y b h2]
      have e1 : ∀ i, (sm (List.range b) fun j => (at0 x i * at0 y j) * (q.1 * (at0 q.2.1 i * at0 q.2.2 j))) = (q.1 * (sm (List.range b) fun j => at0 q.2.2 j * at0 y j)) * (at0 q.2.1 i * at0 x i) := fun i => by
        rw [Int.mul_comm (q.1 * _), Int.mul_left_comm, ← sm_mul, ← sm_mul]
        refine sm_congr fun j _ => ?_
        simp only [Int.mul_comm, Int.mul_left_comm, Int.mul_assoc]
      simp only [e1]
      rw [sm_mul, Int.mul_assoc, Int.mul_comm (sm (List.range b) _)]
    rw [e, ← Int.mul_sub]
    exact Int.dvd_mul_of_dvd_right (dvd_mod_sub p _)
  · rw [sm_swap]
    refine sm_dvd fun i hi => ?_
    rw [sm_swap]
    refine sm_dvd fun j hj => ?_
    rw [sm_mul]
    refine Int.dvd_mul_of_dvd_right ?_
    have := h i (List.mem_range.mp hi) j (List.mem_range.mp hj)
    unfold prodRow at this
    rw [dot_map] at this
    refine sm_cong (g := fun q : Int × (Row × Row) => q.1 * (at0 q.2.1 i * at0 q.2.2 j % p)) (fun q _ => ?_) this
    rw [← Int.mul_sub]
    refine Int.dvd_mul_of_dvd_right ?_
    have := dvd_mod_sub p (at0 q.2.1 i * at0 q.2.2 j)
    have e : at0 q.2.1 i * at0 q.2.2 j - at0 q.2.1 i * at0 q.2.2 j % p = -(at0 q.2.1 i * at0 q.2.2 j % p - at0 q.2.1 i * at0 q.2.2 j) := by omega
    rw [e]
    exact Int.dvd_neg.mpr this
theorem red_ne {p : Int} (hp : Pr p) {n : Nat} {rows : List Row} (h : ∀ r ∈ rows, RowOk p n r) {r : Row} (hr : r ∈ rows) (h1 : at0 r 0 = 1) : red p n rows ≠ [] := by
  intro e
  have g := (red_orth hp h [1]).mp (by rw [e]; intro r hr; cases hr) r hr
  unfold Orth at g
  have e2 : dot [1] r = at0 r 0 := by
    cases r with
    | nil => simp [dot, at0]
    | cons x r => simp [dot, at0]
  rw [e2, h1] at g
  have := hp.ge
  have := Int.le_of_dvd (by decide) g
  omega
end Ev
/-! Rows as data; loops over ranges. -/
namespace Ev
open PySem PySem.Spec PyProof.Rows
/-- a list or a tuple -/
def sq (b : Bool) (xs : List D) : D := if b then .tuple xs else .list xs
section
variable {b : Bool} {xs : List D} {i : Int}
theorem i_sq : itemsOf .seq [sq b xs] = some xs := by cases b <;> rfl
theorem s_lsq : biD .list [sq b xs] = some (.list xs) := by cases b <;> rfl
theorem s_tsq : biD .tuple [sq b xs] = some (.tuple xs) := by cases b <;> rfl
theorem s_lensq : biD .len [sq b xs] = some (.int xs.length) := by cases b <;> rfl
theorem s_ixsq : ixD (sq b xs) (.int i) = atI xs i := by cases b <;> rfl
theorem s_seqsq : seqOf (sq b xs) = some xs := by cases b <;> rfl
end
theorem forL_range' {f : D → Env → M Fl} {Inv : Nat → Env → Prop} : ∀ (n s : Nat) (env : Env) (p : PS), (∀ k, s ≤ k → k < s + n → ∀ env p, Inv k env → ∃ env', f (.int (k : Int)) env p = .ok (.nx env') p ∧ Inv (k + 1) env') → Inv s env →
    ∃ env', forL f ((List.range' s n).map fun (k : Nat) => .int (k : Int)) env p = .ok (.nx env') p ∧ Inv (s + n) env'
  | 0, s, env, p, h, hi => ⟨env, rfl, hi⟩
  | n + 1, s, env, p, h, hi => by
    obtain ⟨env1, e1, i1⟩ := h s (Nat.le_refl _) (by omega) env p hi
    obtain ⟨env2, e2, i2⟩ := forL_range' n (s + 1) env1 p (fun k h1 h2 => h k (by omega) (by omega)) i1
    refine ⟨env2, ?_, by rw [show s + (n + 1) = s + 1 + n by omega]; exact i2⟩
    rw [List.range'_succ, List.map_cons]
    show ((f (.int (s : Int)) env p).bind _) = _
    rw [e1]
    exact e2
theorem forL_range {f : D → Env → M Fl} {Inv : Nat → Env → Prop} (n : Nat) (env : Env) (p : PS) (h : ∀ k, k < n → ∀ env p, Inv k env → ∃ env', f (.int (k : Int)) env p = .ok (.nx env') p ∧ Inv (k + 1) env') (hi : Inv 0 env) :
    ∃ env', forL f ((List.range n).map fun (k : Nat) => .int (k : Int)) env p = .ok (.nx env') p ∧ Inv n env' := by
  rw [List.range_eq_range']
  obtain ⟨env', e, i⟩ := forL_range' (f := f) (Inv := Inv) n 0 env p (fun k _ hk => h k (by omega)) hi
  exact ⟨env', e, by rw [Nat.zero_add] at i; exact i⟩
theorem map_zip' {α β γ : Type} (f : α × β → γ) (xs : List α) (ys : List β) : (xs.zip ys).map f = List.zipWith (fun x y => f (x, y)) xs ys := by
  rw [List.zip, List.map_zipWith]
/-! ### rows -/
theorem Ok.rowL {xs : Row} {n : Nat} (h : ∀ x ∈ xs, -1000000000 < x ∧ x < 1000000000) (hn : xs.length ≤ n) : Ok (n * 12 + 2) 1 (li xs) := Ok.list (Ok.ints h) (by simpa using hn)
theorem Ok.rowT {xs : Row} {n : Nat} (h : ∀ x ∈ xs, -1000000000 < x ∧ x < 1000000000) (hn : xs.length ≤ n) : Ok (n * 12 + 3) 1 (ti xs) := Ok.tuple (Ok.ints h) (by simpa using hn)
theorem inP_small {p : Int} (hp : p ≤ 1000000) {r : Row} (h : InP p r) : ∀ x ∈ r, -1000000000 < x ∧ x < 1000000000 := fun x hx => by
  have := h x hx
  omega
theorem shaped_li (r : Row) : SeqAt.shaped (li r) = true := shaped_di r
theorem shaped_seq {b : Bool} {xs : List D} (h : ∀ x ∈ xs, x.canLay0 = true ∧ x.depth ≤ 60) : SeqAt.shaped (sq b xs) = true := by
  have h1 := layAll_of xs fun x hx => (h x hx).1
  have h2 := depthAll_of xs 60 fun x hx => (h x hx).2
  cases b
  · show (((PyData.list xs).canLay0) && decide ((PyData.list xs).depth ≤ 64)) = true
    rw [Bool.and_eq_true]
    refine ⟨by simp only [PyData.canLay0]; exact h1, decide_eq_true ?_⟩
    simp only [PyData.depth]
    omega
  · show (((PyData.tuple xs).canLay0) && decide ((PyData.tuple xs).depth ≤ 64)) = true
    rw [Bool.and_eq_true]
    refine ⟨by simp only [PyData.canLay0]; exact h1, decide_eq_true ?_⟩
    simp only [PyData.depth]
    omega
theorem lay_di (b : Bool) (r : Row) : (sq b (di r)).canLay0 = true ∧ (sq b (di r)).depth ≤ 1 := by
  have h1 : PyData.canLayAll0 (di r) = true := layAll_of _ fun d hd => by
    obtain ⟨i, _, rfl⟩ := List.mem_map.mp hd
    rfl
  have h2 : PyData.depthAll (di r) ≤ 0 := depthAll_of _ 0 fun d hd => by
    obtain ⟨i, _, rfl⟩ := List.mem_map.mp hd
    exact Nat.le_refl _
  cases b
  · refine ⟨by show (PyData.list (di r)).canLay0 = true; simp only [PyData.canLay0]; exact h1, ?_⟩
    show (PyData.list (di r)).depth ≤ 1
    simp only [PyData.depth]
    omega
  · refine ⟨by show (PyData.tuple (di r)).canLay0 = true; simp only [PyData.canLay0]; exact h1, ?_⟩
    show (PyData.tuple (di r)).depth ≤ 1
    simp only [PyData.depth]
    omega
theorem shaped_rows (rows : List Row) : SeqAt.shaped (.list (rows.map li)) = true := shaped_seq (b := false) fun x hx => by
  obtain ⟨r, _, rfl⟩ := List.mem_map.mp hx
  have := lay_di false r
  exact ⟨this.1, by have := this.2; show (sq false (di r)).depth ≤ 60; omega⟩
theorem c_neR {rows : List Row} : cmpD .ne (.list (rows.map li)) (.list []) = some (!rows.isEmpty) := by
  rw [c_neL0 (shaped_rows rows)]
  cases rows <;> rfl
theorem c_neI {r : Row} : cmpD .ne (.list (di r)) (.list []) = some (!r.isEmpty) := by
  rw [c_neL0 (shaped_di r)]
  cases r <;> rfl
theorem eraseP_map {r : Row} : ∀ rows : List Row, (rows.map li).eraseP (fun z => PyData.eqv z (li r)) = (rows.erase r).map li
  | [] => rfl
  | q :: rows => by
    rw [List.map_cons, List.eraseP_cons, eqv_li, List.erase_cons, eraseP_map rows]
    by_cases e : q = r
    · simp [e]
    · simp [e]
theorem m_remove {rows : List Row} {r : Row} (h : r ∈ rows) : muD .remove (.list (rows.map li)) [li r] = some (.list ((rows.erase r).map li), .none) := by
  have h3 : (rows.map li).any (fun z => PyData.eqv z (li r)) = true := by
    rw [List.any_eq_true]
    exact ⟨li r, List.mem_map.mpr ⟨r, h, rfl⟩, by rw [eqv_li]; simp⟩
  unfold muD
  dsimp only
  rw [shaped_li, shaped_rows, h3, eraseP_map]
  rfl
theorem erase_first {t : Row → Bool} : ∀ {rows : List Row} {r : Row}, rows.find? t = some r → rows.erase r = rows.eraseP t
  | [], r, h => by simp at h
  | q :: rows, r, h => by
    rw [List.find?_cons] at h
    rw [List.erase_cons, List.eraseP_cons]
    cases ht : t q with
    | true =>
      rw [ht] at h
      obtain rfl := Option.some.inj h
      simp
    | false =>
      rw [ht] at h
      have hr := List.find?_some h
      have ne : q ≠ r := fun e => by
        rw [e, hr] at ht
        cases ht
      simp [ne, erase_first h]
end Ev
/-! The evaluator step by step: what is still to be done is a word, not a function (printed by gk.py). -/
namespace Ev
open PySem PySem.Spec PyProof.Rows
section
variable {F : Nat → List D → M D} {env : Env} {b : Bool} {p : PS}
theorem v_var0 {i : Nat} : ev F true (.var i) env p = opt (borV env i) p := by simp only [ev]; rfl
theorem v_var1 {i : Nat} : ev F false (.var i) env p = opt (escV env i) p := by simp only [ev]; rfl
theorem v_glc {x : Str} {n : Int} : ev F b (.glc x n) env p = .ok (.int n) p := by simp only [ev]; rfl
theorem v_lit {d : D} : ev F b (.lit d) env p = .ok d p := by simp only [ev]; rfl
theorem v_dct0 : ev F b .dct0 env p = .ok (.dict []) p := by simp only [ev]; rfl
def kCons2F (d : D) : (List D) → PS → Out (List D) := fun ds p => .ok (d :: ds) p
def kCons2 (d : D) (o : Out (List D)) : Out (List D) := o.bind (kCons2F d)
theorem kCons2F_ap (d : D) (ds : List D) (p : PS) : kCons2F d ds p = .ok (d :: ds) p := (rfl)
theorem kCons2_ok (d : D) (ds : List D) (p : PS) : kCons2 d (.ok ds p) = .ok (d :: ds) p := (rfl)
def kConsF (F : Nat → List D → M D) (b : Bool) (es : List IE) (env : Env) : D → PS → Out (List D) := fun d p => kCons2 d (evs F b es env p)
def kCons (F : Nat → List D → M D) (b : Bool) (es : List IE) (env : Env) (o : Out D) : Out (List D) := o.bind (kConsF F b es env)
theorem kConsF_ap (F : Nat → List D → M D) (b : Bool) (es : List IE) (env : Env) (d : D) (p : PS) : kConsF F b es env d p = kCons2 d (evs F b es env p) := (rfl)
theorem kCons_ok (F : Nat → List D → M D) (b : Bool) (es : List IE) (env : Env) (d : D) (p : PS) : kCons F b es env (.ok d p) = kCons2 d (evs F b es env p) := (rfl)
theorem v_nil : evs F b [] env p = .ok [] p := by simp only [evs]; rfl
theorem v_cons {e : IE} {es : List IE} : evs F b (e :: es) env p = kCons F b es env (ev F b e env p) := by simp only [evs]; rfl
def kTupF : List D → PS → Out D := fun ds p => (lenOk ds p).bind fun ds p => .ok (.tuple ds) p
def kTup (o : Out (List D)) : Out D := o.bind kTupF
theorem kTupF_ap (ds : List D) (p : PS) (h : ds.length ≤ 16777216) : kTupF ds p = .ok (.tuple ds) p := by
  show (lenOk ds p).bind _ = _
  rw [lenOk_ok h]
  rfl
theorem kTup_ok (ds : List D) (p : PS) (h : ds.length ≤ 16777216) : kTup (.ok ds p) = .ok (.tuple ds) p := by
  show (lenOk ds p).bind _ = _
  rw [lenOk_ok h]
  rfl
def kLstF : List D → PS → Out D := fun ds p => (lenOk ds p).bind fun ds p => .ok (.list ds) p
def kLst (o : Out (List D)) : Out D := o.bind kLstF
theorem kLstF_ap (ds : List D) (p : PS) (h : ds.length ≤ 16777216) : kLstF ds p = .ok (.list ds) p := by
  show (lenOk ds p).bind _ = _
  rw [lenOk_ok h]
  rfl
theorem kLst_ok (ds : List D) (p : PS) (h : ds.length ≤ 16777216) : kLst (.ok ds p) = .ok (.list ds) p := by
  show (lenOk ds p).bind _ = _
  rw [lenOk_ok h]
  rfl
theorem v_tup {es : List IE} : ev F b (.tup es) env p = kTup (evs F false es env p) := by simp only [ev]; rfl
theorem v_lst {es : List IE} : ev F b (.lst es) env p = kLst (evs F false es env p) := by simp only [ev]; rfl
def kBin2F (op : BOp) (x : D) : D → PS → Out D := fun y p => opt (binD op x y) p
def kBin2 (op : BOp) (x : D) (o : Out D) : Out D := o.bind (kBin2F op x)
theorem kBin2F_ap (op : BOp) (x : D) (y : D) (p : PS) : kBin2F op x y p = opt (binD op x y) p := (rfl)
theorem kBin2_ok (op : BOp) (x : D) (y : D) (p : PS) : kBin2 op x (.ok y p) = opt (binD op x y) p := (rfl)
def kBinF (op : BOp) (F : Nat → List D → M D) (y : IE) (env : Env) : D → PS → Out D := fun x p => kBin2 op x (ev F true y env p)
def kBin (op : BOp) (F : Nat → List D → M D) (y : IE) (env : Env) (o : Out D) : Out D := o.bind (kBinF op F y env)
theorem kBinF_ap (op : BOp) (F : Nat → List D → M D) (y : IE) (env : Env) (x : D) (p : PS) : kBinF op F y env x p = kBin2 op x (ev F true y env p) := (rfl)
theorem kBin_ok (op : BOp) (F : Nat → List D → M D) (y : IE) (env : Env) (x : D) (p : PS) : kBin op F y env (.ok x p) = kBin2 op x (ev F true y env p) := (rfl)
theorem v_bin {op : BOp} {x y : IE} : ev F b (.bin op x y) env p = kBin op F y env (ev F true x env p) := by simp only [ev]; rfl
def kNegF  : D → PS → Out D := fun x p => opt ((intOf x).map fun i => .int (-i)) p
def kNeg  (o : Out D) : Out D := o.bind (kNegF )
theorem kNegF_ap  (x : D) (p : PS) : kNegF  x p = opt ((intOf x).map fun i => .int (-i)) p := (rfl)
theorem kNeg_ok  (x : D) (p : PS) : kNeg  (.ok x p) = opt ((intOf x).map fun i => .int (-i)) p := (rfl)
theorem v_neg {x : IE} : ev F b (.neg x) env p = kNeg (ev F true x env p) := by simp only [ev]; rfl
def kNotF  : D → PS → Out D := fun x p => opt ((tru x).map fun b => .bool !b) p
def kNot  (o : Out D) : Out D := o.bind (kNotF )
theorem kNotF_ap  (x : D) (p : PS) : kNotF  x p = opt ((tru x).map fun b => .bool !b) p := (rfl)
theorem kNot_ok  (x : D) (p : PS) : kNot  (.ok x p) = opt ((tru x).map fun b => .bool !b) p := (rfl)
theorem v_not {x : IE} : ev F b (.not x) env p = kNot (ev F true x env p) := by simp only [ev]; rfl
def kBop2F (F : Nat → List D → M D) (c : Bool) (x : D) (r : List IE) (env : Env) : Bool → PS → Out D := fun t p => if t = c then evBop F c r env p else .ok x p
def kBop2 (F : Nat → List D → M D) (c : Bool) (x : D) (r : List IE) (env : Env) (o : Out Bool) : Out D := o.bind (kBop2F F c x r env)
theorem kBop2F_ap (F : Nat → List D → M D) (c : Bool) (x : D) (r : List IE) (env : Env) (t : Bool) (p : PS) : kBop2F F c x r env t p = if t = c then evBop F c r env p else .ok x p := (rfl)
theorem kBop2_ok (F : Nat → List D → M D) (c : Bool) (x : D) (r : List IE) (env : Env) (t : Bool) (p : PS) : kBop2 F c x r env (.ok t p) = if t = c then evBop F c r env p else .ok x p := (rfl)
def kBopF (F : Nat → List D → M D) (c : Bool) (r : List IE) (env : Env) : D → PS → Out D := fun x p => if r.isEmpty then .ok x p else kBop2 F c x r env (opt (tru x) p)
def kBop (F : Nat → List D → M D) (c : Bool) (r : List IE) (env : Env) (o : Out D) : Out D := o.bind (kBopF F c r env)
theorem kBopF_1 {c : Bool} {x : D} : kBopF F c [] env x p = .ok x p := (rfl)
theorem kBopF_2 {c : Bool} {x : D} {e : IE} {r : List IE} : kBopF F c (e :: r) env x p = kBop2 F c x (e :: r) env (opt (tru x) p) := (rfl)
theorem kBop_1 {c : Bool} {x : D} : kBop F c [] env (.ok x p) = .ok x p := (rfl)
theorem kBop_2 {c : Bool} {x : D} {e : IE} {r : List IE} : kBop F c (e :: r) env (.ok x p) = kBop2 F c x (e :: r) env (opt (tru x) p) := (rfl)
theorem v_bop {c : Bool} {es : List IE} : ev F b (.bop c es) env p = evBop F c es env p := by simp only [ev]
theorem v_bops {c : Bool} {a : IE} {r : List IE} : evBop F c (a :: r) env p = kBop F c r env (ev F false a env p) := by simp only [evBop]; rfl
def kIfe2F (F : Nat → List D → M D) (x : IE) (y : IE) (env : Env) : Bool → PS → Out D := fun t p => if t = true then ev F false x env p else ev F false y env p
def kIfe2 (F : Nat → List D → M D) (x : IE) (y : IE) (env : Env) (o : Out Bool) : Out D := o.bind (kIfe2F F x y env)
theorem kIfe2F_ap (F : Nat → List D → M D) (x : IE) (y : IE) (env : Env) (t : Bool) (p : PS) : kIfe2F F x y env t p = if t = true then ev F false x env p else ev F false y env p := (rfl)
theorem kIfe2_ok (F : Nat → List D → M D) (x : IE) (y : IE) (env : Env) (t : Bool) (p : PS) : kIfe2 F x y env (.ok t p) = if t = true then ev F false x env p else ev F false y env p := (rfl)
def kIfeF (F : Nat → List D → M D) (x : IE) (y : IE) (env : Env) : D → PS → Out D := fun t p => kIfe2 F x y env (opt (tru t) p)
def kIfe (F : Nat → List D → M D) (x : IE) (y : IE) (env : Env) (o : Out D) : Out D := o.bind (kIfeF F x y env)
theorem kIfeF_ap (F : Nat → List D → M D) (x : IE) (y : IE) (env : Env) (t : D) (p : PS) : kIfeF F x y env t p = kIfe2 F x y env (opt (tru t) p) := (rfl)
theorem kIfe_ok (F : Nat → List D → M D) (x : IE) (y : IE) (env : Env) (t : D) (p : PS) : kIfe F x y env (.ok t p) = kIfe2 F x y env (opt (tru t) p) := (rfl)
theorem v_ife {c x y : IE} : ev F b (.ife c x y) env p = kIfe F x y env (ev F true c env p) := by simp only [ev]; rfl
def kCmp2F (op : COp) (x : D) : D → PS → Out D := fun y p => opt ((cmpD op x y).map .bool) p
def kCmp2 (op : COp) (x : D) (o : Out D) : Out D := o.bind (kCmp2F op x)
theorem kCmp2F_ap (op : COp) (x : D) (y : D) (p : PS) : kCmp2F op x y p = opt ((cmpD op x y).map .bool) p := (rfl)
theorem kCmp2_ok (op : COp) (x : D) (y : D) (p : PS) : kCmp2 op x (.ok y p) = opt ((cmpD op x y).map .bool) p := (rfl)
def kCmpF (op : COp) (F : Nat → List D → M D) (y : IE) (env : Env) : D → PS → Out D := fun x p => kCmp2 op x (ev F true y env p)
def kCmp (op : COp) (F : Nat → List D → M D) (y : IE) (env : Env) (o : Out D) : Out D := o.bind (kCmpF op F y env)
theorem kCmpF_ap (op : COp) (F : Nat → List D → M D) (y : IE) (env : Env) (x : D) (p : PS) : kCmpF op F y env x p = kCmp2 op x (ev F true y env p) := (rfl)
theorem kCmp_ok (op : COp) (F : Nat → List D → M D) (y : IE) (env : Env) (x : D) (p : PS) : kCmp op F y env (.ok x p) = kCmp2 op x (ev F true y env p) := (rfl)
theorem v_cmp {op : COp} {x y : IE} : ev F b (.cmp op x y) env p = kCmp op F y env (ev F true x env p) := by simp only [ev]; rfl
def kChn3F (op : COp) (y : D) (F : Nat → List D → M D) (z : IE) (env : Env) : Bool → PS → Out D := fun t p => if t = true then kCmp2 op y (ev F true z env p) else .ok (.bool false) p
def kChn3 (op : COp) (y : D) (F : Nat → List D → M D) (z : IE) (env : Env) (o : Out Bool) : Out D := o.bind (kChn3F op y F z env)
theorem kChn3F_ap (op : COp) (y : D) (F : Nat → List D → M D) (z : IE) (env : Env) (t : Bool) (p : PS) : kChn3F op y F z env t p = if t = true then kCmp2 op y (ev F true z env p) else .ok (.bool false) p := (rfl)
theorem kChn3_ok (op : COp) (y : D) (F : Nat → List D → M D) (z : IE) (env : Env) (t : Bool) (p : PS) : kChn3 op y F z env (.ok t p) = if t = true then kCmp2 op y (ev F true z env p) else .ok (.bool false) p := (rfl)
def kChn2F (o1 : COp) (o2 : COp) (x : D) (F : Nat → List D → M D) (z : IE) (env : Env) : D → PS → Out D := fun y p => kChn3 o2 y F z env (opt (cmpD o1 x y) p)
def kChn2 (o1 : COp) (o2 : COp) (x : D) (F : Nat → List D → M D) (z : IE) (env : Env) (o : Out D) : Out D := o.bind (kChn2F o1 o2 x F z env)
theorem kChn2F_ap (o1 : COp) (o2 : COp) (x : D) (F : Nat → List D → M D) (z : IE) (env : Env) (y : D) (p : PS) : kChn2F o1 o2 x F z env y p = kChn3 o2 y F z env (opt (cmpD o1 x y) p) := (rfl)
theorem kChn2_ok (o1 : COp) (o2 : COp) (x : D) (F : Nat → List D → M D) (z : IE) (env : Env) (y : D) (p : PS) : kChn2 o1 o2 x F z env (.ok y p) = kChn3 o2 y F z env (opt (cmpD o1 x y) p) := (rfl)
def kChnF (o1 : COp) (o2 : COp) (F : Nat → List D → M D) (y : IE) (z : IE) (env : Env) : D → PS → Out D := fun x p => kChn2 o1 o2 x F z env (ev F true y env p)
def kChn (o1 : COp) (o2 : COp) (F : Nat → List D → M D) (y : IE) (z : IE) (env : Env) (o : Out D) : Out D := o.bind (kChnF o1 o2 F y z env)
theorem kChnF_ap (o1 : COp) (o2 : COp) (F : Nat → List D → M D) (y : IE) (z : IE) (env : Env) (x : D) (p : PS) : kChnF o1 o2 F y z env x p = kChn2 o1 o2 x F z env (ev F true y env p) := (rfl)
theorem kChn_ok (o1 : COp) (o2 : COp) (F : Nat → List D → M D) (y : IE) (z : IE) (env : Env) (x : D) (p : PS) : kChn o1 o2 F y z env (.ok x p) = kChn2 o1 o2 x F z env (ev F true y env p) := (rfl)
theorem v_chn {o1 o2 : COp} {x y z : IE} : ev F b (.chn o1 o2 x y z) env p = kChn o1 o2 F y z env (ev F true x env p) := by simp only [ev]; rfl
def kIsnF (ng : Bool) : D → PS → Out D := fun x p => .ok (.bool (ng != isNone x)) p
def kIsn (ng : Bool) (o : Out D) : Out D := o.bind (kIsnF ng)
theorem kIsnF_ap (ng : Bool) (x : D) (p : PS) : kIsnF ng x p = .ok (.bool (ng != isNone x)) p := (rfl)
theorem kIsn_ok (ng : Bool) (x : D) (p : PS) : kIsn ng (.ok x p) = .ok (.bool (ng != isNone x)) p := (rfl)
theorem v_isn {ng : Bool} {x : IE} : ev F b (.isn ng x) env p = kIsn ng (ev F true x env p) := by simp only [ev]; rfl
def kMem2F (ng : Bool) (x : D) : D → PS → Out D := fun y p => opt ((memD x y).map fun t => .bool (ng != t)) p
def kMem2 (ng : Bool) (x : D) (o : Out D) : Out D := o.bind (kMem2F ng x)
theorem kMem2F_ap (ng : Bool) (x : D) (y : D) (p : PS) : kMem2F ng x y p = opt ((memD x y).map fun t => .bool (ng != t)) p := (rfl)
theorem kMem2_ok (ng : Bool) (x : D) (y : D) (p : PS) : kMem2 ng x (.ok y p) = opt ((memD x y).map fun t => .bool (ng != t)) p := (rfl)
def kMemF (ng : Bool) (F : Nat → List D → M D) (y : IE) (env : Env) : D → PS → Out D := fun x p => kMem2 ng x (ev F true y env p)
def kMem (ng : Bool) (F : Nat → List D → M D) (y : IE) (env : Env) (o : Out D) : Out D := o.bind (kMemF ng F y env)
theorem kMemF_ap (ng : Bool) (F : Nat → List D → M D) (y : IE) (env : Env) (x : D) (p : PS) : kMemF ng F y env x p = kMem2 ng x (ev F true y env p) := (rfl)
theorem kMem_ok (ng : Bool) (F : Nat → List D → M D) (y : IE) (env : Env) (x : D) (p : PS) : kMem ng F y env (.ok x p) = kMem2 ng x (ev F true y env p) := (rfl)
theorem v_mem {ng : Bool} {x y : IE} : ev F b (.mem ng x y) env p = kMem ng F y env (ev F true x env p) := by simp only [ev]; rfl
def kIx2F (x : D) : D → PS → Out D := fun y p => opt (ixD x y) p
def kIx2 (x : D) (o : Out D) : Out D := o.bind (kIx2F x)
theorem kIx2F_ap (x : D) (y : D) (p : PS) : kIx2F x y p = opt (ixD x y) p := (rfl)
theorem kIx2_ok (x : D) (y : D) (p : PS) : kIx2 x (.ok y p) = opt (ixD x y) p := (rfl)
def kIxF (F : Nat → List D → M D) (y : IE) (env : Env) : D → PS → Out D := fun x p => kIx2 x (ev F true y env p)
def kIx (F : Nat → List D → M D) (y : IE) (env : Env) (o : Out D) : Out D := o.bind (kIxF F y env)
theorem kIxF_ap (F : Nat → List D → M D) (y : IE) (env : Env) (x : D) (p : PS) : kIxF F y env x p = kIx2 x (ev F true y env p) := (rfl)
theorem kIx_ok (F : Nat → List D → M D) (y : IE) (env : Env) (x : D) (p : PS) : kIx F y env (.ok x p) = kIx2 x (ev F true y env p) := (rfl)
theorem v_ix {x y : IE} : ev F b (.ix x y) env p = kIx F y env (ev F true x env p) := by simp only [ev]; rfl
def kO2F  : Int → PS → Out (Option Int) := fun i p => .ok (some i) p
def kO2  (o : Out Int) : Out (Option Int) := o.bind (kO2F )
theorem kO2F_ap  (i : Int) (p : PS) : kO2F  i p = .ok (some i) p := (rfl)
theorem kO2_ok  (i : Int) (p : PS) : kO2  (.ok i p) = .ok (some i) p := (rfl)
def kOF  : D → PS → Out (Option Int) := fun d p => kO2 (opt (intOf d) p)
def kO  (o : Out D) : Out (Option Int) := o.bind (kOF )
theorem kOF_ap  (d : D) (p : PS) : kOF  d p = kO2 (opt (intOf d) p) := (rfl)
theorem kO_ok  (d : D) (p : PS) : kO  (.ok d p) = kO2 (opt (intOf d) p) := (rfl)
theorem v_O0 : evO F none env p = .ok none p := by simp only [evO]; rfl
theorem v_O1 {e : IE} : evO F (some e) env p = kO (ev F false e env p) := by simp only [evO]; rfl
def kSl3F (x : D) (l : Option Int) : (Option Int) → PS → Out D := fun h p => opt (slD l h x) p
def kSl3 (x : D) (l : Option Int) (o : Out (Option Int)) : Out D := o.bind (kSl3F x l)
theorem kSl3F_ap (x : D) (l : Option Int) (h : Option Int) (p : PS) : kSl3F x l h p = opt (slD l h x) p := (rfl)
theorem kSl3_ok (x : D) (l : Option Int) (h : Option Int) (p : PS) : kSl3 x l (.ok h p) = opt (slD l h x) p := (rfl)
def kSl2F (x : D) (F : Nat → List D → M D) (hi : Option IE) (env : Env) : (Option Int) → PS → Out D := fun l p => kSl3 x l (evO F hi env p)
def kSl2 (x : D) (F : Nat → List D → M D) (hi : Option IE) (env : Env) (o : Out (Option Int)) : Out D := o.bind (kSl2F x F hi env)
theorem kSl2F_ap (x : D) (F : Nat → List D → M D) (hi : Option IE) (env : Env) (l : Option Int) (p : PS) : kSl2F x F hi env l p = kSl3 x l (evO F hi env p) := (rfl)
theorem kSl2_ok (x : D) (F : Nat → List D → M D) (hi : Option IE) (env : Env) (l : Option Int) (p : PS) : kSl2 x F hi env (.ok l p) = kSl3 x l (evO F hi env p) := (rfl)
def kSlF (F : Nat → List D → M D) (lo : Option IE) (hi : Option IE) (env : Env) : D → PS → Out D := fun x p => kSl2 x F hi env (evO F lo env p)
def kSl (F : Nat → List D → M D) (lo : Option IE) (hi : Option IE) (env : Env) (o : Out D) : Out D := o.bind (kSlF F lo hi env)
theorem kSlF_ap (F : Nat → List D → M D) (lo : Option IE) (hi : Option IE) (env : Env) (x : D) (p : PS) : kSlF F lo hi env x p = kSl2 x F hi env (evO F lo env p) := (rfl)
theorem kSl_ok (F : Nat → List D → M D) (lo : Option IE) (hi : Option IE) (env : Env) (x : D) (p : PS) : kSl F lo hi env (.ok x p) = kSl2 x F hi env (evO F lo env p) := (rfl)
theorem v_sl {a : IE} {lo hi : Option IE} : ev F b (.sl a lo hi) env p = kSl F lo hi env (ev F true a env p) := by simp only [ev]; rfl
def kRevF  : D → PS → Out D := fun x p => opt (revD x) p
def kRev  (o : Out D) : Out D := o.bind (kRevF )
theorem kRevF_ap  (x : D) (p : PS) : kRevF  x p = opt (revD x) p := (rfl)
theorem kRev_ok  (x : D) (p : PS) : kRev  (.ok x p) = opt (revD x) p := (rfl)
theorem v_rev {a : IE} : ev F b (.rev a) env p = kRev (ev F true a env p) := by simp only [ev]; rfl
def kCal3F (F : Nat → List D → M D) (f : Nat) : (List D) → PS → Out D := fun as p => F f as p
def kCal3 (F : Nat → List D → M D) (f : Nat) (o : Out (List D)) : Out D := o.bind (kCal3F F f)
theorem kCal3F_ap (F : Nat → List D → M D) (f : Nat) (as : List D) (p : PS) : kCal3F F f as p = F f as p := (rfl)
theorem kCal3_ok (F : Nat → List D → M D) (f : Nat) (as : List D) (p : PS) : kCal3 F f (.ok as p) = F f as p := (rfl)
def kCal2F (F : Nat → List D → M D) (f : Nat) (pm : List Nat) (ds : List D) : (List D) → PS → Out D := fun zs p => kCal3 F f (opt (pick (ds ++ zs) pm) p)
def kCal2 (F : Nat → List D → M D) (f : Nat) (pm : List Nat) (ds : List D) (o : Out (List D)) : Out D := o.bind (kCal2F F f pm ds)
theorem kCal2F_ap (F : Nat → List D → M D) (f : Nat) (pm : List Nat) (ds : List D) (zs : List D) (p : PS) : kCal2F F f pm ds zs p = kCal3 F f (opt (pick (ds ++ zs) pm) p) := (rfl)
theorem kCal2_ok (F : Nat → List D → M D) (f : Nat) (pm : List Nat) (ds : List D) (zs : List D) (p : PS) : kCal2 F f pm ds (.ok zs p) = kCal3 F f (opt (pick (ds ++ zs) pm) p) := (rfl)
def kCalF (F : Nat → List D → M D) (f : Nat) (vs : List IE) (pm : List Nat) (env : Env) : (List D) → PS → Out D := fun ds p => kCal2 F f pm ds (evs F false vs env p)
def kCal (F : Nat → List D → M D) (f : Nat) (vs : List IE) (pm : List Nat) (env : Env) (o : Out (List D)) : Out D := o.bind (kCalF F f vs pm env)
theorem kCalF_ap (F : Nat → List D → M D) (f : Nat) (vs : List IE) (pm : List Nat) (env : Env) (ds : List D) (p : PS) : kCalF F f vs pm env ds p = kCal2 F f pm ds (evs F false vs env p) := (rfl)
theorem kCal_ok (F : Nat → List D → M D) (f : Nat) (vs : List IE) (pm : List Nat) (env : Env) (ds : List D) (p : PS) : kCal F f vs pm env (.ok ds p) = kCal2 F f pm ds (evs F false vs env p) := (rfl)
theorem v_cal {f : Nat} {pot : Bool} {es vs : List IE} {ks : List Str} {pm : List Nat} : ev F b (.cal f pot es ks vs pm) env p = kCal F f vs pm env (evs F false es env p) := by simp only [ev]; rfl
def kBiF (b : BI) : (List D) → PS → Out D := fun ds p => opt (biD b ds) p
def kBi (b : BI) (o : Out (List D)) : Out D := o.bind (kBiF b)
theorem kBiF_ap (b : BI) (ds : List D) (p : PS) : kBiF b ds p = opt (biD b ds) p := (rfl)
theorem kBi_ok (b : BI) (ds : List D) (p : PS) : kBi b (.ok ds p) = opt (biD b ds) p := (rfl)
theorem v_bi {k : BI} {es : List IE} : ev F b (.bi k es) env p = kBi k (evs F true es env p) := by simp only [ev]; rfl
def kIsiF (t : Ty) : D → PS → Out D := fun x p => .ok (.bool (isD t x)) p
def kIsi (t : Ty) (o : Out D) : Out D := o.bind (kIsiF t)
theorem kIsiF_ap (t : Ty) (x : D) (p : PS) : kIsiF t x p = .ok (.bool (isD t x)) p := (rfl)
theorem kIsi_ok (t : Ty) (x : D) (p : PS) : kIsi t (.ok x p) = .ok (.bool (isD t x)) p := (rfl)
theorem v_isi {t : Ty} {a : IE} : ev F b (.isi t a) env p = kIsi t (ev F true a env p) := by simp only [ev]; rfl
def kGet3F (d : D) (q : D) : D → PS → Out D := fun y p => opt (dgetD d q y) p
def kGet3 (d : D) (q : D) (o : Out D) : Out D := o.bind (kGet3F d q)
theorem kGet3F_ap (d : D) (q : D) (y : D) (p : PS) : kGet3F d q y p = opt (dgetD d q y) p := (rfl)
theorem kGet3_ok (d : D) (q : D) (y : D) (p : PS) : kGet3 d q (.ok y p) = opt (dgetD d q y) p := (rfl)
def kGet2F (d : D) (F : Nat → List D → M D) (x : IE) (env : Env) : D → PS → Out D := fun q p => kGet3 d q (ev F false x env p)
def kGet2 (d : D) (F : Nat → List D → M D) (x : IE) (env : Env) (o : Out D) : Out D := o.bind (kGet2F d F x env)
theorem kGet2F_ap (d : D) (F : Nat → List D → M D) (x : IE) (env : Env) (q : D) (p : PS) : kGet2F d F x env q p = kGet3 d q (ev F false x env p) := (rfl)
theorem kGet2_ok (d : D) (F : Nat → List D → M D) (x : IE) (env : Env) (q : D) (p : PS) : kGet2 d F x env (.ok q p) = kGet3 d q (ev F false x env p) := (rfl)
def kGetF (F : Nat → List D → M D) (k : IE) (x : IE) (env : Env) : D → PS → Out D := fun d p => kGet2 d F x env (ev F false k env p)
def kGet (F : Nat → List D → M D) (k : IE) (x : IE) (env : Env) (o : Out D) : Out D := o.bind (kGetF F k x env)
theorem kGetF_ap (F : Nat → List D → M D) (k : IE) (x : IE) (env : Env) (d : D) (p : PS) : kGetF F k x env d p = kGet2 d F x env (ev F false k env p) := (rfl)
theorem kGet_ok (F : Nat → List D → M D) (k : IE) (x : IE) (env : Env) (d : D) (p : PS) : kGet F k x env (.ok d p) = kGet2 d F x env (ev F false k env p) := (rfl)
theorem v_get {a k x : IE} : ev F b (.get a k x) env p = kGet F k x env (ev F true a env p) := by simp only [ev]; rfl
def kCf3F  : D → PS → Out (Option D) := fun y p => .ok (some y) p
def kCf3  (o : Out D) : Out (Option D) := o.bind (kCf3F )
theorem kCf3F_ap  (y : D) (p : PS) : kCf3F  y p = .ok (some y) p := (rfl)
theorem kCf3_ok  (y : D) (p : PS) : kCf3  (.ok y p) = .ok (some y) p := (rfl)
def kCfc3F (F : Nat → List D → M D) (elt : IE) (env : Env) : Bool → PS → Out (Option D) := fun t p => if t = true then kCf3 (ev F false elt env p) else .ok none p
def kCfc3 (F : Nat → List D → M D) (elt : IE) (env : Env) (o : Out Bool) : Out (Option D) := o.bind (kCfc3F F elt env)
theorem kCfc3F_ap (F : Nat → List D → M D) (elt : IE) (env : Env) (t : Bool) (p : PS) : kCfc3F F elt env t p = if t = true then kCf3 (ev F false elt env p) else .ok none p := (rfl)
theorem kCfc3_ok (F : Nat → List D → M D) (elt : IE) (env : Env) (t : Bool) (p : PS) : kCfc3 F elt env (.ok t p) = if t = true then kCf3 (ev F false elt env p) else .ok none p := (rfl)
def kCfc2F (F : Nat → List D → M D) (elt : IE) (env : Env) : D → PS → Out (Option D) := fun d p => kCfc3 F elt env (opt (tru d) p)
def kCfc2 (F : Nat → List D → M D) (elt : IE) (env : Env) (o : Out D) : Out (Option D) := o.bind (kCfc2F F elt env)
theorem kCfc2F_ap (F : Nat → List D → M D) (elt : IE) (env : Env) (d : D) (p : PS) : kCfc2F F elt env d p = kCfc3 F elt env (opt (tru d) p) := (rfl)
theorem kCfc2_ok (F : Nat → List D → M D) (elt : IE) (env : Env) (d : D) (p : PS) : kCfc2 F elt env (.ok d p) = kCfc3 F elt env (opt (tru d) p) := (rfl)
def kCfF (F : Nat → List D → M D) (cond : List IE) (elt : IE) : Env → PS → Out (Option D) := fun env p => (evC F cond env p).bind fun t p => if t = true then kCf3 (ev F false elt env p) else .ok none p
def kCf (F : Nat → List D → M D) (cond : List IE) (elt : IE) (o : Out Env) : Out (Option D) := o.bind (kCfF F cond elt)
theorem kCf_0 {elt : IE} : kCf F [] elt (.ok env p) = kCf3 (ev F false elt env p) := by
  unfold kCf
  rw [ok_bind]
  unfold kCfF
  simp only [evC]
  rfl
theorem kCf_1 {c elt : IE} : kCf F [c] elt (.ok env p) = kCfc2 F elt env (ev F true c env p) := by
  unfold kCf
  rw [ok_bind]
  unfold kCfF
  simp only [evC]
  cases ev F true c env p with
  | ok d p =>
    show ((opt (tru d) p).bind _) = kCfc3 F elt env (opt (tru d) p)
    rfl
  | exc c fs p => rfl
  | bad => rfl
def cf (F : Nat → List D → M D) (own : List (Str × Nat)) (tg : Tg) (cond : List IE) (elt : IE) (env : Env) (x : D) (p : PS) : Out (Option D) := kCf F cond elt (opt (asgT tg x (wipeE (own.map (·.2)) env)) p)
theorem v_cf {own : List (Str × Nat)} {tg : Tg} {cond : List IE} {elt : IE} {x : D} : cf F own tg cond elt env x p = kCf F cond elt (opt (asgT tg x (wipeE (own.map (·.2)) env)) p) := (rfl)
def kLc3F : List D → PS → Out D := fun ys p => (lenOk ys p).bind fun ys p => .ok (.list ys) p
def kLc3 (o : Out (List D)) : Out D := o.calm.bind kLc3F
theorem kLc3F_ap (ys : List D) (p : PS) (h : ys.length ≤ 16777216) : kLc3F ys p = .ok (.list ys) p := by
  show (lenOk ys p).bind _ = _
  rw [lenOk_ok h]
  rfl
theorem kLc3_ok (ys : List D) (p : PS) (h : ys.length ≤ 16777216) : kLc3 (.ok ys p) = .ok (.list ys) p := by
  show (lenOk ys p).bind _ = _
  rw [lenOk_ok h]
  rfl
def kLc2F (F : Nat → List D → M D) (own : List (Str × Nat)) (tg : Tg) (cond : List IE) (elt : IE) (env : Env) : (List D) → PS → Out D := fun xs p => kLc3 (compL (cf F own tg cond elt env) xs p)
def kLc2 (F : Nat → List D → M D) (own : List (Str × Nat)) (tg : Tg) (cond : List IE) (elt : IE) (env : Env) (o : Out (List D)) : Out D := o.bind (kLc2F F own tg cond elt env)
theorem kLc2F_ap (F : Nat → List D → M D) (own : List (Str × Nat)) (tg : Tg) (cond : List IE) (elt : IE) (env : Env) (xs : List D) (p : PS) : kLc2F F own tg cond elt env xs p = kLc3 (compL (cf F own tg cond elt env) xs p) := (rfl)
theorem kLc2_ok (F : Nat → List D → M D) (own : List (Str × Nat)) (tg : Tg) (cond : List IE) (elt : IE) (env : Env) (xs : List D) (p : PS) : kLc2 F own tg cond elt env (.ok xs p) = kLc3 (compL (cf F own tg cond elt env) xs p) := (rfl)
def kLcF (F : Nat → List D → M D) (own : List (Str × Nat)) (tg : Tg) (cond : List IE) (elt : IE) (env : Env) (k : ItK) : (List D) → PS → Out D := fun ds p => kLc2 F own tg cond elt env (opt (itemsOf k ds) p)
def kLc (F : Nat → List D → M D) (own : List (Str × Nat)) (tg : Tg) (cond : List IE) (elt : IE) (env : Env) (k : ItK) (o : Out (List D)) : Out D := o.bind (kLcF F own tg cond elt env k)
theorem kLcF_ap (F : Nat → List D → M D) (own : List (Str × Nat)) (tg : Tg) (cond : List IE) (elt : IE) (env : Env) (k : ItK) (ds : List D) (p : PS) : kLcF F own tg cond elt env k ds p = kLc2 F own tg cond elt env (opt (itemsOf k ds) p) := (rfl)
theorem kLc_ok (F : Nat → List D → M D) (own : List (Str × Nat)) (tg : Tg) (cond : List IE) (elt : IE) (env : Env) (k : ItK) (ds : List D) (p : PS) : kLc F own tg cond elt env k (.ok ds p) = kLc2 F own tg cond elt env (opt (itemsOf k ds) p) := (rfl)
theorem v_lc {own : List (Str × Nat)} {tg : Tg} {k : ItK} {args cond : List IE} {elt : IE} : ev F b (.lc own tg k args cond elt) env p = kLc F own tg cond elt env k (evs F true args env p) := by simp only [ev]; rfl
def kSeqF (F : Nat → List D → M D) (r : List IS) : Fl → PS → Out Fl := fun f p => match f with
  | .nx env => exs F r env p
  | f => .ok f p
def kSeq (F : Nat → List D → M D) (r : List IS) (o : Out Fl) : Out Fl := o.bind (kSeqF F r)
theorem kSeqF_rt {r : List IS} {d : D} : kSeqF F r (.rt d) p = .ok (.rt d) p := (rfl)
theorem kSeqF_br {r : List IS} {d : D} : kSeqF F r (.br env) p = .ok (.br env) p := (rfl)
theorem kSeqF_ct {r : List IS} {d : D} : kSeqF F r (.ct env) p = .ok (.ct env) p := (rfl)
theorem kSeqF_nx {r : List IS} : kSeqF F r (.nx env) p = exs F r env p := (rfl)
theorem kSeq_nx {r : List IS} : kSeq F r (.ok (.nx env) p) = exs F r env p := (rfl)
theorem kSeq_rt {r : List IS} {d : D} : kSeq F r (.ok (.rt d) p) = .ok (.rt d) p := (rfl)
theorem kSeq_br {r : List IS} : kSeq F r (.ok (.br env) p) = .ok (.br env) p := (rfl)
theorem kSeq_ct {r : List IS} : kSeq F r (.ok (.ct env) p) = .ok (.ct env) p := (rfl)
theorem x_nil : exs F [] env p = .ok (.nx env) p := by simp only [exs]; rfl
theorem x_cons {s : IS} {r : List IS} : exs F (s :: r) env p = kSeq F r (ex F s env p) := by simp only [exs]; rfl
def kAsg2F  : Env → PS → Out Fl := fun env p => .ok (.nx env) p
def kAsg2  (o : Out Env) : Out Fl := o.bind (kAsg2F )
theorem kAsg2F_ap  (env : Env) (p : PS) : kAsg2F  env p = .ok (.nx env) p := (rfl)
theorem kAsg2_ok  (env : Env) (p : PS) : kAsg2  (.ok env p) = .ok (.nx env) p := (rfl)
def kAsgF (i : Nat) (fr : Bool) (env : Env) : D → PS → Out Fl := fun d p => kAsg2 (opt (asgF (.nm i) fr d env) p)
def kAsg (i : Nat) (fr : Bool) (env : Env) (o : Out D) : Out Fl := o.bind (kAsgF i fr env)
theorem kAsgF_ap (i : Nat) (fr : Bool) (env : Env) (d : D) (p : PS) : kAsgF i fr env d p = kAsg2 (opt (asgF (.nm i) fr d env) p) := (rfl)
theorem kAsg_ok (i : Nat) (fr : Bool) (env : Env) (d : D) (p : PS) : kAsg i fr env (.ok d p) = kAsg2 (opt (asgF (.nm i) fr d env) p) := (rfl)
theorem x_asg {fz : List Nat} {i : Nat} {fr : Bool} {e : IE} : ex F (.asg fz i fr e) env p = kAsg i fr (freeze fz env) (ev F false e (freeze fz env) p) := by simp only [ex]; rfl
def kAsTF (ts : List Tg) (env : Env) : D → PS → Out Fl := fun d p => kAsg2 (opt (asgT (.tp ts) d env) p)
def kAsT (ts : List Tg) (env : Env) (o : Out D) : Out Fl := o.bind (kAsTF ts env)
theorem kAsTF_ap (ts : List Tg) (env : Env) (d : D) (p : PS) : kAsTF ts env d p = kAsg2 (opt (asgT (.tp ts) d env) p) := (rfl)
theorem kAsT_ok (ts : List Tg) (env : Env) (d : D) (p : PS) : kAsT ts env (.ok d p) = kAsg2 (opt (asgT (.tp ts) d env) p) := (rfl)
theorem x_asT {fz : List Nat} {ts : List Tg} {e : IE} : ex F (.asT fz ts e) env p = kAsT ts (freeze fz env) (ev F false e (freeze fz env) p) := by simp only [ex]; rfl
def kParF (ts : List (Tg × Bool)) (env : Env) : (List D) → PS → Out Fl := fun ds p => kAsg2 (opt (parF ts ds env) p)
def kPar (ts : List (Tg × Bool)) (env : Env) (o : Out (List D)) : Out Fl := o.bind (kParF ts env)
theorem kParF_ap (ts : List (Tg × Bool)) (env : Env) (ds : List D) (p : PS) : kParF ts env ds p = kAsg2 (opt (parF ts ds env) p) := (rfl)
theorem kPar_ok (ts : List (Tg × Bool)) (env : Env) (ds : List D) (p : PS) : kPar ts env (.ok ds p) = kAsg2 (opt (parF ts ds env) p) := (rfl)
theorem x_par {fz : List Nat} {ts : List (Tg × Bool)} {es : List IE} : ex F (.par fz ts es) env p = kPar ts (freeze fz env) (evs F false es (freeze fz env) p) := by simp only [ex]; rfl
def kStx4F (i : Nat) (env : Env) : D → PS → Out Fl := fun d p => .ok (.nx (env.set i (.ow d))) p
def kStx4 (i : Nat) (env : Env) (o : Out D) : Out Fl := o.bind (kStx4F i env)
theorem kStx4F_ap (i : Nat) (env : Env) (d : D) (p : PS) : kStx4F i env d p = .ok (.nx (env.set i (.ow d))) p := (rfl)
theorem kStx4_ok (i : Nat) (env : Env) (d : D) (p : PS) : kStx4 i env (.ok d p) = .ok (.nx (env.set i (.ow d))) p := (rfl)
def kStx3F (i : Nat) (y : D) (env : Env) (d : D) : D → PS → Out Fl := fun q p => kStx4 i env (opt (setD d q y) p)
def kStx3 (i : Nat) (y : D) (env : Env) (d : D) (o : Out D) : Out Fl := o.bind (kStx3F i y env d)
theorem kStx3F_ap (i : Nat) (y : D) (env : Env) (d : D) (q : D) (p : PS) : kStx3F i y env d q p = kStx4 i env (opt (setD d q y) p) := (rfl)
theorem kStx3_ok (i : Nat) (y : D) (env : Env) (d : D) (q : D) (p : PS) : kStx3 i y env d (.ok q p) = kStx4 i env (opt (setD d q y) p) := (rfl)
def kStx2F (F : Nat → List D → M D) (i : Nat) (y : D) (k : IE) (env : Env) : D → PS → Out Fl := fun d p => kStx3 i y env d (ev F false k env p)
def kStx2 (F : Nat → List D → M D) (i : Nat) (y : D) (k : IE) (env : Env) (o : Out D) : Out Fl := o.bind (kStx2F F i y k env)
theorem kStx2F_ap (F : Nat → List D → M D) (i : Nat) (y : D) (k : IE) (env : Env) (d : D) (p : PS) : kStx2F F i y k env d p = kStx3 i y env d (ev F false k env p) := (rfl)
theorem kStx2_ok (F : Nat → List D → M D) (i : Nat) (y : D) (k : IE) (env : Env) (d : D) (p : PS) : kStx2 F i y k env (.ok d p) = kStx3 i y env d (ev F false k env p) := (rfl)
def kStxF (F : Nat → List D → M D) (i : Nat) (k : IE) (env : Env) : D → PS → Out Fl := fun y p => kStx2 F i y k env (opt (ownV env i) p)
def kStx (F : Nat → List D → M D) (i : Nat) (k : IE) (env : Env) (o : Out D) : Out Fl := o.bind (kStxF F i k env)
theorem kStxF_ap (F : Nat → List D → M D) (i : Nat) (k : IE) (env : Env) (y : D) (p : PS) : kStxF F i k env y p = kStx2 F i y k env (opt (ownV env i) p) := (rfl)
theorem kStx_ok (F : Nat → List D → M D) (i : Nat) (k : IE) (env : Env) (y : D) (p : PS) : kStx F i k env (.ok y p) = kStx2 F i y k env (opt (ownV env i) p) := (rfl)
theorem x_stx {fz : List Nat} {i : Nat} {k v : IE} : ex F (.stx fz i k v) env p = kStx F i k (freeze fz env) (ev F false v (freeze fz env) p) := by simp only [ex]; rfl
def kMut3F (i : Nat) (env : Env) : (D × D) → PS → Out Fl := fun r p => .ok (.nx (env.set i (.ow r.1))) p
def kMut3 (i : Nat) (env : Env) (o : Out (D × D)) : Out Fl := o.bind (kMut3F i env)
theorem kMut3F_ap (i : Nat) (env : Env) (r : D × D) (p : PS) : kMut3F i env r p = .ok (.nx (env.set i (.ow r.1))) p := (rfl)
theorem kMut3_ok (i : Nat) (env : Env) (r : D × D) (p : PS) : kMut3 i env (.ok r p) = .ok (.nx (env.set i (.ow r.1))) p := (rfl)
def kMut2F (m : Mu) (i : Nat) (env : Env) (xs : List D) : (List D) → PS → Out Fl := fun ds p => kMut3 i env (opt (muD m (.list xs) ds) p)
def kMut2 (m : Mu) (i : Nat) (env : Env) (xs : List D) (o : Out (List D)) : Out Fl := o.bind (kMut2F m i env xs)
theorem kMut2F_ap (m : Mu) (i : Nat) (env : Env) (xs : List D) (ds : List D) (p : PS) : kMut2F m i env xs ds p = kMut3 i env (opt (muD m (.list xs) ds) p) := (rfl)
theorem kMut2_ok (m : Mu) (i : Nat) (env : Env) (xs : List D) (ds : List D) (p : PS) : kMut2 m i env xs (.ok ds p) = kMut3 i env (opt (muD m (.list xs) ds) p) := (rfl)
def kMutF (F : Nat → List D → M D) (m : Mu) (i : Nat) (es : List IE) (env : Env) : (List D) → PS → Out Fl := fun xs p => kMut2 m i env xs (evs F false es env p)
def kMut (F : Nat → List D → M D) (m : Mu) (i : Nat) (es : List IE) (env : Env) (o : Out (List D)) : Out Fl := o.bind (kMutF F m i es env)
theorem kMutF_ap (F : Nat → List D → M D) (m : Mu) (i : Nat) (es : List IE) (env : Env) (xs : List D) (p : PS) : kMutF F m i es env xs p = kMut2 m i env xs (evs F false es env p) := (rfl)
theorem kMut_ok (F : Nat → List D → M D) (m : Mu) (i : Nat) (es : List IE) (env : Env) (xs : List D) (p : PS) : kMut F m i es env (.ok xs p) = kMut2 m i env xs (evs F false es env p) := (rfl)
theorem x_mut {fz : List Nat} {m : Mu} {i : Nat} {es : List IE} : ex F (.mut fz m i es) env p = kMut F m i es (freeze fz env) (opt (ownLst (freeze fz env) i) p) := by simp only [ex]; rfl
def kMutA3F (j : Nat) (i : Nat) (env : Env) : (D × D) → PS → Out Fl := fun r p => kAsg2 (opt (asgT (.nm j) r.2 (env.set i (.ow r.1))) p)
def kMutA3 (j : Nat) (i : Nat) (env : Env) (o : Out (D × D)) : Out Fl := o.bind (kMutA3F j i env)
theorem kMutA3F_ap (j : Nat) (i : Nat) (env : Env) (r : D × D) (p : PS) : kMutA3F j i env r p = kAsg2 (opt (asgT (.nm j) r.2 (env.set i (.ow r.1))) p) := (rfl)
theorem kMutA3_ok (j : Nat) (i : Nat) (env : Env) (r : D × D) (p : PS) : kMutA3 j i env (.ok r p) = kAsg2 (opt (asgT (.nm j) r.2 (env.set i (.ow r.1))) p) := (rfl)
def kMutA2F (j : Nat) (m : Mu) (i : Nat) (env : Env) (xs : List D) : (List D) → PS → Out Fl := fun ds p => kMutA3 j i env (opt (muD m (.list xs) ds) p)
def kMutA2 (j : Nat) (m : Mu) (i : Nat) (env : Env) (xs : List D) (o : Out (List D)) : Out Fl := o.bind (kMutA2F j m i env xs)
theorem kMutA2F_ap (j : Nat) (m : Mu) (i : Nat) (env : Env) (xs : List D) (ds : List D) (p : PS) : kMutA2F j m i env xs ds p = kMutA3 j i env (opt (muD m (.list xs) ds) p) := (rfl)
theorem kMutA2_ok (j : Nat) (m : Mu) (i : Nat) (env : Env) (xs : List D) (ds : List D) (p : PS) : kMutA2 j m i env xs (.ok ds p) = kMutA3 j i env (opt (muD m (.list xs) ds) p) := (rfl)
def kMutAF (F : Nat → List D → M D) (j : Nat) (m : Mu) (i : Nat) (es : List IE) (env : Env) : (List D) → PS → Out Fl := fun xs p => kMutA2 j m i env xs (evs F false es env p)
def kMutA (F : Nat → List D → M D) (j : Nat) (m : Mu) (i : Nat) (es : List IE) (env : Env) (o : Out (List D)) : Out Fl := o.bind (kMutAF F j m i es env)
theorem kMutAF_ap (F : Nat → List D → M D) (j : Nat) (m : Mu) (i : Nat) (es : List IE) (env : Env) (xs : List D) (p : PS) : kMutAF F j m i es env xs p = kMutA2 j m i env xs (evs F false es env p) := (rfl)
theorem kMutA_ok (F : Nat → List D → M D) (j : Nat) (m : Mu) (i : Nat) (es : List IE) (env : Env) (xs : List D) (p : PS) : kMutA F j m i es env (.ok xs p) = kMutA2 j m i env xs (evs F false es env p) := (rfl)
theorem x_mutA {fz : List Nat} {j : Nat} {m : Mu} {i : Nat} {es : List IE} : ex F (.mutA fz j m i es) env p = kMutA F j m i es (freeze fz env) (opt (ownLst (freeze fz env) i) p) := by simp only [ex]; rfl
def kExpF (env : Env) : D → PS → Out Fl := fun d p => .ok (.nx env) p
def kExp (env : Env) (o : Out D) : Out Fl := o.bind (kExpF env)
theorem kExpF_ap (env : Env) (d : D) (p : PS) : kExpF env d p = .ok (.nx env) p := (rfl)
theorem kExp_ok (env : Env) (d : D) (p : PS) : kExp env (.ok d p) = .ok (.nx env) p := (rfl)
theorem x_exp {fz : List Nat} {e : IE} : ex F (.exp fz e) env p = kExp (freeze fz env) (ev F false e (freeze fz env) p) := by simp only [ex]; rfl
def kIfs2F (F : Nat → List D → M D) (x : List IS) (y : List IS) (env : Env) : Bool → PS → Out Fl := fun t p => if t = true then exs F x env p else exs F y env p
def kIfs2 (F : Nat → List D → M D) (x : List IS) (y : List IS) (env : Env) (o : Out Bool) : Out Fl := o.bind (kIfs2F F x y env)
theorem kIfs2F_ap (F : Nat → List D → M D) (x : List IS) (y : List IS) (env : Env) (t : Bool) (p : PS) : kIfs2F F x y env t p = if t = true then exs F x env p else exs F y env p := (rfl)
theorem kIfs2_ok (F : Nat → List D → M D) (x : List IS) (y : List IS) (env : Env) (t : Bool) (p : PS) : kIfs2 F x y env (.ok t p) = if t = true then exs F x env p else exs F y env p := (rfl)
def kIfsF (F : Nat → List D → M D) (x : List IS) (y : List IS) (env : Env) : D → PS → Out Fl := fun d p => kIfs2 F x y env (opt (tru d) p)
def kIfs (F : Nat → List D → M D) (x : List IS) (y : List IS) (env : Env) (o : Out D) : Out Fl := o.bind (kIfsF F x y env)
theorem kIfsF_ap (F : Nat → List D → M D) (x : List IS) (y : List IS) (env : Env) (d : D) (p : PS) : kIfsF F x y env d p = kIfs2 F x y env (opt (tru d) p) := (rfl)
theorem kIfs_ok (F : Nat → List D → M D) (x : List IS) (y : List IS) (env : Env) (d : D) (p : PS) : kIfs F x y env (.ok d p) = kIfs2 F x y env (opt (tru d) p) := (rfl)
theorem x_ifs {fz : List Nat} {c : IE} {x y : List IS} : ex F (.ifs fz c x y) env p = kIfs F x y (freeze fz env) (ev F true c (freeze fz env) p) := by simp only [ex]; rfl
def kFfF (F : Nat → List D → M D) (body : List IS) : Env → PS → Out Fl := fun env p => exs F body env p
def kFf (F : Nat → List D → M D) (body : List IS) (o : Out Env) : Out Fl := o.bind (kFfF F body)
theorem kFfF_ap (F : Nat → List D → M D) (body : List IS) (env : Env) (p : PS) : kFfF F body env p = exs F body env p := (rfl)
theorem kFf_ok (F : Nat → List D → M D) (body : List IS) (env : Env) (p : PS) : kFf F body (.ok env p) = exs F body env p := (rfl)
def ff (F : Nat → List D → M D) (tg : Tg) (body : List IS) (x : D) (env : Env) (p : PS) : Out Fl := kFf F body (opt (asgT tg x env) p)
theorem v_ff {tg : Tg} {body : List IS} {x : D} : ff F tg body x env p = kFf F body (opt (asgT tg x env) p) := (rfl)
def kFor2F (F : Nat → List D → M D) (tg : Tg) (body : List IS) (env : Env) : (List D) → PS → Out Fl := fun xs p => forL (ff F tg body) xs env p
def kFor2 (F : Nat → List D → M D) (tg : Tg) (body : List IS) (env : Env) (o : Out (List D)) : Out Fl := o.bind (kFor2F F tg body env)
theorem kFor2F_ap (F : Nat → List D → M D) (tg : Tg) (body : List IS) (env : Env) (xs : List D) (p : PS) : kFor2F F tg body env xs p = forL (ff F tg body) xs env p := (rfl)
theorem kFor2_ok (F : Nat → List D → M D) (tg : Tg) (body : List IS) (env : Env) (xs : List D) (p : PS) : kFor2 F tg body env (.ok xs p) = forL (ff F tg body) xs env p := (rfl)
def kForF (F : Nat → List D → M D) (tg : Tg) (body : List IS) (env : Env) (k : ItK) : (List D) → PS → Out Fl := fun ds p => kFor2 F tg body env (opt (itemsOf k ds) p)
def kFor (F : Nat → List D → M D) (tg : Tg) (body : List IS) (env : Env) (k : ItK) (o : Out (List D)) : Out Fl := o.bind (kForF F tg body env k)
theorem kForF_ap (F : Nat → List D → M D) (tg : Tg) (body : List IS) (env : Env) (k : ItK) (ds : List D) (p : PS) : kForF F tg body env k ds p = kFor2 F tg body env (opt (itemsOf k ds) p) := (rfl)
theorem kFor_ok (F : Nat → List D → M D) (tg : Tg) (body : List IS) (env : Env) (k : ItK) (ds : List D) (p : PS) : kFor F tg body env k (.ok ds p) = kFor2 F tg body env (opt (itemsOf k ds) p) := (rfl)
theorem x_frs {fz : List Nat} {tg : Tg} {k : ItK} {args : List IE} {body : List IS} : ex F (.frs fz tg k args body) env p = kFor F tg body (freeze fz env) k (evs F false args (freeze fz env) p) := by simp only [ex]; rfl
def kWcF  : D → PS → Out Bool := fun d p => opt (tru d) p
def kWc  (o : Out D) : Out Bool := o.bind (kWcF )
theorem kWcF_ap  (d : D) (p : PS) : kWcF  d p = opt (tru d) p := (rfl)
theorem kWc_ok  (d : D) (p : PS) : kWc  (.ok d p) = opt (tru d) p := (rfl)
def wc (F : Nat → List D → M D) (c : IE) (env : Env) (p : PS) : Out Bool := kWc (ev F true c env p)
def wb (F : Nat → List D → M D) (body : List IS) (env : Env) (p : PS) : Out Fl := exs F body env p
theorem v_wc {c : IE} : wc F c env p = kWc (ev F true c env p) := (rfl)
theorem v_wb {body : List IS} : wb F body env p = exs F body env p := (rfl)
theorem x_whl {fz : List Nat} {c : IE} {body : List IS} : ex F (.whl fz c body) env p = whlL (wc F c) (wb F body) fuel (freeze fz env) p := by simp only [ex]; rfl
def kRtnF  : D → PS → Out Fl := fun d p => .ok (.rt d) p
def kRtn  (o : Out D) : Out Fl := o.bind (kRtnF )
theorem kRtnF_ap  (d : D) (p : PS) : kRtnF  d p = .ok (.rt d) p := (rfl)
theorem kRtn_ok  (d : D) (p : PS) : kRtn  (.ok d p) = .ok (.rt d) p := (rfl)
theorem x_rtn {fz : List Nat} {e : IE} : ex F (.rtn fz e) env p = kRtn (ev F false e (freeze fz env) p) := by simp only [ex]; rfl
theorem x_rtnN : ex F .rtnN env p = .ok (.rt .none) p := by simp only [ex]; rfl
theorem x_pas : ex F .pas env p = .ok (.nx env) p := by simp only [ex]; rfl
theorem x_brk : ex F .brk env p = .ok (.br env) p := by simp only [ex]; rfl
theorem x_cnt : ex F .cnt env p = .ok (.ct env) p := by simp only [ex]; rfl
def kRunN (p : PS) (o : Out Fl) : Out D := match o with
  | .ok (.nx _) _ => .ok .none p
  | .ok (.rt d) _ => .ok d p
  | _ => .bad
theorem kRunN_nx {q : PS} : kRunN q (.ok (.nx env) p) = .ok .none q := (rfl)
theorem kRunN_rt {q : PS} {d : D} : kRunN q (.ok (.rt d) p) = .ok d q := (rfl)
theorem v_runN {body : List IS} {n : Nat} {ds : List D} : runN F body n ds p = kRunN p (exs F body (ds.map .va ++ List.replicate (n - ds.length) .un) p0) := by
  unfold runN kRunN
  cases exs F body (ds.map .va ++ List.replicate (n - ds.length) .un) p0 with
  | ok f q => cases f <;> rfl
  | exc c fs q => rfl
  | bad => rfl
def kRunPF : Fl → PS → Out D := fun f p => match f with
  | .nx _ => .ok .none p
  | .rt d => .ok d p
  | _ => .bad
def kRunP (o : Out Fl) : Out D := o.bind kRunPF
theorem kRunPF_nx : kRunPF (.nx env) p = .ok .none p := (rfl)
theorem kRunPF_rt {d : D} : kRunPF (.rt d) p = .ok d p := (rfl)
theorem kRunP_nx : kRunP (.ok (.nx env) p) = .ok .none p := (rfl)
theorem kRunP_rt {d : D} : kRunP (.ok (.rt d) p) = .ok d p := (rfl)
theorem v_runP {body : List IS} {n : Nat} {ds : List D} : runP F body n ds p = kRunP (exs F body (.un :: (ds.map .va ++ List.replicate (n - 1 - ds.length) .un)) p) := (rfl)
theorem isD_int_none  : isD .int (.none ) = false := (rfl)
theorem isD_int_bool {c : Bool} : isD .int (.bool c) = true := (rfl)
theorem isD_int_int {i : Int} : isD .int (.int i) = true := (rfl)
theorem isD_int_str {s : Str} : isD .int (.str s) = false := (rfl)
theorem isD_int_list {xs : List D} : isD .int (.list xs) = false := (rfl)
theorem isD_int_tuple {xs : List D} : isD .int (.tuple xs) = false := (rfl)
theorem isD_int_dict {kvs : List (D × D)} : isD .int (.dict kvs) = false := (rfl)
theorem isD_bool_none  : isD .bool (.none ) = false := (rfl)
theorem isD_bool_bool {c : Bool} : isD .bool (.bool c) = true := (rfl)
theorem isD_bool_int {i : Int} : isD .bool (.int i) = false := (rfl)
theorem isD_bool_str {s : Str} : isD .bool (.str s) = false := (rfl)
theorem isD_bool_list {xs : List D} : isD .bool (.list xs) = false := (rfl)
theorem isD_bool_tuple {xs : List D} : isD .bool (.tuple xs) = false := (rfl)
theorem isD_bool_dict {kvs : List (D × D)} : isD .bool (.dict kvs) = false := (rfl)
theorem isD_tuple_none  : isD .tuple (.none ) = false := (rfl)
theorem isD_tuple_bool {c : Bool} : isD .tuple (.bool c) = false := (rfl)
theorem isD_tuple_int {i : Int} : isD .tuple (.int i) = false := (rfl)
theorem isD_tuple_str {s : Str} : isD .tuple (.str s) = false := (rfl)
theorem isD_tuple_list {xs : List D} : isD .tuple (.list xs) = false := (rfl)
theorem isD_tuple_tuple {xs : List D} : isD .tuple (.tuple xs) = true := (rfl)
theorem isD_tuple_dict {kvs : List (D × D)} : isD .tuple (.dict kvs) = false := (rfl)
theorem isD_list_none  : isD .list (.none ) = false := (rfl)
theorem isD_list_bool {c : Bool} : isD .list (.bool c) = false := (rfl)
theorem isD_list_int {i : Int} : isD .list (.int i) = false := (rfl)
theorem isD_list_str {s : Str} : isD .list (.str s) = false := (rfl)
theorem isD_list_list {xs : List D} : isD .list (.list xs) = true := (rfl)
theorem isD_list_tuple {xs : List D} : isD .list (.tuple xs) = false := (rfl)
theorem isD_list_dict {kvs : List (D × D)} : isD .list (.dict kvs) = false := (rfl)
theorem isD_str_none  : isD .str (.none ) = false := (rfl)
theorem isD_str_bool {c : Bool} : isD .str (.bool c) = false := (rfl)
theorem isD_str_int {i : Int} : isD .str (.int i) = false := (rfl)
theorem isD_str_str {s : Str} : isD .str (.str s) = true := (rfl)
theorem isD_str_list {xs : List D} : isD .str (.list xs) = false := (rfl)
theorem isD_str_tuple {xs : List D} : isD .str (.tuple xs) = false := (rfl)
theorem isD_str_dict {kvs : List (D × D)} : isD .str (.dict kvs) = false := (rfl)
theorem isD_dict_none  : isD .dict (.none ) = false := (rfl)
theorem isD_dict_bool {c : Bool} : isD .dict (.bool c) = false := (rfl)
theorem isD_dict_int {i : Int} : isD .dict (.int i) = false := (rfl)
theorem isD_dict_str {s : Str} : isD .dict (.str s) = false := (rfl)
theorem isD_dict_list {xs : List D} : isD .dict (.list xs) = false := (rfl)
theorem isD_dict_tuple {xs : List D} : isD .dict (.tuple xs) = false := (rfl)
theorem isD_dict_dict {kvs : List (D × D)} : isD .dict (.dict kvs) = true := (rfl)
theorem isN_none  : isNone (.none ) = true := (rfl)
theorem isN_bool {c : Bool} : isNone (.bool c) = false := (rfl)
theorem isN_int {i : Int} : isNone (.int i) = false := (rfl)
theorem isN_str {s : Str} : isNone (.str s) = false := (rfl)
theorem isN_list {xs : List D} : isNone (.list xs) = false := (rfl)
theorem isN_tuple {xs : List D} : isNone (.tuple xs) = false := (rfl)
theorem isN_dict {kvs : List (D × D)} : isNone (.dict kvs) = false := (rfl)
/-- what is still to be done, and wished -/
def Wb {α β : Type} (f : α → PS → Out β) (k : β → PS → Prop) (e : Nat → List D → PS → Prop) : α → PS → Prop := fun a p => (f a p).Wp k e
theorem wp_bindW {α β : Type} {x : Out α} {f : α → PS → Out β} {k : β → PS → Prop} {e : Nat → List D → PS → Prop} : (x.bind f).Wp k e = x.Wp (Wb f k e) e := propext Out.wp_bind
theorem Wb_ap {α β : Type} (f : α → PS → Out β) (k : β → PS → Prop) (e : Nat → List D → PS → Prop) (a : α) (p : PS) : Wb f k e a p = (f a p).Wp k e := (rfl)
end
end Ev
namespace Ev
open PySem PySem.Spec PyProof.Rows
theorem map_same {α β : Type} (e : α → β) (xs : List α) : List.map e (List.map (fun r => r) xs) = List.map e xs := by rw [List.map_id']
theorem Led.small {p : Int} {n c : Nat} {s : List Row × List Row} (h : Led p n c s) {r : Row} (hr : r ∈ s.1 ∨ r ∈ s.2) : r.length = n ∧ InP p r := hr.elim (fun q => (h.left r q).1) fun q => (h.done r q).1
theorem stepR_len (p : Int) (s : List Row × List Row) (c : Nat) : (stepR p s c).1.length + (stepR p s c).2.length = s.1.length + s.2.length := by
  unfold stepR
  cases e : s.1.find? (isLed c) with
  | none => rfl
  | some r =>
    have hr := List.mem_of_find?_eq_some e
    have hl := List.length_eraseP_of_mem hr (List.find?_some e)
    have := List.length_pos_of_mem hr
    simp only [List.length_map, List.length_append, List.length_singleton, hl]
    omega
theorem fold_len (p : Int) (rows : List Row) : ∀ c, ((List.range c).foldl (stepR p) (rows, [])).1.length + ((List.range c).foldl (stepR p) (rows, [])).2.length = rows.length
  | 0 => rfl
  | c + 1 => by
    rw [List.range_succ, List.foldl_append]
    exact (stepR_len p _ c).trans (fold_len p rows c)
theorem fold_succ (p : Int) (rows : List Row) (c : Nat) : (List.range (c + 1)).foldl (stepR p) (rows, []) = stepR p ((List.range c).foldl (stepR p) (rows, [])) c := by
  rw [List.range_succ, List.foldl_append]
  rfl
/-- the first led row -/
theorem led_first {c : Nat} {rows : List Row} : rows.filter (isLed c) = [] ∧ rows.find? (isLed c) = none ∨ ∃ r rest, rows.filter (isLed c) = r :: rest ∧ rows.find? (isLed c) = some r ∧ r ∈ rows ∧ at0 r c ≠ 0 := by
  cases e : rows.find? (isLed c) with
  | none =>
    left
    refine ⟨?_, rfl⟩
    rw [List.filter_eq_nil_iff]
    exact List.find?_eq_none.mp e
  | some r =>
    right
    have h := List.head?_filter (p := isLed c) (l := rows)
    rw [e] at h
    cases hf : rows.filter (isLed c) with
    | nil => rw [hf] at h; cases h
    | cons x rest =>
      rw [hf] at h
      obtain rfl := Option.some.inj h
      exact ⟨x, rest, rfl, rfl, List.mem_of_find?_eq_some e, by simpa [isLed] using List.find?_some e⟩
end Ev
namespace Ev
theorem inv_in {p : Int} (hp : Pr p) (x : Int) : 0 ≤ inv p x ∧ inv p x < p := ⟨Int.emod_nonneg _ (by have := hp.pos; omega), Int.emod_lt_of_pos _ hp.pos⟩
end Ev
namespace Ev
theorem at_row {xs : Row} {c : Nat} (h : c < xs.length) : atI (di xs) (c : Int) = some (.int (at0 xs c)) := at_di h
end Ev
namespace Ev
theorem led_ix {c : Nat} : ∀ (rows : List Row) (n : Nat), ((rows.zipIdx n).filter (fun q => isLed c q.1) = [] ∧ rows.find? (isLed c) = none) ∨
    ∃ r i rest, (rows.zipIdx n).filter (fun q => isLed c q.1) = (r, n + i) :: rest ∧ rows.find? (isLed c) = some r ∧ rows[i]? = some r ∧ rows.eraseIdx i = rows.eraseP (isLed c)
  | [], n => .inl ⟨rfl, rfl⟩
  | x :: rows, n => by
    rw [List.zipIdx_cons, List.filter_cons, List.find?_cons]
    cases hx : isLed c x with
    | true =>
      right
      refine ⟨x, 0, _, by simp only [if_true]; rfl, rfl, rfl, ?_⟩
      rw [List.eraseIdx_cons_zero, List.eraseP_cons_of_pos hx]
    | false =>
      rcases led_ix rows (n + 1) with ⟨e1, e2⟩ | ⟨r, i, rest, e1, e2, e3, e4⟩
      · exact .inl ⟨by simpa using e1, e2⟩
      · right
        refine ⟨r, i + 1, rest, ?_, e2, e3, ?_⟩
        · rw [show n + (i + 1) = n + 1 + i by omega]
          simpa using e1
        · rw [List.eraseIdx_cons_succ, List.eraseP_cons_of_neg (by rw [hx]; decide), e4]
theorem eraseIdx_map' {α β : Type} (f : α → β) : ∀ (xs : List α) (i : Nat), (xs.map f).eraseIdx i = (xs.eraseIdx i).map f
  | [], i => by simp
  | x :: xs, 0 => by simp
  | x :: xs, i + 1 => by simp [eraseIdx_map' f xs i]
theorem m_pop {rows : List Row} {r : Row} {i : Nat} (h : rows[i]? = some r) (hl : rows.length ≤ 1000000) : muD .pop (.list (rows.map li)) [.int (i : Int)] = some (.list ((rows.eraseIdx i).map li), li r) := by
  obtain ⟨hi, e⟩ := List.getElem?_eq_some_iff.mp h
  have h1 : in62 (i : Int) = true := by simp only [in62, Bool.and_eq_true, decide_eq_true_eq]; omega
  have h2 : ixN (rows.map li).length (i : Int) = some i := by
    show L2.ixN _ _ = _
    unfold L2.ixN
    simp [hi]
  unfold muD
  dsimp only
  rw [if_pos h1, h2]
  simp only [Option.bind_some, List.getElem?_map, h, Option.map_some, eraseIdx_map']
theorem red_nil (p : Int) (n : Nat) : red p n [] = [] := by
  unfold red
  have : ∀ c : Nat, (List.range c).foldl (stepR p) (([] : List Row), ([] : List Row)) = ([], []) := fun c => by
    induction c with
    | zero => rfl
    | succ c ih => rw [fold_succ, ih]; rfl
  rw [this]
theorem less_if {p : Int} {n c : Nat} {row head : Row} (h : RowOk p n row) (hl : head.length = n) : (if at0 row c ≠ 0 then less p row head (at0 row c) else row) = less p row head (at0 row c) := by
  split
  · rfl
  · rename_i e
    rw [Decidable.not_not.mp e, less_zero h.2 (by rw [h.1, hl])]
end Ev
namespace Ev
open PySem PySem.Spec PyProof.Rows
theorem g__law_of : c__law_of.G = ofD := (rfl)
abbrev pr (q : Row × Row) : D := .tuple [ti q.1, ti q.2]
def ProdOk (p : Int) (a b : Nat) (ps : List (Row × Row)) : Prop := ∀ q ∈ ps, RowOk p a q.1 ∧ RowOk p b q.2
theorem dot_bound {p : Int} (hp : 0 < p ∧ p ≤ 7) : ∀ {u x : Row}, InP p u → InP p x → 0 ≤ dot u x ∧ dot u x ≤ 49 * u.length
  | [], x, _, _ => by simp [dot]
  | u :: us, [], _, _ => by simp [dot]; omega
  | u :: us, x :: xs, hu, hx => by
    obtain ⟨h1, h2⟩ := dot_bound hp (u := us) (x := xs) (fun y hy => hu y (List.mem_cons_of_mem _ hy)) (fun y hy => hx y (List.mem_cons_of_mem _ hy))
    have a1 := hu u (List.mem_cons_self ..)
    have a2 := hx x (List.mem_cons_self ..)
    have e : dot (u :: us) (x :: xs) = u * x + dot us xs := by simp [dot]
    have b1 := Int.mul_nonneg a1.1 a2.1
    have b2 : u * x ≤ 7 * 7 := Int.mul_le_mul (by omega) (by omega) a2.1 (by decide)
    rw [e, List.length_cons]
    omega
theorem forL_list {α : Type} {f : D → Env → M Fl} {e : α → D} {Inv : List α → Env → Prop} (all : List α) : ∀ (xs ys : List α) (env : Env) (p : PS), ys ++ xs = all → (∀ zs x rest env p, zs ++ x :: rest = all → Inv zs env → ∃ env', f (e x) env p = .ok (.nx env') p ∧ Inv (zs ++ [x]) env') → Inv ys env →
    ∃ env', forL f (xs.map e) env p = .ok (.nx env') p ∧ Inv all env'
  | [], ys, env, p, ha, _, hi => ⟨env, rfl, by rw [List.append_nil] at ha; rw [← ha]; exact hi⟩
  | x :: xs, ys, env, p, ha, h, hi => by
    obtain ⟨env1, e1, i1⟩ := h ys x xs env p ha hi
    obtain ⟨env2, e2, i2⟩ := forL_list all xs (ys ++ [x]) env1 p (by rw [List.append_assoc]; exact ha) h i1
    refine ⟨env2, ?_, i2⟩
    show ((f (e x) env p).bind _) = _
    rw [e1]
    exact e2
theorem di_app (xs ys : Row) : di (xs ++ ys) = di xs ++ di ys := List.map_append
theorem m_append {xs : List D} {y : D} (h : xs.length ≤ 16000000) : muD .append (.list xs) [y] = some (.list (xs ++ [y]), .none) := by
  unfold muD
  dsimp only
  rw [if_pos (show xs.length < SZ by show xs.length < 16777216; omega)]
theorem m_extend {xs ys : List D} (h : xs.length + ys.length ≤ 16000000) : muD .extend (.list xs) [.list ys] = some (.list (xs ++ ys), .none) := by
  unfold muD
  dsimp only
  rw [if_pos (show xs.length + ys.length ≤ SZ by show xs.length + ys.length ≤ 16777216; omega)]
theorem prodRow_ok {p : Int} (hp : 0 < p) (ps : List (Row × Row)) (i j : Nat) : RowOk p ps.length (prodRow p ps i j) := by
  refine ⟨by simp [prodRow], fun x hx => ?_⟩
  obtain ⟨q, _, rfl⟩ := List.mem_map.mp hx
  exact ⟨Int.emod_nonneg _ (by omega), Int.emod_lt_of_pos _ hp⟩
theorem prodRows_ok {p : Int} (hp : 0 < p) (a b : Nat) (ps : List (Row × Row)) : ∀ r ∈ prodRows p a b ps, RowOk p ps.length r := by
  intro r hr
  obtain ⟨i, _, h⟩ := List.mem_flatMap.mp hr
  obtain ⟨j, _, rfl⟩ := List.mem_map.mp h
  exact prodRow_ok hp ps i j
theorem flatMap_len {α β : Type} (f : α → List β) (m : Nat) : ∀ l : List α, (∀ x ∈ l, (f x).length = m) → (l.flatMap f).length = l.length * m
  | [], _ => by simp
  | x :: l, h => by
    rw [List.flatMap_cons, List.length_append, h x (List.mem_cons_self ..), flatMap_len f m l fun y hy => h y (List.mem_cons_of_mem _ hy), List.length_cons, Nat.succ_mul]
    omega
theorem prodRows_len (p : Int) (a b : Nat) (ps : List (Row × Row)) : (prodRows p a b ps).length = a * b := by
  unfold prodRows
  rw [flatMap_len _ b _ (by simp), List.length_range]
theorem prodRows_succ (p : Int) (a b : Nat) (ps : List (Row × Row)) : prodRows p (a + 1) b ps = prodRows p a b ps ++ (List.range b).map (fun j => prodRow p ps a j) := by
  unfold prodRows
  rw [List.range_succ, List.flatMap_append]
  simp
end Ev
namespace Ev
open PySem PySem.Spec PyProof.Rows
theorem hd_ix : ∀ (row : Row) (n : Nat), at0 row (hd row) ≠ 0 → ∃ x rest, (row.zipIdx n).filter (fun q => q.1 != 0) = (x, n + hd row) :: rest
  | [], n, h => by simp [at0] at h
  | x :: row, n, h => by
    rw [List.zipIdx_cons, List.filter_cons]
    by_cases e : x = 0
    · have e2 : hd (x :: row) = hd row + 1 := by simp [hd, List.findIdx_cons, e]
      rw [e2] at h ⊢
      obtain ⟨y, rest, e3⟩ := hd_ix row (n + 1) (by simpa [at0] using h)
      refine ⟨y, rest, ?_⟩
      rw [show n + (hd row + 1) = n + 1 + hd row by omega]
      simpa [e] using e3
    · have e2 : hd (x :: row) = 0 := by simp [hd, List.findIdx_cons, show (x != 0) = true by simpa using e]
      rw [e2, if_pos (by simpa using e), Nat.add_zero]
      exact ⟨x, _, rfl⟩
theorem shaped_tis (rows : List Row) : SeqAt.shaped (.list (rows.map ti)) = true := shaped_seq (b := false) fun x hx => by
  obtain ⟨r, _, rfl⟩ := List.mem_map.mp hx
  have := lay_di true r
  exact ⟨this.1, by have := this.2; show (sq true (di r)).depth ≤ 60; omega⟩
theorem c_neT {rows : List Row} : cmpD .ne (.list (rows.map ti)) (.list []) = some (!rows.isEmpty) := by
  rw [c_neL0 (shaped_tis rows)]
  cases rows <;> rfl
theorem set_di {xs : Row} {i : Nat} {v : Int} (h : i < xs.length) : setD (.list (di xs)) (.int (i : Int)) (.int v) = some (.list (di (xs.set i v))) := by
  have h2 : ixN (di xs).length (i : Int) = some i := by
    show L2.ixN _ _ = _
    unfold L2.ixN
    simp [h]
  unfold setD
  dsimp only
  rw [h2]
  simp only [Option.map_some, List.map_set]
theorem mul_zero {n : Nat} (h : n ≤ 1000) : binD .mul (.list [.int 0]) (.int (n : Int)) = some (.list (di (List.replicate n 0))) := by
  have h1 : repOk ([PyData.int 0] : List D).length (n : Int) = true := by
    simp only [repOk, Bool.and_eq_true, decide_eq_true_eq, SZ, Int.toNat_natCast, List.length_cons, List.length_nil]
    omega
  rw [s_mulL (xs := [.int 0]) h1, rep_int]
  simp
theorem zip_self {α β : Type} (f : α → β) : ∀ xs : List α, xs.zip (xs.map f) = xs.map fun x => (x, f x)
  | [] => rfl
  | x :: xs => by simp [zip_self f xs]
theorem zip_self' {α β : Type} (f : α → β) : ∀ xs : List α, (xs.map f).zip xs = xs.map fun x => (f x, x)
  | [] => rfl
  | x :: xs => by simp [zip_self' f xs]
theorem unit_range {n free : Nat} (h : free < n) : (List.range n).map (fun k => if k = free then (1 : Int) else 0) = unitRow n free := by
  refine List.ext_getElem (by simp [unitRow]) fun k h1 h2 => ?_
  have hk : k < n := by simpa using h1
  have e := at0_unit h k
  have e2 : at0 (unitRow n free) k = (unitRow n free)[k] := by simp [at0, List.getD_eq_getElem?_getD, h2]
  rw [← e2, e]
  simp
theorem mem_heads {steps : List Row} {k : Nat} : decide ((k : Int) ∈ steps.map fun r => ((hd r : Nat) : Int)) = decide (k ∈ steps.map hd) := by
  congr 1
  refine propext ⟨fun h => ?_, fun h => ?_⟩
  · obtain ⟨r, h1, h2⟩ := List.mem_map.mp h
    exact List.mem_map.mpr ⟨r, h1, by omega⟩
  · obtain ⟨r, h1, h2⟩ := List.mem_map.mp h
    exact List.mem_map.mpr ⟨r, h1, by omega⟩
end Ev
namespace Ev
open PySem PySem.Spec PyProof.Rows
def cellsN (a b : Nat) : List (Nat × Nat) := (List.range a).flatMap fun i => (List.range b).map fun j => (i, j)
abbrev cellD (q : Nat × Nat) : D := .tuple [.int (q.1 : Int), .int (q.2 : Int)]
theorem cells_map (a b : Nat) : ((List.range a).flatMap fun (i : Nat) => (List.range b).map fun (j : Nat) => PyData.tuple [.int (i : Int), .int (j : Int)]) = (cellsN a b).map cellD := by
  unfold cellsN
  rw [List.map_flatMap]
  congr 1
  funext i
  rw [List.map_map]
  rfl
theorem cells_rows (p : Int) (a b : Nat) (ps : List (Row × Row)) : (cellsN a b).map (fun q => prodRow p ps q.1 q.2) = prodRows p a b ps := by
  unfold cellsN prodRows
  rw [List.map_flatMap]
  congr 1
  funext i
  rw [List.map_map]
  rfl
theorem mem_cells {a b : Nat} {q : Nat × Nat} (h : q ∈ cellsN a b) : q.1 < a ∧ q.2 < b := by
  obtain ⟨i, hi, h2⟩ := List.mem_flatMap.mp h
  obtain ⟨j, hj, rfl⟩ := List.mem_map.mp h2
  exact ⟨List.mem_range.mp hi, List.mem_range.mp hj⟩
theorem filter_none {α : Type} {t : α → Bool} {xs : List α} (h : ∀ x ∈ xs, t x = false) : xs.filter t = [] := by
  rw [List.filter_eq_nil_iff]
  intro x hx
  rw [h x hx]
  decide
end Ev
/-! Data of any kind: rows, pairs, what is wrong first. -/
namespace Ev
open PySem PySem.Spec PyProof.Rows
theorem compL_mapD {f : D → M (Option D)} {g : D → D} (xs : List D) (p : PS) (h : ∀ x ∈ xs, ∀ p, f x p = .ok (some (g x)) p) : compL f xs p = .ok (xs.map g) p := by
  have := compL_map (e := id) (g := g) xs p h
  rwa [List.map_id] at this
theorem compL_filD {f : D → M (Option D)} {t : D → Bool} {g : D → D} (xs : List D) (p : PS) (h : ∀ x ∈ xs, ∀ p, f x p = .ok (if t x then some (g x) else none) p) : compL f xs p = .ok ((xs.filter t).map g) p := by
  have := compL_filter (e := id) (t := t) (g := g) xs p h
  rwa [List.map_id] at this
theorem allD_bools (t : D → Bool) (xs : List D) : allD (xs.map fun x => .bool (t x)) = some (xs.all t) := by
  unfold allD
  have : ∀ xs : List D, truL (xs.map fun x => .bool (t x)) = some (xs.map t) := by
    intro xs
    induction xs with
    | nil => rfl
    | cons x xs ih =>
      show (tru1 (.bool (t x))).bind (fun b => (truL (xs.map fun x => .bool (t x))).map (b :: ·)) = _
      rw [ih]
      rfl
  rw [this]
  simp [List.all_map]
def inR (lo hi : Int) : D → Bool
  | .int i => decide (lo ≤ i) && decide (i ≤ hi)
  | _ => false
def nz : D → Bool
  | .int i => i != 0
  | _ => false
def toI : D → Int
  | .int i => i
  | _ => 0
theorem ints_of {lo hi : Int} : ∀ {xs : List D}, xs.all (inR lo hi) = true → ∃ r : Row, xs = di r ∧ ∀ x ∈ r, lo ≤ x ∧ x ≤ hi
  | [], _ => ⟨[], rfl, fun x hx => by cases hx⟩
  | x :: xs, h => by
    rw [List.all_cons, Bool.and_eq_true] at h
    obtain ⟨r, e, hr⟩ := ints_of h.2
    cases x with
    | int i =>
      refine ⟨i :: r, by rw [e]; rfl, fun y hy => ?_⟩
      rcases List.mem_cons.mp hy with q | q
      · subst q
        simpa [inR] using h.1
      · exact hr y q
    | _ => exact absurd h.1 (by simp [inR])
theorem ints_all {lo hi : Int} {r : Row} (h : ∀ x ∈ r, lo ≤ x ∧ x ≤ hi) : (di r).all (inR lo hi) = true := by
  rw [List.all_map, List.all_eq_true]
  intro x hx
  have := h x hx
  simp [inR, this.1, this.2]
theorem toI_di (r : Row) : (di r).map toI = r := by
  rw [List.map_map]
  exact List.map_id'' (fun _ => rfl) r
/-- the first item other than 0 is 1 -/
def headed (r : Row) : Bool := match r.filter (· != 0) with
  | x :: _ => x == 1
  | [] => false
theorem anyD_di (r : Row) : anyD (di r) = some (r.any (· != 0)) := by
  unfold anyD
  have : ∀ r : Row, truL (di r) = some (r.map (· != 0)) := by
    intro r
    induction r with
    | nil => rfl
    | cons x r ih =>
      show (tru1 (.int x)).bind (fun b => (truL (di r)).map (b :: ·)) = _
      rw [ih]
      rfl
  rw [this]
  simp [List.any_map]
/-- may be laid, so deep -/
def Lay (k : Nat) (d : D) : Prop := d.canLay0 = true ∧ d.depth ≤ k
theorem Ok.lay' {n k : Nat} {d : D} (h : Ok n k d) : Lay k d := ⟨h.lay, h.dep⟩
theorem layAll_inv : ∀ {xs : List D}, PyData.canLayAll0 xs = true → ∀ x ∈ xs, x.canLay0 = true
  | [], _, x, hx => by cases hx
  | y :: xs, h, x, hx => by
    simp only [PyData.canLayAll0, Bool.and_eq_true] at h
    rcases List.mem_cons.mp hx with q | q
    · rw [q]; exact h.1
    · exact layAll_inv h.2 x q
theorem depthAll_inv : ∀ {xs : List D} {k : Nat}, PyData.depthAll xs ≤ k → ∀ x ∈ xs, x.depth ≤ k
  | [], _, _, x, hx => by cases hx
  | y :: xs, k, h, x, hx => by
    simp only [PyData.depthAll] at h
    have h2 := Nat.max_le.mp h
    rcases List.mem_cons.mp hx with q | q
    · rw [q]; exact h2.1
    · exact depthAll_inv h2.2 x q
theorem Lay.tuple {k : Nat} {xs : List D} (h : Lay (k + 1) (.tuple xs)) : ∀ x ∈ xs, Lay k x := by
  obtain ⟨h1, h2⟩ := h
  simp only [PyData.canLay0] at h1
  simp only [PyData.depth] at h2
  exact fun x hx => ⟨layAll_inv h1 x hx, depthAll_inv (k := k) (by omega) x hx⟩
theorem shaped_lay {xs : List D} {k : Nat} (hk : k ≤ 60) (h : ∀ x ∈ xs, Lay k x) : SeqAt.shaped (.list xs) = true := shaped_seq (b := false) fun x hx => ⟨(h x hx).1, Nat.le_trans (h x hx).2 hk⟩
/-! ### pairs -/
def hrow (p : Int) (n : Nat) : D → Bool
  | .tuple xs => decide (xs.length = n) && (xs.all (inR 0 (p - 1)) && headed (xs.map toI))
  | _ => false
def pairB (p : Int) (a b : Nat) : D → Bool
  | .tuple [u, v] => hrow p a u && hrow p b v
  | _ => false
theorem hrow_of {p : Int} {n : Nat} {d : D} (h : hrow p n d = true) : ∃ r, d = ti r ∧ RowOk p n r ∧ headed r = true := by
  cases d with
  | tuple xs =>
    simp only [hrow, Bool.and_eq_true, decide_eq_true_eq] at h
    obtain ⟨h1, h2, h3⟩ := h
    obtain ⟨r, rfl, hr⟩ := ints_of h2
    rw [toI_di] at h3
    exact ⟨r, rfl, ⟨by simpa using h1, fun x hx => by have := hr x hx; omega⟩, h3⟩
  | _ => cases h
theorem pairB_of {p : Int} {a b : Nat} {d : D} (h : pairB p a b d = true) : ∃ q : Row × Row, d = pr q ∧ RowOk p a q.1 ∧ RowOk p b q.2 := by
  unfold pairB at h
  split at h
  · rename_i u v
    rw [Bool.and_eq_true] at h
    obtain ⟨r, rfl, hr, _⟩ := hrow_of h.1
    obtain ⟨s, rfl, hs, _⟩ := hrow_of h.2
    exact ⟨(r, s), rfl, hr, hs⟩
  · cases h
/-! ### held against each other -/
mutual
def ordT : D → D → Bool
  | .int _, .int _ => true
  | .tuple xs, .tuple ys => ordTs xs ys
  | _, _ => false
def ordTs : List D → List D → Bool
  | [], _ => true
  | _ :: _, [] => true
  | x :: xs, y :: ys => ordT x y && ordTs xs ys
end
theorem ordOks_di : ∀ r s : Row, ordOks (di r) (di s) = true
  | [], s => by simp [ordOks]
  | x :: r, [] => by simp [ordOks]
  | x :: r, y :: s => by
    show (ordOk (.int x) (.int y) && ordOks (di r) (di s)) = true
    rw [ordOks_di r s]
    rfl
theorem ordOk_pr (q z : Row × Row) : ordOk (pr q) (pr z) = true := by
  simp [ordOk, ordOks, ordOks_di]
theorem lay_pr (q : Row × Row) : Lay 2 (pr q) := by
  have h1 := lay_di true q.1
  have h2 := lay_di true q.2
  have e1 : (ti q.1).canLay0 = true := h1.1
  have e2 : (ti q.2).canLay0 = true := h2.1
  have e3 : (ti q.1).depth ≤ 1 := h1.2
  have e4 : (ti q.2).depth ≤ 1 := h2.2
  refine ⟨?_, ?_⟩
  · show PyData.canLay0 (.tuple [ti q.1, ti q.2]) = true
    simp only [PyData.canLay0, PyData.canLayAll0]
    simp only [PyData.canLay0] at e1 e2
    rw [e1, e2]
    rfl
  · show PyData.depth (.tuple [ti q.1, ti q.2]) ≤ 2
    simp only [PyData.depth, PyData.depthAll] at e3 e4 ⊢
    omega
theorem Lay.shaped {k : Nat} {d : D} (h : Lay k d) (hk : k ≤ 64) : SeqAt.shaped d = true := by
  simp only [SeqAt.shaped, h.1, Bool.true_and, decide_eq_true_eq]
  exact Nat.le_trans h.2 hk
theorem c_le_pr (q z : Row × Row) : cmpD .le (pr q) (pr z) = some (ordD .le (pr q) (pr z)) := by
  have h1 := (lay_pr q).shaped (by decide)
  have h2 := (lay_pr z).shaped (by decide)
  show (if SeqAt.shaped (pr q) && SeqAt.shaped (pr z) && ordOk (pr q) (pr z) then some (ordD .le (pr q) (pr z)) else none) = _
  rw [h1, h2, ordOk_pr]
  rfl
/-! ### a loop that looks for the first -/
theorem forL_search {α : Type} {f : D → Env → M Fl} {e : α → D} {bad : α → Option D} {Inv : Env → Prop} : ∀ (xs : List α) (env : Env) (p : PS), (∀ x ∈ xs, ∀ env, Inv env → match bad x with
    | none => ∃ env', f (e x) env p = .ok (.nx env') p ∧ Inv env'
    | some d => f (e x) env p = .ok (.rt d) p) → Inv env →
    match xs.findSome? bad with
    | none => ∃ env', forL f (xs.map e) env p = .ok (.nx env') p ∧ Inv env'
    | some d => forL f (xs.map e) env p = .ok (.rt d) p
  | [], env, p, _, hi => ⟨env, rfl, hi⟩
  | x :: xs, env, p, h, hi => by
    have h1 := h x (List.mem_cons_self ..) env hi
    rw [List.findSome?_cons]
    cases hx : bad x with
    | none =>
      rw [hx] at h1
      obtain ⟨env1, e1, i1⟩ := h1
      have ih := forL_search xs env1 p (fun y hy => h y (List.mem_cons_of_mem _ hy)) i1
      dsimp only
      cases hf : xs.findSome? bad with
      | none =>
        rw [hf] at ih
        obtain ⟨env2, e2, i2⟩ := ih
        refine ⟨env2, ?_, i2⟩
        show ((f (e x) env p).bind _) = _
        rw [e1]
        exact e2
      | some d =>
        rw [hf] at ih
        show ((f (e x) env p).bind _) = _
        rw [e1]
        exact ih
    | some d =>
      rw [hx] at h1
      show ((f (e x) env p).bind _) = _
      rw [h1]
      rfl
/-- what is wrong first -/
def leAt (xs : List D) (k : Nat) : Bool := ordD .le (xs.getD (k + 1) .none) (xs.getD k .none)
def pairAt (p : Int) (a b : Nat) (q : D × Nat) : Option D := if pairB p a b q.1 then none else some (.tuple [.str "pair", .int (q.2 : Int)])
def faultD (p : Int) (a b : Nat) : D → D
  | .tuple xs => if 1 ≤ xs.length ∧ xs.length ≤ 24 then (match (xs.zipIdx 0).findSome? (pairAt p a b) with
      | some d => d
      | none => match (List.range (xs.length - 1)).find? (leAt xs) with
        | some k => .tuple [.str "order", .int ((k + 1 : Nat) : Int)]
        | none => .none)
    else .str "form"
  | _ => .str "form"
theorem rngL_one (n : Nat) : rngL 1 (n : Int) = (List.range (n - 1)).map fun (k : Nat) => .int ((k + 1 : Nat) : Int) := by
  unfold rngL
  have e : ((n : Int) - 1).toNat = n - 1 := by omega
  rw [e]
  refine List.map_congr_left fun k _ => ?_
  congr 1
  omega
theorem all_pairs {p : Int} {a b : Nat} {xs : List D} (h : (xs.zipIdx 0).findSome? (pairAt p a b) = none) : ∀ x ∈ xs, pairB p a b x = true := by
  intro x hx
  rw [List.findSome?_eq_none_iff] at h
  obtain ⟨i, hi, rfl⟩ := List.mem_iff_getElem.mp hx
  have := h (xs[i], i) (by rw [List.mem_zipIdx_iff_getElem?]; simp [hi])
  unfold pairAt at this
  split at this
  · assumption
  · cases this
theorem succ_sub (k : Nat) : (((k + 1 : Nat) : Int) - 1) = (k : Int) := by omega
end Ev
namespace Ev
open PySem PySem.Spec PyProof.Rows
theorem s_allB (t : D → Bool) (xs : List D) : biD .all [.list (xs.map fun x => .bool (t x))] = some (.bool (xs.all t)) := by
  show (allD _).map _ = _
  rw [allD_bools]
  rfl
theorem s_anyT (r : Row) : biD .any [.tuple (di r)] = some (.bool (r.any (· != 0))) := by
  show (anyD _).map _ = _
  rw [anyD_di]
  rfl
theorem headed_any {r : Row} (h : headed r = true) : r.any (· != 0) = true := by
  unfold headed at h
  rw [List.any_eq_true]
  cases e : r.filter (· != 0) with
  | nil => rw [e] at h; cases h
  | cons x rest =>
    have : x ∈ r.filter (· != 0) := by rw [e]; exact List.mem_cons_self ..
    obtain ⟨h1, h2⟩ := List.mem_filter.mp this
    exact ⟨x, h1, h2⟩
theorem first_of_any {r : Row} (h : r.any (· != 0) = true) : ∃ x rest, r.filter (· != 0) = x :: rest := by
  obtain ⟨x, h1, h2⟩ := List.any_eq_true.mp h
  cases e : r.filter (· != 0) with
  | nil => exact absurd (List.mem_filter.mpr ⟨h1, h2⟩) (by rw [e]; simp)
  | cons y rest => exact ⟨y, rest, rfl⟩
end Ev
namespace Ev
theorem nat_dec (a b : Nat) : decide ((a : Int) = (b : Int)) = decide (a = b) := by
  by_cases h : a = b
  · simp [h]
  · simp [h, show ¬ (a : Int) = b by omega]
end Ev
namespace Ev
open PySem PySem.Spec PyProof.Rows
theorem enumL_raw (xs : List D) (n : Nat) : enumL n xs = (xs.zipIdx n).map fun q => .tuple [.int (q.2 : Int), q.1] := by
  have := enumL_map id xs n
  rwa [List.map_id] at this
theorem findSome_if {α β : Type} (t : α → Bool) (g : α → β) : ∀ xs : List α, xs.findSome? (fun k => if t k then some (g k) else none) = (xs.find? t).map g
  | [] => rfl
  | x :: xs => by
    rw [List.findSome?_cons, List.find?_cons]
    cases h : t x with
    | true => rfl
    | false => exact findSome_if t g xs
/-- two neighbours that are pairs -/
theorem le_next {p : Int} {a b : Nat} {xs : List D} (h : ∀ x ∈ xs, pairB p a b x = true) {k : Nat} (hk : k < xs.length - 1) : ∃ x y, xs[k + 1]? = some x ∧ xs[k]? = some y ∧ cmpD .le x y = some (leAt xs k) := by
  have h1 : k + 1 < xs.length := by omega
  have h2 : k < xs.length := by omega
  refine ⟨xs[k + 1], xs[k], by simp [h1], by simp [h2], ?_⟩
  obtain ⟨q, e1, _⟩ := pairB_of (h _ (List.getElem_mem h1))
  obtain ⟨z, e2, _⟩ := pairB_of (h _ (List.getElem_mem h2))
  have e3 : leAt xs k = ordD .le xs[k + 1] xs[k] := by simp [leAt, List.getD_eq_getElem?_getD, h1, h2]
  rw [e3, e1, e2, c_le_pr]
theorem atI_get {xs : List D} {k : Nat} {x : D} (h : xs[k]? = some x) : atI xs (k : Int) = some x := by
  obtain ⟨h1, rfl⟩ := List.getElem?_eq_some_iff.mp h
  exact atI_ofNat h1
end Ev
namespace Ev
theorem filter_not_empty {α : Type} (t : α → Bool) : ∀ xs : List α, (xs.filter fun x => !t x).isEmpty = xs.all t
  | [] => rfl
  | x :: xs => by
    rw [List.filter_cons, List.all_cons]
    cases h : t x with
    | true => simpa using filter_not_empty t xs
    | false => simp
end Ev
namespace Ev
open PySem PySem.Spec PyProof.Rows
theorem compL_two {f : D → M (Option D)} {x y : D} {o1 o2 : Option D} {p : PS} (h1 : ∀ p, f x p = .ok o1 p) (h2 : ∀ p, f y p = .ok o2 p) : compL f [x, y] p = .ok (o1.toList ++ o2.toList) p := by
  show (f x p).bind _ = _
  rw [h1]
  show ((f y p).bind _).bind _ = _
  rw [h2]
  cases o1 <;> cases o2 <;> rfl
theorem rngL_two : rngL 0 2 = [.int 0, .int 1] := (rfl)
end Ev
namespace Ev
open PySem PySem.Spec PyProof.Rows
theorem c_neI0 {i : Int} {r : List D} (h : ∀ x ∈ r, isI x = true) : cmpD .ne (.list (.int i :: r)) (.list []) = some true := by
  have : SeqAt.shaped (.list (.int i :: r)) = true := shaped_lay (k := 0) (by decide) fun x hx => by
    rcases List.mem_cons.mp hx with e | e
    · rw [e]; exact ⟨rfl, Nat.le_refl _⟩
    · have := h x e
      cases x with
      | int j => exact ⟨rfl, Nat.le_refl _⟩
      | _ => cases this
  rw [c_neL0 this]
  rfl
theorem c_ne_1 {i : Int} : cmpD .ne (.list [.int i]) (.list []) = some true := c_neI0 (fun x hx => by cases hx)
theorem c_ne_2 {i j : Int} : cmpD .ne (.list [.int i, .int j]) (.list []) = some true := c_neI0 (fun x hx => by
  rcases List.mem_cons.mp hx with e | e
  · rw [e]; rfl
  · cases e)
theorem c_ne_0 : cmpD .ne (.list []) (.list []) = some false := by
  rw [c_neL0 rfl]
  rfl
theorem c_eq_0 : cmpD .eq (.list []) (.list []) = some true := by
  rw [c_eqL0 rfl]
  rfl
end Ev
/-! Draws. -/
namespace Ev
open PySem PySem.Spec PyProof.Rows
def Good (p : PS) : Prop := p.cells.length ≤ 1000
theorem wp_okD {α : Type} {a : α} {p : PS} {k : α → PS → Prop} {e : Nat → List D → PS → Prop} : (Out.ok a p).Wp k e = k a p := (rfl)
theorem of_wp {many : Int} {p : PS} {k : D → PS → Prop} {e : Nat → List D → PS → Prop} (hg : Good p) (hm : many < 1073741824) (h : ∀ i p', Good p' → 0 ≤ i → (i < many ∨ many < 2 ∧ i = 0) → k (.int i) p') : (ofD [.int many] p).Wp k e := by
  simp only [ofD]
  by_cases h2 : many < 2
  · rw [if_pos h2]
    exact h 0 p hg (Int.le_refl _) (.inr ⟨h2, rfl⟩)
  · rw [if_neg h2, if_pos ⟨hm, hg⟩]
    have pm : 0 < many := by omega
    have hgl : p.cells.length ≤ 1000 := hg
    cases hx : p.cells.getLast? with
    | none => exact h _ _ hg (Int.emod_nonneg _ (by omega)) (.inl (Int.emod_lt_of_pos _ pm))
    | some x =>
      refine h _ _ ?_ (Int.emod_nonneg _ (by omega)) (.inl (Int.emod_lt_of_pos _ pm))
      have hne : p.cells ≠ [] := by
        intro e
        rw [e] at hx
        cases hx
      have := List.length_pos_iff.mpr hne
      show (if many ≤ x then p.cells.dropLast ++ [x / many] else p.cells.dropLast).length ≤ 1000
      split
      · simp
        omega
      · simp
        omega
theorem of_wp1 {many : Int} {p : PS} {k : D → PS → Prop} {e : Nat → List D → PS → Prop} (hg : Good p) (h1 : 1 ≤ many) (hm : many < 1073741824) (h : ∀ i p', Good p' → 0 ≤ i → i < many → k (.int i) p') : (ofD [.int many] p).Wp k e :=
  of_wp hg hm fun i p' g h0 hi => h i p' g h0 (by omega)
/-- a drawn place -/
theorem of_wpN {n : Nat} {p : PS} {k : D → PS → Prop} {e : Nat → List D → PS → Prop} (hg : Good p) (h1 : 1 ≤ n) (hm : n < 1000000000) (h : ∀ (i : Nat) p', Good p' → i < n → k (.int (i : Int)) p') : (ofD [.int (n : Int)] p).Wp k e :=
  of_wp1 hg (by omega) (by omega) fun i p' g h0 hi => by
    obtain ⟨j, rfl⟩ := Int.eq_ofNat_of_zero_le h0
    exact h j p' g (by omega)
theorem atI_mem {ds : List D} {i : Int} (h0 : 0 ≤ i) (hi : i < ds.length) : ∃ d, atI ds i = some d ∧ d ∈ ds := by
  obtain ⟨j, rfl⟩ := Int.eq_ofNat_of_zero_le h0
  have hj : j < ds.length := by omega
  exact ⟨ds[j], atI_ofNat hj, List.getElem_mem hj⟩
theorem compL_wp' {α : Type} {f : D → M (Option D)} {e : α → D} {I : PS → Prop} {R : α → D → Prop} : ∀ (xs : List α) (p : PS), (∀ x ∈ xs, ∀ p, I p → (f (e x) p).Wp (fun o p' => I p' ∧ ∃ y, o = some y ∧ R x y) fun _ _ _ => False) → I p →
    (compL f (xs.map e) p).Wp (fun ys p' => I p' ∧ All2 R xs ys) fun _ _ _ => False
  | [], p, _, hi => ⟨hi, .nil⟩
  | x :: xs, p, h, hi => by
    show ((f (e x) p).bind _).Wp _ _
    rw [Out.wp_bind]
    refine (h x (List.mem_cons_self ..) p hi).mono (fun o p1 _ q => ?_) fun _ _ _ _ h => h
    obtain ⟨h1, y, rfl, hr⟩ := q
    rw [Out.wp_bind]
    refine (compL_wp' xs p1 (fun y hy => h y (List.mem_cons_of_mem _ hy)) h1).mono (fun ys p2 _ q2 => ?_) fun _ _ _ _ h => h
    exact ⟨q2.1, .cons hr q2.2⟩
/-- whole numbers drawn for places -/
theorem All2.ints {α : Type} {R : α → D → Prop} {S : Int → Prop} {xs : List α} {ys : List D} (h : All2 R xs ys) (hs : ∀ a d, R a d → ∃ i, d = .int i ∧ S i) : ∃ r : Row, ys = di r ∧ r.length = xs.length ∧ ∀ i ∈ r, S i := by
  induction h with
  | nil => exact ⟨[], rfl, rfl, fun i hi => by cases hi⟩
  | cons hr t ih =>
    obtain ⟨r, rfl, hl, hi⟩ := ih
    obtain ⟨i, rfl, si⟩ := hs _ _ hr
    refine ⟨i :: r, rfl, by simp [hl], fun j hj => ?_⟩
    rcases List.mem_cons.mp hj with e | e
    · rw [e]; exact si
    · exact hi j e
theorem Out.wp_calm {α : Type} {x : Out α} {k : α → PS → Prop} {e : Nat → List D → PS → Prop} (h : x.Wp k fun _ _ _ => False) : x.calm.Wp k e := by
  cases x with
  | ok a p => exact h
  | exc c fs p => exact h.elim
  | bad => exact h.elim
end Ev
namespace Ev
theorem lenOk_l {ds : List D} {p : PS} (h : ds.length ≤ 16777216) : lenOk ds p = .ok ds p := lenOk_ok h
end Ev
namespace Ev
open PySem PySem.Spec PyProof.Rows
theorem cut_mem {α : Type} {xs : List α} {lo hi : Option Int} {x : α} (h : x ∈ cut xs lo hi) : x ∈ xs := List.mem_of_mem_drop (List.mem_of_mem_take h)
theorem cut_len {α : Type} (xs : List α) (lo hi : Option Int) : (cut xs lo hi).length ≤ xs.length := by
  unfold cut
  rw [List.length_take, List.length_drop]
  omega
/-- the beginning and the rest -/
theorem cut_two {α : Type} (xs : List α) (k j : Nat) (hj : k ≤ j) : (cut xs none (some (k : Int))).length + (cut xs (some (j : Int)) none).length ≤ xs.length := by
  unfold cut
  simp only [List.length_take, List.length_drop, HT.sIx_nat, HT.sIx_none]
  omega
/-- what comes of bending -/
def Bent (xs os : List D) (d : D) : Prop := (∃ zs, d = .tuple zs ∧ (∀ z ∈ zs, z ∈ xs ∨ z ∈ os) ∧ zs.length ≤ xs.length + 1) ∨ d = .list xs ∨ d = .none ∨ d = .tuple [.tuple xs]
theorem Bent.tup {xs os zs : List D} (h : ∀ z ∈ zs, z ∈ xs ∨ z ∈ os) (hl : zs.length ≤ xs.length + 1) : Bent xs os (.tuple zs) := .inl ⟨zs, rfl, h, hl⟩
theorem Bent.ok {xs os : List D} {d : D} (h : Bent xs os d) {n k m : Nat} (hx : ∀ x ∈ xs, Ok n k x) (ho : ∀ x ∈ os, Ok n k x) (hm : xs.length + 1 ≤ m) (h4 : 1 ≤ m) : Ok (m * (n + 2) + 8) (k + 2) d := by
  have up : ∀ x ∈ xs, Ok n k x := hx
  rcases h with ⟨zs, rfl, h1, h2⟩ | rfl | rfl | rfl
  · exact (Ok.tuple (n := n) (k := k) (m := m) (fun z hz => (h1 z hz).elim (hx z) (ho z)) (by omega)).mono (by omega) (by omega)
  · exact (Ok.list (n := n) (k := k) (m := m) hx (by omega)).mono (by omega) (by omega)
  · exact Ok.none.mono (by omega) (by omega)
  · refine (Ok.tuple (n := m * (n + 2) + 3) (k := k + 1) (m := 1) (fun x hx2 => ?_) (by simp)).mono (by omega) (by omega)
    obtain rfl := List.mem_singleton.mp hx2
    exact Ok.tuple hx (by omega)
end Ev
namespace Ev
open PySem PySem.Spec PyProof.Rows
theorem cut_over {α : Type} (xs : List α) (k : Nat) (hk : k < xs.length) : (cut xs none (some ((k : Int) + 1))).length + (cut xs (some (k : Int)) none).length ≤ xs.length + 1 := by
  have e1 : (k : Int) + 1 = ((k + 1 : Nat) : Int) := by omega
  rw [e1]
  unfold cut
  simp only [List.length_take, List.length_drop, HT.sIx_nat, HT.sIx_none]
  omega
theorem cut_next {α : Type} (xs : List α) (k : Nat) (hk : k < xs.length) : (cut xs none (some (k : Int))).length + (cut xs (some ((k : Int) + 1)) none).length + 1 ≤ xs.length := by
  have e1 : (k : Int) + 1 = ((k + 1 : Nat) : Int) := by omega
  rw [e1]
  unfold cut
  simp only [List.length_take, List.length_drop, HT.sIx_nat, HT.sIx_none]
  omega
theorem cut_same {α : Type} (xs : List α) (k : Nat) : (cut xs none (some (k : Int))).length + (cut xs (some (k : Int)) none).length ≤ xs.length := by
  unfold cut
  simp only [List.length_take, List.length_drop, HT.sIx_nat, HT.sIx_none]
  omega
theorem at_last {xs : List D} (h : xs ≠ []) : ∃ d, atI xs (-1) = some d ∧ d ∈ xs := by
  have hl := List.length_pos_iff.mpr h
  have e : atI xs (-1) = xs[xs.length - 1]? := by
    unfold atI L2.atI L2.ixN
    rw [if_neg (by decide), if_pos (by omega)]
    simp only [Option.bind_some]
    congr 1
    omega
  have hx : xs.length - 1 < xs.length := by omega
  exact ⟨xs[xs.length - 1], by rw [e]; simp [hx], List.getElem_mem hx⟩
theorem All2.of_all {α β : Type} {R : α → β → Prop} {S : β → Prop} {xs : List α} {ys : List β} (h : All2 R xs ys) (hs : ∀ a b, R a b → S b) : ∀ y ∈ ys, S y := h.right fun a _ b hb => hs a b hb
end Ev
/-! Products drawn: a dict of pairs, sorted. -/
namespace Ev
open PySem PySem.Spec PyProof.Rows
theorem maxL_mem' : ∀ (xs : List Int) (m : Int), maxL m xs = m ∨ maxL m xs ∈ xs
  | [], m => .inl rfl
  | x :: xs, m => by
    show maxL (if m < x then x else m) xs = m ∨ maxL (if m < x then x else m) xs ∈ x :: xs
    rcases maxL_mem' xs (if m < x then x else m) with h | h
    · rw [h]
      split
      · exact .inr (List.mem_cons_self ..)
      · exact .inl rfl
    · exact .inr (List.mem_cons_of_mem _ h)
theorem s_maxT {r : Row} (h : r ≠ []) : ∃ m, biD .max [.tuple (di r)] = some (.int m) ∧ m ∈ r := by
  cases r with
  | nil => exact absurd rfl h
  | cons x r =>
    refine ⟨maxL x r, ?_, ?_⟩
    · show (intsOf (di (x :: r))).bind _ = _
      rw [intsOf_di]
      rfl
    · rcases maxL_mem' r x with e | e
      · rw [e]; exact List.mem_cons_self ..
      · exact List.mem_cons_of_mem _ e
theorem headed_scale {p k : Int} : ∀ {r : Row} {x : Int} {rest : Row}, r.filter (· != 0) = x :: rest → x * k % p = 1 → headed (scale p k r) = true
  | [], x, rest, h, _ => by cases h
  | y :: r, x, rest, h, hk => by
    rw [List.filter_cons] at h
    by_cases e : y = 0
    · rw [if_neg (by simp [e])] at h
      have ih := headed_scale h hk
      unfold headed scale at ih ⊢
      rw [List.map_cons, List.filter_cons, e, Int.zero_mul, Int.zero_emod, if_neg (by decide)]
      exact ih
    · rw [if_pos (by simpa using e)] at h
      have e2 : y = x := (List.cons.inj h).1
      unfold headed scale
      rw [List.map_cons, List.filter_cons, e2, hk, if_pos (by decide)]
      rfl
/-! ### a dict of pairs -/
structure PDict (S : Row × Row → Prop) (kvs : List (D × D)) : Prop where
  keys : ∀ kv ∈ kvs, ∃ q, kv.1 = pr q ∧ S q
  apart : distinctD (kvs.map (·.1)) = true
theorem keyOks_di : ∀ r : Row, keyOks (di r) = true
  | [] => by simp [keyOks]
  | x :: r => by
    show (keyOk (.int x) && keyOks (di r)) = true
    rw [keyOks_di r]
    rfl
theorem keyGood_pr (q : Row × Row) : keyGood (pr q) = true := by
  have h := (lay_pr q).2
  have h2 : (pr q).depth ≤ 6 := Nat.le_trans h (by decide)
  simp [keyGood, isTup, keyOk, keyOks, keyOks_di, h2]
theorem putD_keys (k v : D) : ∀ kvs : List (D × D), (∃ kv ∈ kvs, PyData.eqv kv.1 k = true) ∧ (putD k v kvs).map (·.1) = kvs.map (·.1) ∨ (∀ kv ∈ kvs, PyData.eqv kv.1 k = false) ∧ (putD k v kvs).map (·.1) = kvs.map (·.1) ++ [k]
  | [] => .inr ⟨fun kv h => (by cases h), rfl⟩
  | (a, b) :: kvs => by
    unfold putD
    cases e : PyData.eqv a k with
    | true =>
      left
      exact ⟨⟨(a, b), List.mem_cons_self .., e⟩, rfl⟩
    | false =>
      rcases putD_keys k v kvs with ⟨⟨kv, h1, h2⟩, h3⟩ | ⟨h1, h2⟩
      · left
        exact ⟨⟨kv, List.mem_cons_of_mem _ h1, h2⟩, by simp [h3]⟩
      · right
        refine ⟨fun kv h => ?_, by simp [h2]⟩
        rcases List.mem_cons.mp h with q | q
        · rw [q]; exact e
        · exact h1 kv q
theorem distinct_snoc (k : D) : ∀ ks : List D, distinctD ks = true → (∀ q ∈ ks, PyData.eqv q k = false) → distinctD (ks ++ [k]) = true
  | [], _, _ => rfl
  | a :: ks, h, hk => by
    have h' : ((ks.all fun q => !PyData.eqv a q) && distinctD ks) = true := h
    rw [Bool.and_eq_true] at h'
    show (((ks ++ [k]).all fun q => !PyData.eqv a q) && distinctD (ks ++ [k])) = true
    rw [Bool.and_eq_true]
    refine ⟨?_, distinct_snoc k ks h'.2 fun q hq => hk q (List.mem_cons_of_mem _ hq)⟩
    rw [List.all_append, h'.1]
    simp [hk a (List.mem_cons_self ..)]
theorem PDict.set {S : Row × Row → Prop} {kvs : List (D × D)} (h : PDict S kvs) {q : Row × Row} (hq : S q) {v : D} (hz : kvs.length ≤ 1000000) : setD (.dict kvs) (pr q) v = some (.dict (putD (pr q) v kvs)) ∧ PDict S (putD (pr q) v kvs) ∧ (putD (pr q) v kvs).length ≤ kvs.length + 1 := by
  have kf : keyFits (pr q) kvs = true := by
    unfold keyFits
    rw [Bool.and_eq_true, Bool.and_eq_true]
    refine ⟨⟨keyGood_pr q, ?_⟩, h.apart⟩
    rw [List.all_eq_true]
    intro k hk
    obtain ⟨kv, h1, rfl⟩ := List.mem_map.mp hk
    obtain ⟨z, e, _⟩ := h.keys kv h1
    rw [e]
    exact keyGood_pr z
  have lt : decide (kvs.length < SZ) = true := decide_eq_true (show kvs.length < 16777216 by omega)
  refine ⟨?_, ?_, ?_⟩
  · unfold setD
    dsimp only
    rw [kf, lt]
    rfl
  · have kk : ∀ kv ∈ putD (pr q) v kvs, ∃ z, kv.1 = pr z ∧ S z := fun kv hkv => by
      have m : kv.1 ∈ (putD (pr q) v kvs).map (·.1) := List.mem_map.mpr ⟨kv, hkv, rfl⟩
      rcases putD_keys (pr q) v kvs with ⟨_, e⟩ | ⟨_, e⟩
      · rw [e] at m
        obtain ⟨kv2, h1, h2⟩ := List.mem_map.mp m
        rw [← h2]
        exact h.keys kv2 h1
      · rw [e] at m
        rcases List.mem_append.mp m with m | m
        · obtain ⟨kv2, h1, h2⟩ := List.mem_map.mp m
          rw [← h2]
          exact h.keys kv2 h1
        · rw [List.mem_singleton.mp m]
          exact ⟨q, rfl, hq⟩
    refine ⟨kk, ?_⟩
    rcases putD_keys (pr q) v kvs with ⟨_, e⟩ | ⟨ne, e⟩
    · rw [e]; exact h.apart
    · rw [e]
      refine distinct_snoc _ _ h.apart fun k hk => ?_
      obtain ⟨kv, h1, rfl⟩ := List.mem_map.mp hk
      exact ne kv h1
  · have : (putD (pr q) v kvs).length = ((putD (pr q) v kvs).map (·.1)).length := by simp
    rw [this]
    rcases putD_keys (pr q) v kvs with ⟨_, e⟩ | ⟨_, e⟩
    · rw [e]; simp
    · rw [e]; simp
theorem c_neD0 {kvs : List (D × D)} : cmpD .ne (.dict kvs) (.dict []) = some (!kvs.isEmpty) := by
  simp [cmpD, eqD]
/-! ### sorted -/
theorem insD_mem (x : D) : ∀ (xs : List D) (y : D), y ∈ insD x xs ↔ y = x ∨ y ∈ xs
  | [], y => by simp [insD]
  | z :: xs, y => by
    unfold insD
    split
    · rw [List.mem_cons, insD_mem x xs y, List.mem_cons]
      constructor
      · rintro (h | h | h)
        · exact .inr (.inl h)
        · exact .inl h
        · exact .inr (.inr h)
      · rintro (h | h | h)
        · exact .inr (.inl h)
        · exact .inl h
        · exact .inr (.inr h)
    · rw [List.mem_cons]
theorem sortL_mem : ∀ (xs : List D) (y : D), y ∈ sortL xs ↔ y ∈ xs
  | [], y => Iff.rfl
  | x :: xs, y => by
    unfold sortL
    rw [insD_mem, sortL_mem xs y, List.mem_cons]
theorem insD_len (x : D) : ∀ xs : List D, (insD x xs).length = xs.length + 1
  | [] => rfl
  | z :: xs => by
    unfold insD
    split
    · rw [List.length_cons, insD_len x xs, List.length_cons]
    · rfl
theorem sortL_len' : ∀ xs : List D, (sortL xs).length = xs.length
  | [] => rfl
  | x :: xs => by
    unfold sortL
    rw [insD_len, sortL_len' xs, List.length_cons]
theorem prs_of {S : Row × Row → Prop} : ∀ {xs : List D}, (∀ x ∈ xs, ∃ q, x = pr q ∧ S q) → ∃ ps : List (Row × Row), xs = ps.map pr ∧ (∀ q ∈ ps, S q) ∧ ps.length = xs.length
  | [], _ => ⟨[], rfl, fun q h => (by cases h), rfl⟩
  | x :: xs, h => by
    obtain ⟨q, rfl, hq⟩ := h x (List.mem_cons_self ..)
    obtain ⟨ps, e, hp, hl⟩ := prs_of (xs := xs) fun y hy => h y (List.mem_cons_of_mem _ hy)
    refine ⟨q :: ps, by rw [e]; rfl, fun z hz => ?_, by simp [hl]⟩
    rcases List.mem_cons.mp hz with e | e
    · rw [e]; exact hq
    · exact hp z e
theorem s_sortedD {S : Row × Row → Prop} {kvs : List (D × D)} (h : PDict S kvs) (hz : kvs.length ≤ 1000000) : ∃ ps : List (Row × Row), biD .sorted [.dict kvs] = some (.list (ps.map pr)) ∧ (∀ q ∈ ps, S q) ∧ ps.length = kvs.length := by
  have kk : ∀ x ∈ kvs.map (·.1), ∃ q, x = pr q ∧ S q := fun x hx => by
    obtain ⟨kv, h1, rfl⟩ := List.mem_map.mp hx
    exact h.keys kv h1
  obtain ⟨ps, e, hp, hl⟩ := prs_of (xs := sortL (kvs.map (·.1))) fun x hx => kk x ((sortL_mem _ x).mp hx)
  refine ⟨ps, ?_, hp, by rw [hl, sortL_len', List.length_map]⟩
  have ok : sortOk (kvs.map (·.1)) = true := by
    unfold sortOk
    rw [Bool.and_eq_true, Bool.and_eq_true]
    refine ⟨⟨decide_eq_true (show (kvs.map (·.1)).length ≤ 16777216 by simp; omega), ?_⟩, ?_⟩
    · rw [Bool.or_eq_true]
      right
      rw [List.all_eq_true]
      intro x hx
      obtain ⟨q, rfl, _⟩ := kk x hx
      rfl
    · rw [List.all_eq_true]
      intro x hx
      obtain ⟨q, rfl, _⟩ := kk x hx
      rw [Bool.and_eq_true, List.all_eq_true]
      refine ⟨(lay_pr q).shaped (by decide), fun y hy => ?_⟩
      obtain ⟨z, rfl, _⟩ := kk y hy
      exact ordOk_pr q z
  show (sortD (kvs.map (·.1))).map PyData.list = _
  unfold sortD
  rw [if_pos ok, e]
  rfl
theorem headed_at {r : Row} (h : headed r = true) : ∃ i, i < r.length ∧ at0 r i = 1 := by
  unfold headed at h
  cases e : r.filter (· != 0) with
  | nil => rw [e] at h; cases h
  | cons x rest =>
    rw [e] at h
    have hx : x = 1 := by simpa using h
    have hm : x ∈ r := (List.mem_filter.mp (show x ∈ r.filter (· != 0) by rw [e]; exact List.mem_cons_self ..)).1
    obtain ⟨i, hi, e2⟩ := List.mem_iff_getElem.mp hm
    exact ⟨i, hi, by simp [at0, List.getD_eq_getElem?_getD, hi, e2, hx]⟩
end Ev
namespace Ev
theorem compL_one {f : D → M (Option D)} {x : D} {o : Option D} {p : PS} (h : ∀ p, f x p = .ok o p) : compL f [x] p = .ok o.toList p := by
  show (f x p).bind _ = _
  rw [h]
  cases o <;> rfl
end Ev
/-! For the law k76: sums of rows, sizes. -/
namespace Ev
open PySem PySem.Spec PyProof.Rows
def addP (p : Int) (x z : Row) : Row := List.zipWith (fun a b => (a + b) % p) x z
theorem emod_of_dvd {p x y : Int} (h : p ∣ x - y) : x % p = y % p := Int.emod_eq_emod_iff_emod_sub_eq_zero.mpr (Int.emod_eq_zero_of_dvd h)
theorem dot_addP {p : Int} : ∀ {u x z : Row}, x.length = z.length → p ∣ dot u (addP p x z) - (dot u x + dot u z)
  | [], x, z, _ => by simp [dot]
  | _ :: _, [], [], _ => by simp [dot, addP]
  | u :: us, x :: xs, z :: zs, hl => by
    have ih := dot_addP (p := p) (u := us) (x := xs) (z := zs) (by simpa using hl)
    simp only [dot, addP, List.zipWith_cons_cons, List.sum_cons] at ih ⊢
    have e : (x + z) % p = (x + z) - p * ((x + z) / p) := by rw [Int.emod_def]
    rw [e]
    obtain ⟨k, hk⟩ := ih
    refine ⟨k - u * ((x + z) / p), ?_⟩
    have e2 : (List.zipWith (· * ·) us (List.zipWith (fun a b => (a + b) % p) xs zs)).sum = (List.zipWith (· * ·) us xs).sum + (List.zipWith (· * ·) us zs).sum + p * k := by omega
    rw [e2]
    generalize (x + z) / p = q
    simp only [Int.mul_sub, Int.mul_add, Int.mul_left_comm u p q]
    omega
  | _ :: _, [], _ :: _, hl => by simp at hl
  | _ :: _, _ :: _, [], hl => by simp at hl
theorem prodVals_add {p : Int} {x z : Row} (hl : x.length = z.length) (ps : List (Row × Row)) (y : Row) : prodVals p ps (addP p x z) y = addP p (prodVals p ps x y) (prodVals p ps z y) := by
  unfold prodVals
  induction ps with
  | nil => rfl
  | cons q ps ih =>
    rw [List.map_cons, List.map_cons, List.map_cons, ih]
    show _ = (dot q.1 x * dot q.2 y % p + dot q.1 z * dot q.2 y % p) % p :: _
    congr 1
    rw [← Int.add_emod, ← Int.add_mul]
    refine emod_of_dvd ?_
    rw [← Int.sub_mul]
    exact Int.dvd_mul_of_dvd_left (dot_addP hl)
theorem addP_in {p : Int} (hp : 0 < p) (x z : Row) : InP p (addP p x z) := by
  intro i hi
  unfold addP at hi
  obtain ⟨k, hk, rfl⟩ := List.mem_iff_getElem.mp hi
  rw [List.getElem_zipWith]
  exact ⟨Int.emod_nonneg _ (by omega), Int.emod_lt_of_pos _ hp⟩
theorem shaped_ti (r : Row) : SeqAt.shaped (ti r) = true := by
  have h := lay_di true r
  exact Lay.shaped (k := 1) ⟨h.1, h.2⟩ (by decide)
theorem c_neTT {r s : Row} : cmpD .ne (.tuple (di r)) (.tuple (di s)) = some (!decide (r = s)) := by
  have h1 := shaped_ti r
  have h2 := shaped_ti s
  show (eqD (ti r) (ti s)).map _ = _
  have : eqD (ti r) (ti s) = some (decide (r = s)) := by
    show (if SeqAt.shaped (ti r) && SeqAt.shaped (ti s) then some (PyData.eqv (ti r) (ti s)) else none) = _
    rw [h1, h2, eqv_ti]
    rfl
  rw [this]
  rfl
theorem ok_ti {p : Int} (hp : p ≤ 7) {n m : Nat} {r : Row} (h : RowOk p n r) (hn : n ≤ m) : Ok (m * 12 + 3) 1 (ti r) := Ok.rowT (inP_small (by omega) h.2) (by have := h.1; omega)
theorem ok_pr {p : Int} (hp : p ≤ 7) {a b : Nat} {q : Row × Row} (h1 : RowOk p a q.1) (h2 : RowOk p b q.2) (ha : a ≤ 9) (hb : b ≤ 9) : Ok 229 2 (pr q) := Ok.tuple (n := 111) (k := 1) (m := 2) (fun x hx => by
  rcases List.mem_cons.mp hx with e | e
  · rw [e]; exact ok_ti hp h1 ha
  · rcases List.mem_cons.mp e with e | e
    · rw [e]; exact ok_ti hp h2 hb
    · cases e) (by simp)
theorem ok_form : Ok 10 0 (.str "form" : D) := ⟨by decide +kernel, rfl, by decide +kernel, by decide +kernel, .lit⟩
theorem ok_pair : Ok 10 0 (.str "pair" : D) := ⟨by decide +kernel, rfl, by decide +kernel, by decide +kernel, .lit⟩
theorem ok_order : Ok 10 0 (.str "order" : D) := ⟨by decide +kernel, rfl, by decide +kernel, by decide +kernel, .lit⟩
theorem ok_told {s : Str} (hs : Ok 10 0 (.str s : D)) {i : Nat} (hi : i < 1000) : Ok 40 1 (.tuple [.str s, .int (i : Int)] : D) := (Ok.tuple (n := 10) (k := 0) (m := 2) (fun x hx => by
  rcases List.mem_cons.mp hx with e | e
  · rw [e]; exact hs
  · rcases List.mem_cons.mp e with e | e
    · rw [e]; exact Ok.int9 (by omega) (by omega)
    · cases e) (by simp)).mono (by omega) (by omega)
theorem faultD_ok (p : Int) (a b : Nat) (d : D) : Ok 40 1 (faultD p a b d) := by
  cases d with
  | tuple xs =>
    unfold faultD
    dsimp only
    split
    · rename_i hl
      split
      · rename_i d hd
        obtain ⟨q, hq, e⟩ := List.exists_of_findSome?_eq_some hd
        unfold pairAt at e
        split at e
        · cases e
        · cases e
          have := List.snd_lt_of_mem_zipIdx hq
          exact ok_told ok_pair (by omega)
      · split
        · rename_i k hk
          have := List.mem_range.mp (List.mem_of_find?_eq_some hk)
          exact ok_told ok_order (i := k + 1) (by omega)
        · exact Ok.none.mono (by omega) (by omega)
    · exact ok_form.mono (by omega) (by omega)
  | _ => exact ok_form.mono (by omega) (by omega)
/-- what is held against products_error -/
structure VOk (d : D) : Prop where
  ok : Ok 60000 6 d
  its : ∀ xs, d = .tuple xs → (∀ x ∈ xs, Ok 25000 5 x) ∧ xs.length ≤ 60
theorem VOk.tup {xs : List D} {n : Nat} (h : ∀ x ∈ xs, Ok n 5 x) (hl : xs.length ≤ 60) (hn : n ≤ 990) : VOk (.tuple xs) := by
  refine ⟨(Ok.tuple (m := 60) h hl).mono (by omega) (by omega), fun ys e => ?_⟩
  cases e
  exact ⟨fun x hx => (h x hx).mono (by omega) (by omega), hl⟩
theorem VOk.lst {xs : List D} {n : Nat} (h : ∀ x ∈ xs, Ok n 5 x) (hl : xs.length ≤ 60) (hn : n ≤ 990) : VOk (.list xs) := ⟨(Ok.list (m := 60) h hl).mono (by omega) (by omega), fun ys e => by cases e⟩
theorem VOk.non : VOk .none := ⟨Ok.none.mono (by omega) (by omega), fun ys e => by cases e⟩
theorem bent_vok {xs os : List D} {d : D} (h : Bent xs os d) (hx : ∀ x ∈ xs, Ok 900 4 x) (ho : ∀ x ∈ os, Ok 900 4 x) (hm : xs.length ≤ 25) : VOk d := by
  have ok := h.ok (m := 26) hx ho (by omega) (by omega)
  refine ⟨ok.mono (by omega) (by omega), fun ys e => ?_⟩
  rcases h with ⟨zs, rfl, h1, h2⟩ | rfl | rfl | rfl
  · cases e
    exact ⟨fun z hz => (h1 z hz).elim (fun q => (hx z q).mono (by omega) (by omega)) fun q => (ho z q).mono (by omega) (by omega), by omega⟩
  · cases e
  · cases e
  · cases e
    refine ⟨fun z hz => ?_, by simp⟩
    rw [List.mem_singleton.mp hz]
    exact (Ok.tuple (m := 25) hx hm).mono (by omega) (by omega)
theorem spliced_ok {xs ys : List D} {i : Int} (h1 : (∀ x ∈ xs, Ok 25000 5 x) ∧ xs.length ≤ 60) (h2 : (∀ x ∈ ys, Ok 25000 5 x) ∧ ys.length ≤ 60) : Ok 3100000 6 (.tuple (cut xs none (some i) ++ cut ys (some i) none)) := by
  have c1 := cut_len xs none (some i)
  have c2 := cut_len ys (some i) none
  refine (Ok.tuple (n := 25000) (k := 5) (m := 120) (fun x hx => ?_) (by rw [List.length_append]; omega)).mono (by omega) (by omega)
  rcases List.mem_append.mp hx with e | e
  · exact h1.1 x (cut_mem e)
  · exact h2.1 x (cut_mem e)
theorem rep_two {α : Type} (xs : List α) : rep xs 2 = xs ++ xs := by
  show (List.replicate 2 xs).flatten = _
  simp [List.replicate]
theorem ok_list1 {n k : Nat} {d : D} (h : Ok n k d) : Ok (n + 4) (k + 1) (.list [d]) := (Ok.list (m := 1) (fun x hx => by rw [List.mem_singleton.mp hx]; exact h) (by simp)).mono (by omega) (by omega)
end Ev
namespace Ev
open PySem PySem.Spec PyProof.Rows
theorem trip_of {xs : List (Row × Row)} {ys : List D} (h : All2 (fun q d => ∃ w, d = PyData.tuple [ti q.1, ti q.2, w]) xs ys) : ∃ ts : List ((Row × Row) × D), ys = ts.map (fun t => PyData.tuple [ti t.1.1, ti t.1.2, t.2]) ∧ ts.map (·.1) = xs := by
  induction h with
  | nil => exact ⟨[], rfl, rfl⟩
  | cons hr tl ih =>
    obtain ⟨ts, e1, e2⟩ := ih
    obtain ⟨w, e3⟩ := hr
    exact ⟨(_, w) :: ts, by rw [e1, e3]; rfl, by rw [← e2]; rfl⟩
theorem at_first {α : Type} {e : α → D} {xs : List α} (h : xs ≠ []) : ∃ x, x ∈ xs ∧ atI (xs.map e) 0 = some (e x) := by
  cases xs with
  | nil => exact absurd rfl h
  | cons x xs => exact ⟨x, List.mem_cons_self .., at_zero⟩
theorem rngL_7_13 : rngL 7 13 = (List.range 6).map fun (k : Nat) => .int ((k + 7 : Nat) : Int) := (rfl)
end Ev
namespace Ev
theorem rngL_five : rngL 0 5 = (List.range 5).map fun (k : Nat) => .int (k : Int) := (rfl)
end Ev
namespace K76
open Ev PySem PySem.Spec PyProof.Rows L2
abbrev ks0 : List (Str × Int) := [("MAX_CHECKED", 24)]
/-! ### undoing: 0 p 1 number 2 own -/
def b_undoing : List IS := [
  .rtn [] (.ix (.lc [("own", 2)] (.nm 2) .rng [(.lit (.int 1)), (.var 0)] [(.cmp .eq (.bin .mod (.bin .mul (.var 2) (.var 1)) (.var 0)) (.lit (.int 1)))] (.var 2)) (.lit (.int 0)))]
abbrev N_undoing : List Str := ["p", "number", "own"]
abbrev cs_undoing : List Cal := []
def F_undoing : List D → M D := runN (calF cs_undoing) b_undoing 3
def c_undoing : Cal := ⟨"undoing", false, F_undoing, [(2, [], [0, 1])]⟩
theorem g_undoing : c_undoing.G = F_undoing := (rfl)
/-! ### stepped: 0 p 1 rows 2 left 3 done 4 row 5 place 6 some 7 by 8 lead 9 item 10 a 11 b -/
def b_stepped_2 : List IS := [
  .asg [] 7 false (.cal 0 false [(.var 0), (.ix (.ix (.var 6) (.lit (.int 0))) (.var 5))] [] [] [0, 1]),
  .asg [] 8 false (.lc [("item", 9)] (.nm 9) .seq [(.ix (.var 6) (.lit (.int 0)))] [] (.bin .mod (.bin .mul (.var 9) (.var 7)) (.var 0))),
  .mut [] .remove 2 [(.ix (.var 6) (.lit (.int 0)))],
  .asg [] 2 true (.lc [("row", 4)] (.nm 4) .seq [(.var 2)] [] (.lc [("a", 10), ("b", 11)] (.tp [(.nm 10), (.nm 11)]) .zip [(.var 4), (.var 8)] [] (.bin .mod (.bin .sub (.var 10) (.bin .mul (.ix (.var 4) (.var 5)) (.var 11))) (.var 0)))),
  .asg [] 3 false (.bin .add (.lc [("row", 4)] (.nm 4) .seq [(.var 3)] [] (.lc [("a", 10), ("b", 11)] (.tp [(.nm 10), (.nm 11)]) .zip [(.var 4), (.var 8)] [] (.bin .mod (.bin .sub (.var 10) (.bin .mul (.ix (.var 4) (.var 5)) (.var 11))) (.var 0)))) (.lst [(.var 8)]))]
def b_stepped_1 : List IS := [
  .asg [] 6 false (.lc [("row", 4)] (.nm 4) .seq [(.var 2)] [(.cmp .ne (.ix (.var 4) (.var 5)) (.lit (.int 0)))] (.var 4)),
  .ifs [] (.cmp .ne (.var 6) (.lst [])) b_stepped_2 []]
def b_stepped : List IS := [
  .par [] [((.nm 2), true), ((.nm 3), false)] [(.lc [("row", 4)] (.nm 4) .seq [(.var 1)] [] (.bi .list [(.var 4)])), (.lst [])],
  .frs [] (.nm 5) .rng [(.bi .len [(.ix (.var 1) (.lit (.int 0)))])] b_stepped_1,
  .rtn [] (.bi .tuple [(.lc [("row", 4)] (.nm 4) .seq [(.var 3)] [] (.bi .tuple [(.var 4)]))])]
abbrev N_stepped : List Str := ["p", "rows", "left", "done", "row", "place", "some", "by", "lead", "item", "a", "b"]
abbrev cs_stepped : List Cal := [c_undoing]
def F_stepped : List D → M D := runN (calF cs_stepped) b_stepped 12
def c_stepped : Cal := ⟨"stepped", false, F_stepped, [(2, [], [0, 1])]⟩
theorem g_stepped : c_stepped.G = F_stepped := (rfl)
/-! ### plain_code: 0 p 1 code -/
def b_plain_code : List IS := [
  .rtn [] (.cal 0 false [(.var 0), (.var 1)] [] [] [0, 1])]
abbrev N_plain_code : List Str := ["p", "code"]
abbrev cs_plain_code : List Cal := [c_stepped]
def F_plain_code : List D → M D := runN (calF cs_plain_code) b_plain_code 2
def c_plain_code : Cal := ⟨"plain_code", false, F_plain_code, [(2, [], [0, 1])]⟩
theorem g_plain_code : c_plain_code.G = F_plain_code := (rfl)
/-! ### other_code: 0 p 1 code 2 plain 3 n 4 heads 5 spot 6 item 7 maker 8 found 9 free 10 row 11 place 12 head -/
def b_other_code_3 : List IS := [
  .stx [] 10 (.var 12) (.bin .mod (.neg (.ix (.var 7) (.var 9))) (.var 0))]
def b_other_code_2 : List IS := [
  .asg [] 10 true (.lc [("place", 11)] (.nm 11) .rng [(.var 3)] [] (.bi .int [(.cmp .eq (.var 11) (.var 9))])),
  .frs [] (.tp [(.nm 12), (.nm 7)]) .zip [(.var 4), (.var 2)] b_other_code_3,
  .mut [10] .append 8 [(.var 10)]]
def b_other_code_1 : List IS := [
  .ifs [] (.mem true (.var 9) (.var 4)) b_other_code_2 []]
def b_other_code : List IS := [
  .par [] [((.nm 2), false), ((.nm 3), false)] [(.cal 0 false [(.var 0), (.var 1)] [] [] [0, 1]), (.bi .len [(.ix (.var 1) (.lit (.int 0)))])],
  .asg [] 4 false (.lc [("maker", 7)] (.nm 7) .seq [(.var 2)] [] (.ix (.lc [("spot", 5), ("item", 6)] (.tp [(.nm 5), (.nm 6)]) .enum [(.var 7)] [(.cmp .ne (.var 6) (.lit (.int 0)))] (.var 5)) (.lit (.int 0)))),
  .asg [] 8 true (.lst []),
  .frs [] (.nm 9) .rng [(.var 3)] b_other_code_1,
  .rtn [8] (.ife (.cmp .ne (.var 8) (.lst [])) (.cal 0 false [(.var 0), (.var 8)] [] [] [0, 1]) (.tup []))]
abbrev N_other_code : List Str := ["p", "code", "plain", "n", "heads", "spot", "item", "maker", "found", "free", "row", "place", "head"]
abbrev cs_other_code : List Cal := [c_stepped]
def F_other_code : List D → M D := runN (calF cs_other_code) b_other_code 13
def c_other_code : Cal := ⟨"other_code", false, F_other_code, [(2, [], [0, 1])]⟩
theorem g_other_code : c_other_code.G = F_other_code := (rfl)
/-! ### is_row: 0 p 1 many 2 value 3 item -/
def b_is_row : List IS := [
  .ifs [] (.bop false [(.not (.isi .tuple (.var 2))), (.cmp .ne (.bi .len [(.var 2)]) (.var 1)), (.not (.bi .all [(.lc [("item", 3)] (.nm 3) .seq [(.var 2)] [] (.isi .int (.var 3)))]))]) [
    .rtn [] (.lit (.bool false))] [],
  .rtn [] (.bop true [(.bi .all [(.lc [("item", 3)] (.nm 3) .seq [(.var 2)] [] (.bop true [(.not (.isi .bool (.var 3))), (.chn .le .lt (.lit (.int 0)) (.var 3) (.var 0))]))]), (.bi .any [(.var 2)])])]
abbrev N_is_row : List Str := ["p", "many", "value", "item"]
abbrev cs_is_row : List Cal := []
def F_is_row : List D → M D := runN (calF cs_is_row) b_is_row 4
def c_is_row : Cal := ⟨"is_row", false, F_is_row, [(3, [], [0, 1, 2])]⟩
theorem g_is_row : c_is_row.G = F_is_row := (rfl)
/-! ### first_item: 0 row 1 item -/
def b_first_item : List IS := [
  .rtn [] (.ix (.lc [("item", 1)] (.nm 1) .seq [(.var 0)] [(.cmp .ne (.var 1) (.lit (.int 0)))] (.var 1)) (.lit (.int 0)))]
abbrev N_first_item : List Str := ["row", "item"]
abbrev cs_first_item : List Cal := []
def F_first_item : List D → M D := runN (calF cs_first_item) b_first_item 2
def c_first_item : Cal := ⟨"first_item", false, F_first_item, [(1, [], [0])]⟩
theorem g_first_item : c_first_item.G = F_first_item := (rfl)
/-! ### is_pair: 0 p 1 sides 2 value -/
def b_is_pair : List IS := [
  .ifs [] (.bop false [(.not (.isi .tuple (.var 2))), (.cmp .ne (.bi .len [(.var 2)]) (.lit (.int 2)))]) [
    .rtn [] (.lit (.bool false))] [],
  .ifs [] (.bop false [(.not (.cal 0 false [(.var 0), (.ix (.var 1) (.lit (.int 0))), (.ix (.var 2) (.lit (.int 0)))] [] [] [0, 1, 2])), (.not (.cal 0 false [(.var 0), (.ix (.var 1) (.lit (.int 1))), (.ix (.var 2) (.lit (.int 1)))] [] [] [0, 1, 2]))]) [
    .rtn [] (.lit (.bool false))] [],
  .rtn [] (.bop true [(.cmp .eq (.cal 1 false [(.ix (.var 2) (.lit (.int 0)))] [] [] [0]) (.lit (.int 1))), (.cmp .eq (.cal 1 false [(.ix (.var 2) (.lit (.int 1)))] [] [] [0]) (.lit (.int 1)))])]
abbrev N_is_pair : List Str := ["p", "sides", "value"]
abbrev cs_is_pair : List Cal := [c_is_row, c_first_item]
def F_is_pair : List D → M D := runN (calF cs_is_pair) b_is_pair 3
def c_is_pair : Cal := ⟨"is_pair", false, F_is_pair, [(3, [], [0, 1, 2])]⟩
theorem g_is_pair : c_is_pair.G = F_is_pair := (rfl)
/-! ### products_error: 0 p 1 sides 2 value 3 place 4 pair -/
def b_products_error_1 : List IS := [
  .ifs [] (.not (.cal 0 false [(.var 0), (.var 1), (.var 4)] [] [] [0, 1, 2])) [
    .rtn [] (.tup [(.lit (.str "pair")), (.var 3)])] []]
def b_products_error_2 : List IS := [
  .ifs [] (.cmp .le (.ix (.var 2) (.var 3)) (.ix (.var 2) (.bin .sub (.var 3) (.lit (.int 1))))) [
    .rtn [] (.tup [(.lit (.str "order")), (.var 3)])] []]
def b_products_error : List IS := [
  .ifs [] (.bop false [(.not (.isi .tuple (.var 2))), (.not (.chn .le .le (.lit (.int 1)) (.bi .len [(.var 2)]) (.glc "MAX_CHECKED" 24)))]) [
    .rtn [] (.lit (.str "form"))] [],
  .frs [] (.tp [(.nm 3), (.nm 4)]) .enum [(.var 2)] b_products_error_1,
  .frs [] (.nm 3) .rng [(.lit (.int 1)), (.bi .len [(.var 2)])] b_products_error_2,
  .rtn [] (.lit .none)]
abbrev N_products_error : List Str := ["p", "sides", "value", "place", "pair"]
abbrev cs_products_error : List Cal := [c_is_pair]
def F_products_error : List D → M D := runN (calF cs_products_error) b_products_error 5
def c_products_error : Cal := ⟨"products_error", false, F_products_error, [(3, [], [0, 1, 2]), (0, ["value", "sides", "p"], [2, 1, 0])]⟩
theorem g_products_error : c_products_error.G = F_products_error := (rfl)
/-! ### products_of: 0 scheme 1 u 2 v 3 w -/
def b_products_of : List IS := [
  .rtn [] (.bi .tuple [(.lc [("u", 1), ("v", 2), ("w", 3)] (.tp [(.nm 1), (.nm 2), (.nm 3)]) .seq [(.var 0)] [] (.tup [(.var 1), (.var 2)]))])]
abbrev N_products_of : List Str := ["scheme", "u", "v", "w"]
abbrev cs_products_of : List Cal := []
def F_products_of : List D → M D := runN (calF cs_products_of) b_products_of 4
def c_products_of : Cal := ⟨"products_of", false, F_products_of, [(1, [], [0]), (0, ["scheme"], [0])]⟩
theorem g_products_of : c_products_of.G = F_products_of := (rfl)
/-! ### sum_by: 0 row 1 letters 2 item 3 own -/
def b_sum_by : List IS := [
  .rtn [] (.bi .sum [(.lc [("item", 2), ("own", 3)] (.tp [(.nm 2), (.nm 3)]) .zip [(.var 0), (.var 1)] [] (.bin .mul (.var 2) (.var 3)))])]
abbrev N_sum_by : List Str := ["row", "letters", "item", "own"]
abbrev cs_sum_by : List Cal := []
def F_sum_by : List D → M D := runN (calF cs_sum_by) b_sum_by 4
def c_sum_by : Cal := ⟨"sum_by", false, F_sum_by, [(2, [], [0, 1])]⟩
theorem g_sum_by : c_sum_by.G = F_sum_by := (rfl)
/-! ### values_at: 0 p 1 products 2 x 3 y 4 u 5 v -/
def b_values_at : List IS := [
  .rtn [] (.bi .tuple [(.lc [("u", 4), ("v", 5)] (.tp [(.nm 4), (.nm 5)]) .seq [(.var 1)] [] (.bin .mod (.bin .mul (.cal 0 false [(.var 4), (.var 2)] [] [] [0, 1]) (.cal 0 false [(.var 5), (.var 3)] [] [] [0, 1])) (.var 0)))])]
abbrev N_values_at : List Str := ["p", "products", "x", "y", "u", "v"]
abbrev cs_values_at : List Cal := [c_sum_by]
def F_values_at : List D → M D := runN (calF cs_values_at) b_values_at 6
def c_values_at : Cal := ⟨"values_at", false, F_values_at, [(4, [], [0, 1, 2, 3]), (0, ["y", "x", "products", "p"], [3, 2, 1, 0])]⟩
theorem g_values_at : c_values_at.G = F_values_at := (rfl)
/-! ### product_code: 0 p 1 sides 2 products 3 makers 4 i 5 u 6 v 7 j -/
def b_product_code_1 : List IS := [
  .mut [] .extend 3 [(.lc [("j", 7)] (.nm 7) .rng [(.ix (.var 1) (.lit (.int 1)))] [] (.bi .tuple [(.lc [("u", 5), ("v", 6)] (.tp [(.nm 5), (.nm 6)]) .seq [(.var 2)] [] (.bin .mod (.bin .mul (.ix (.var 5) (.var 4)) (.ix (.var 6) (.var 7))) (.var 0)))]))]]
def b_product_code : List IS := [
  .asg [] 3 true (.lst []),
  .frs [] (.nm 4) .rng [(.ix (.var 1) (.lit (.int 0)))] b_product_code_1,
  .rtn [] (.cal 0 false [(.var 0), (.bi .tuple [(.var 3)])] [] [] [0, 1])]
abbrev N_product_code : List Str := ["p", "sides", "products", "makers", "i", "u", "v", "j"]
abbrev cs_product_code : List Cal := [c_plain_code]
def F_product_code : List D → M D := runN (calF cs_product_code) b_product_code 8
def c_product_code : Cal := ⟨"product_code", false, F_product_code, [(3, [], [0, 1, 2]), (0, ["products", "sides", "p"], [2, 1, 0])]⟩
theorem g_product_code : c_product_code.G = F_product_code := (rfl)
/-! ### checks_of: 0 p 1 sides 2 products -/
def b_checks_of : List IS := [
  .rtn [] (.cal 0 false [(.var 0), (.cal 1 false [(.var 0), (.var 1), (.var 2)] [] [] [0, 1, 2])] [] [] [0, 1])]
abbrev N_checks_of : List Str := ["p", "sides", "products"]
abbrev cs_checks_of : List Cal := [c_other_code, c_product_code]
def F_checks_of : List D → M D := runN (calF cs_checks_of) b_checks_of 3
def c_checks_of : Cal := ⟨"checks_of", false, F_checks_of, [(3, [], [0, 1, 2]), (0, ["products", "sides", "p"], [2, 1, 0])]⟩
theorem g_checks_of : c_checks_of.G = F_checks_of := (rfl)
/-! ### _law_one: 0 pot 1 items -/
def b__law_one : List IS := [
  .rtn [] (.ix (.var 1) (.cal 0 true [(.bi .len [(.var 1)])] [] [] [0]))]
abbrev N__law_one : List Str := ["pot", "items"]
abbrev cs__law_one : List Cal := [c__law_of]
def F__law_one : List D → M D := runP (calF cs__law_one) b__law_one 2
def c__law_one : Cal := ⟨"_law_one", true, F__law_one, [(2, [], [0, 1])]⟩
theorem g__law_one : c__law_one.G = F__law_one := (rfl)
/-! ### _law_is_number: 0 value 1 low 2 high -/
def b__law_is_number : List IS := [
  .rtn [] (.bop true [(.isi .int (.var 0)), (.not (.isi .bool (.var 0))), (.chn .le .le (.var 1) (.var 0) (.var 2))])]
abbrev N__law_is_number : List Str := ["value", "low", "high"]
abbrev cs__law_is_number : List Cal := []
def F__law_is_number : List D → M D := runN (calF cs__law_is_number) b__law_is_number 3
def c__law_is_number : Cal := ⟨"_law_is_number", false, F__law_is_number, [(3, [], [0, 1, 2])]⟩
theorem g__law_is_number : c__law_is_number.G = F__law_is_number := (rfl)
/-! ### _law_flat: 0 rows 1 found 2 row -/
def b__law_flat_1 : List IS := [
  .mut [] .extend 1 [(.var 2)]]
def b__law_flat : List IS := [
  .asg [] 1 true (.lst []),
  .frs [] (.nm 2) .seq [(.var 0)] b__law_flat_1,
  .rtn [1] (.var 1)]
abbrev N__law_flat : List Str := ["rows", "found", "row"]
abbrev cs__law_flat : List Cal := []
def F__law_flat : List D → M D := runN (calF cs__law_flat) b__law_flat 3
def c__law_flat : Cal := ⟨"_law_flat", false, F__law_flat, [(1, [], [0])]⟩
theorem g__law_flat : c__law_flat.G = F__law_flat := (rfl)
/-! ### _law_spliced: 0 pot 1 one 2 other 3 k -/
def b__law_spliced : List IS := [
  .ifs [] (.bop false [(.not (.isi .tuple (.var 1))), (.not (.isi .tuple (.var 2)))]) [
    .rtn [] (.var 1)] [],
  .asg [] 3 false (.cal 0 true [(.bin .add (.bi .len [(.var 1)]) (.lit (.int 1)))] [] [] [0]),
  .rtn [] (.bin .add (.sl (.var 1) none (some (.var 3))) (.sl (.var 2) (some (.var 3)) none))]
abbrev N__law_spliced : List Str := ["pot", "one", "other", "k"]
abbrev cs__law_spliced : List Cal := [c__law_of]
def F__law_spliced : List D → M D := runP (calF cs__law_spliced) b__law_spliced 4
def c__law_spliced : Cal := ⟨"_law_spliced", true, F__law_spliced, [(3, [], [0, 1, 2])]⟩
theorem g__law_spliced : c__law_spliced.G = F__law_spliced := (rfl)
/-! ### _law_bent: 0 pot 1 row 2 odd 3 own 4 k 5 some 6 turn -/
def b__law_bent : List IS := [
  .ifs [] (.cmp .eq (.var 1) (.tup [])) [
    .rtn [] (.cal 0 true [(.bin .add (.lc [("own", 3)] (.nm 3) .seq [(.var 2)] [] (.tup [(.var 3)])) (.lst [(.lit .none), (.lst []), (.lit (.int 0)), (.lit (.str "")), .dct0]))] [] [] [0])] [],
  .asg [] 4 false (.cal 1 true [(.bi .len [(.var 1)])] [] [] [0]),
  .asg [] 5 false (.lc [("turn", 6)] (.nm 6) .rng [(.lit (.int 5))] [] (.bin .add (.bin .add (.sl (.var 1) none (some (.var 4))) (.tup [(.cal 0 true [(.var 2)] [] [] [0])])) (.sl (.var 1) (some (.bin .add (.var 4) (.lit (.int 1)))) none))),
  .asg [] 5 false (.bin .add (.var 5) (.lst [(.bin .add (.sl (.var 1) none (some (.var 4))) (.sl (.var 1) (some (.bin .add (.var 4) (.lit (.int 1)))) none)), (.bin .add (.sl (.var 1) none (some (.bin .add (.var 4) (.lit (.int 1))))) (.sl (.var 1) (some (.var 4)) none)), (.rev (.var 1)), (.bi .list [(.var 1)]), (.bin .add (.var 1) (.tup [(.ix (.var 1) (.lit (.int 0)))]))])),
  .asg [] 5 false (.bin .add (.var 5) (.lst [(.bin .add (.bin .add (.sl (.var 1) none (some (.var 4))) (.tup [(.ix (.var 1) (.neg (.lit (.int 1))))])) (.sl (.var 1) (some (.bin .add (.var 4) (.lit (.int 1)))) none)), (.bin .add (.bin .add (.sl (.var 1) none (some (.var 4))) (.tup [(.cal 0 true [(.var 2)] [] [] [0])])) (.sl (.var 1) (some (.var 4)) none))])),
  .rtn [] (.cal 0 true [(.bin .add (.var 5) (.lst [(.lit .none), (.tup [(.var 1)])]))] [] [] [0])]
abbrev N__law_bent : List Str := ["pot", "row", "odd", "own", "k", "some", "turn"]
abbrev cs__law_bent : List Cal := [c__law_one, c__law_of]
def F__law_bent : List D → M D := runP (calF cs__law_bent) b__law_bent 7
def c__law_bent : Cal := ⟨"_law_bent", true, F__law_bent, [(3, [], [0, 1, 2])]⟩
theorem g__law_bent : c__law_bent.G = F__law_bent := (rfl)
/-! ### _law_power: 0 x 1 k 2 q 3 found -/
def b__law_power_1 : List IS := [
  .asg [] 3 false (.ife (.cmp .eq (.bin .mod (.bi .int [(.var 1)]) (.lit (.int 2))) (.lit (.int 1))) (.bin .mod (.bi .int [(.bin .mul (.var 3) (.var 0))]) (.var 2)) (.var 3)),
  .par [] [((.nm 0), false), ((.nm 1), false)] [(.bin .mod (.bi .int [(.bin .mul (.var 0) (.var 0))]) (.var 2)), (.bin .fdiv (.bi .int [(.var 1)]) (.lit (.int 2)))]]
def b__law_power : List IS := [
  .par [] [((.nm 3), false), ((.nm 0), false)] [(.lit (.int 1)), (.bin .mod (.bi .int [(.var 0)]) (.var 2))],
  .whl [] (.cmp .gt (.var 1) (.lit (.int 0))) b__law_power_1,
  .rtn [] (.var 3)]
abbrev N__law_power : List Str := ["x", "k", "q", "found"]
abbrev cs__law_power : List Cal := []
def F__law_power : List D → M D := runN (calF cs__law_power) b__law_power 4
def c__law_power : Cal := ⟨"_law_power", false, F__law_power, [(3, [], [0, 1, 2])]⟩
theorem g__law_power : c__law_power.G = F__law_power := (rfl)
/-! ### _law_drawn_row: 0 pot 1 q 2 n 3 way 4 k -/
def b__law_drawn_row : List IS := [
  .asg [] 3 false (.cal 0 true [(.lit (.int 5))] [] [] [0]),
  .ifs [] (.cmp .eq (.var 3) (.lit (.int 0))) [
    .rtn [] (.bi .tuple [(.lc [("k", 4)] (.nm 4) .rng [(.var 2)] [] (.ife (.cmp .gt (.cal 0 true [(.lit (.int 4))] [] [] [0]) (.lit (.int 0))) (.lit (.int 0)) (.cal 0 true [(.var 1)] [] [] [0])))])] [],
  .rtn [] (.ife (.cmp .gt (.var 3) (.lit (.int 1))) (.bi .tuple [(.lc [("k", 4)] (.nm 4) .rng [(.var 2)] [] (.cal 0 true [(.var 1)] [] [] [0]))]) (.bin .mul (.tup [(.cal 0 true [(.var 1)] [] [] [0])]) (.var 2)))]
abbrev N__law_drawn_row : List Str := ["pot", "q", "n", "way", "k"]
abbrev cs__law_drawn_row : List Cal := [c__law_of]
def F__law_drawn_row : List D → M D := runP (calF cs__law_drawn_row) b__law_drawn_row 5
def c__law_drawn_row : Cal := ⟨"_law_drawn_row", true, F__law_drawn_row, [(3, [], [0, 1, 2])]⟩
theorem g__law_drawn_row : c__law_drawn_row.G = F__law_drawn_row := (rfl)
/-! ### _law_is_row: 0 value 1 p 2 n 3 x -/
def b__law_is_row : List IS := [
  .ifs [] (.bop false [(.not (.isi .tuple (.var 0))), (.cmp .ne (.bi .len [(.var 0)]) (.var 2))]) [
    .rtn [] (.lit (.bool false))] [],
  .rtn [] (.cmp .eq (.lc [("x", 3)] (.nm 3) .seq [(.var 0)] [(.not (.cal 0 false [(.var 3), (.lit (.int 0)), (.bin .sub (.var 1) (.lit (.int 1)))] [] [] [0, 1, 2]))] (.var 3)) (.lst []))]
abbrev N__law_is_row : List Str := ["value", "p", "n", "x"]
abbrev cs__law_is_row : List Cal := [c__law_is_number]
def F__law_is_row : List D → M D := runN (calF cs__law_is_row) b__law_is_row 4
def c__law_is_row : Cal := ⟨"_law_is_row", false, F__law_is_row, [(3, [], [0, 1, 2])]⟩
theorem g__law_is_row : c__law_is_row.G = F__law_is_row := (rfl)
/-! ### _law_is_headed: 0 row 1 some 2 x -/
def b__law_is_headed : List IS := [
  .asg [] 1 false (.lc [("x", 2)] (.nm 2) .seq [(.var 0)] [(.cmp .ne (.var 2) (.lit (.int 0)))] (.var 2)),
  .rtn [] (.bop true [(.cmp .ne (.var 1) (.lst [])), (.cmp .eq (.ix (.var 1) (.lit (.int 0))) (.lit (.int 1)))])]
abbrev N__law_is_headed : List Str := ["row", "some", "x"]
abbrev cs__law_is_headed : List Cal := []
def F__law_is_headed : List D → M D := runN (calF cs__law_is_headed) b__law_is_headed 3
def c__law_is_headed : Cal := ⟨"_law_is_headed", false, F__law_is_headed, [(1, [], [0])]⟩
theorem g__law_is_headed : c__law_is_headed.G = F__law_is_headed := (rfl)
/-! ### _law_plain_triple: 0 p 1 triple 2 u 3 v 4 w 5 a 6 b 7 x 8 c 9 d -/
def b__law_plain_triple : List IS := [
  .asT [] [(.nm 2), (.nm 3), (.nm 4)] (.var 1),
  .ifs [] (.bop false [(.cmp .eq (.bi .max [(.var 2)]) (.lit (.int 0))), (.cmp .eq (.bi .max [(.var 3)]) (.lit (.int 0))), (.cmp .eq (.bi .max [(.var 4)]) (.lit (.int 0)))]) [
    .rtn [] (.lit .none)] [],
  .par [] [((.nm 5), false), ((.nm 6), false)] [(.ix (.lc [("x", 7)] (.nm 7) .seq [(.var 2)] [(.cmp .ne (.var 7) (.lit (.int 0)))] (.var 7)) (.lit (.int 0))), (.ix (.lc [("x", 7)] (.nm 7) .seq [(.var 3)] [(.cmp .ne (.var 7) (.lit (.int 0)))] (.var 7)) (.lit (.int 0)))],
  .par [] [((.nm 8), false), ((.nm 9), false)] [(.cal 0 false [(.var 5), (.bin .sub (.var 0) (.lit (.int 2))), (.var 0)] [] [] [0, 1, 2]), (.cal 0 false [(.var 6), (.bin .sub (.var 0) (.lit (.int 2))), (.var 0)] [] [] [0, 1, 2])],
  .par [] [((.nm 2), false), ((.nm 3), false)] [(.bi .tuple [(.lc [("x", 7)] (.nm 7) .seq [(.var 2)] [] (.bin .mod (.bi .int [(.bin .mul (.var 7) (.var 8))]) (.var 0)))]), (.bi .tuple [(.lc [("x", 7)] (.nm 7) .seq [(.var 3)] [] (.bin .mod (.bi .int [(.bin .mul (.var 7) (.var 9))]) (.var 0)))])],
  .rtn [] (.tup [(.var 2), (.var 3), (.bi .tuple [(.lc [("x", 7)] (.nm 7) .seq [(.var 4)] [] (.bin .mod (.bi .int [(.bin .mul (.bin .mul (.var 7) (.var 5)) (.var 6))]) (.var 0)))])])]
abbrev N__law_plain_triple : List Str := ["p", "triple", "u", "v", "w", "a", "b", "x", "c", "d"]
abbrev cs__law_plain_triple : List Cal := [c__law_power]
def F__law_plain_triple : List D → M D := runN (calF cs__law_plain_triple) b__law_plain_triple 10
def c__law_plain_triple : Cal := ⟨"_law_plain_triple", false, F__law_plain_triple, [(2, [], [0, 1])]⟩
theorem g__law_plain_triple : c__law_plain_triple.G = F__law_plain_triple := (rfl)
/-! ### _law_less: 0 p 1 row 2 head 3 times 4 x 5 y -/
def b__law_less : List IS := [
  .rtn [] (.lc [("x", 4), ("y", 5)] (.tp [(.nm 4), (.nm 5)]) .zip [(.var 1), (.var 2)] [] (.bin .mod (.bi .int [(.bin .sub (.var 4) (.bin .mul (.var 3) (.var 5)))]) (.var 0)))]
abbrev N__law_less : List Str := ["p", "row", "head", "times", "x", "y"]
abbrev cs__law_less : List Cal := []
def F__law_less : List D → M D := runN (calF cs__law_less) b__law_less 6
def c__law_less : Cal := ⟨"_law_less", false, F__law_less, [(4, [], [0, 1, 2, 3])]⟩
theorem g__law_less : c__law_less.G = F__law_less := (rfl)
/-! ### _law_reduced: 0 p 1 rows 2 left 3 found 4 n 5 row 6 c 7 some 8 k 9 head 10 less 11 x -/
def b__law_reduced_2 : List IS := [
  .mutA [] 9 .pop 2 [(.ix (.var 7) (.lit (.int 0)))],
  .asg [] 10 false (.cal 0 false [(.ix (.var 9) (.var 6)), (.bin .sub (.var 0) (.lit (.int 2))), (.var 0)] [] [] [0, 1, 2]),
  .asg [] 9 false (.lc [("x", 11)] (.nm 11) .seq [(.var 9)] [] (.bin .mod (.bi .int [(.bin .mul (.var 11) (.var 10))]) (.var 0))),
  .asg [] 2 true (.lc [("row", 5)] (.nm 5) .seq [(.var 2)] [] (.ife (.cmp .ne (.ix (.var 5) (.var 6)) (.lit (.int 0))) (.cal 1 false [(.var 0), (.var 5), (.var 9), (.ix (.var 5) (.var 6))] [] [] [0, 1, 2, 3]) (.var 5))),
  .asg [] 3 false (.bin .add (.lc [("row", 5)] (.nm 5) .seq [(.var 3)] [] (.ife (.cmp .ne (.ix (.var 5) (.var 6)) (.lit (.int 0))) (.cal 1 false [(.var 0), (.var 5), (.var 9), (.ix (.var 5) (.var 6))] [] [] [0, 1, 2, 3]) (.var 5))) (.lst [(.var 9)]))]
def b__law_reduced_1 : List IS := [
  .asg [] 7 false (.lc [("k", 8), ("row", 5)] (.tp [(.nm 8), (.nm 5)]) .enum [(.var 2)] [(.cmp .ne (.ix (.var 5) (.var 6)) (.lit (.int 0)))] (.var 8)),
  .ifs [] (.cmp .ne (.var 7) (.lst [])) b__law_reduced_2 []]
def b__law_reduced : List IS := [
  .par [] [((.nm 2), true), ((.nm 3), false), ((.nm 4), false)] [(.lc [("row", 5)] (.nm 5) .seq [(.var 1)] [] (.bi .list [(.var 5)])), (.lst []), (.ife (.cmp .gt (.bi .len [(.var 1)]) (.lit (.int 0))) (.bi .len [(.ix (.var 1) (.lit (.int 0)))]) (.lit (.int 0)))],
  .frs [] (.nm 6) .rng [(.var 4)] b__law_reduced_1,
  .rtn [] (.var 3)]
abbrev N__law_reduced : List Str := ["p", "rows", "left", "found", "n", "row", "c", "some", "k", "head", "less", "x"]
abbrev cs__law_reduced : List Cal := [c__law_power, c__law_less]
def F__law_reduced : List D → M D := runN (calF cs__law_reduced) b__law_reduced 12
def c__law_reduced : Cal := ⟨"_law_reduced", false, F__law_reduced, [(2, [], [0, 1])]⟩
theorem g__law_reduced : c__law_reduced.G = F__law_reduced := (rfl)
/-! ### _law_plain_code: 0 p 1 rows 2 row -/
def b__law_plain_code : List IS := [
  .rtn [] (.bi .tuple [(.lc [("row", 2)] (.nm 2) .seq [(.cal 0 false [(.var 0), (.var 1)] [] [] [0, 1])] [] (.bi .tuple [(.var 2)]))])]
abbrev N__law_plain_code : List Str := ["p", "rows", "row"]
abbrev cs__law_plain_code : List Cal := [c__law_reduced]
def F__law_plain_code : List D → M D := runN (calF cs__law_plain_code) b__law_plain_code 3
def c__law_plain_code : Cal := ⟨"_law_plain_code", false, F__law_plain_code, [(2, [], [0, 1])]⟩
theorem g__law_plain_code : c__law_plain_code.G = F__law_plain_code := (rfl)
/-! ### _law_nought_rows: 0 p 1 rows 2 n 3 steps 4 heads 5 k 6 x 7 row 8 found 9 free 10 own 11 head -/
def b__law_nought_rows_2 : List IS := [
  .stx [] 10 (.var 11) (.bin .mod (.bi .int [(.neg (.ix (.var 7) (.var 9)))]) (.var 0))]
def b__law_nought_rows_1 : List IS := [
  .asg [] 10 true (.bin .mul (.lst [(.lit (.int 0))]) (.var 2)),
  .stx [] 10 (.var 9) (.lit (.int 1)),
  .frs [] (.tp [(.nm 7), (.nm 11)]) .zip [(.var 3), (.var 4)] b__law_nought_rows_2,
  .mut [10] .append 8 [(.var 10)]]
def b__law_nought_rows : List IS := [
  .asg [] 3 false (.ife (.cmp .ne (.var 1) (.lst [])) (.cal 0 false [(.var 0), (.var 1)] [] [] [0, 1]) (.lst [])),
  .asg [] 4 false (.lc [("row", 7)] (.nm 7) .seq [(.var 3)] [] (.ix (.lc [("k", 5), ("x", 6)] (.tp [(.nm 5), (.nm 6)]) .enum [(.var 7)] [(.cmp .ne (.var 6) (.lit (.int 0)))] (.var 5)) (.lit (.int 0)))),
  .asg [] 8 true (.lst []),
  .frs [] (.nm 9) .seq [(.lc [("k", 5)] (.nm 5) .rng [(.var 2)] [(.mem true (.var 5) (.var 4))] (.var 5))] b__law_nought_rows_1,
  .rtn [8] (.cal 1 false [(.var 0), (.var 8)] [] [] [0, 1])]
abbrev N__law_nought_rows : List Str := ["p", "rows", "n", "steps", "heads", "k", "x", "row", "found", "free", "own", "head"]
abbrev cs__law_nought_rows : List Cal := [c__law_reduced, c__law_plain_code]
def F__law_nought_rows : List D → M D := runN (calF cs__law_nought_rows) b__law_nought_rows 12
def c__law_nought_rows : Cal := ⟨"_law_nought_rows", false, F__law_nought_rows, [(3, [], [0, 1, 2])]⟩
theorem g__law_nought_rows : c__law_nought_rows.G = F__law_nought_rows := (rfl)
/-! ### _law_products: 0 pot 1 p 2 a 3 b 4 most 5 found 6 turn 7 u 8 v 9 k 10 own 11 row -/
def b__law_products_1 : List IS := [
  .par [] [((.nm 7), false), ((.nm 8), false)] [(.cal 1 true [(.var 1), (.var 2)] [] [] [0, 1]), (.cal 1 true [(.var 1), (.var 3)] [] [] [0, 1])],
  .ifs [] (.cmp .eq (.cal 0 true [(.lit (.int 3))] [] [] [0]) (.lit (.int 0))) [
    .par [] [((.nm 7), false), ((.nm 8), false)] [(.bi .tuple [(.lc [("k", 9)] (.nm 9) .rng [(.var 2)] [] (.bi .int [(.cmp .eq (.var 9) (.lit (.int 0)))]))]), (.bi .tuple [(.lc [("k", 9)] (.nm 9) .rng [(.var 3)] [] (.bi .int [(.cmp .eq (.var 9) (.bin .sub (.var 3) (.lit (.int 1))))]))])]] [],
  .asg [] 10 false (.cal 2 false [(.var 1), (.tup [(.var 7), (.var 8), (.tup [(.lit (.int 1))])])] [] [] [0, 1]),
  .ifs [] (.isn true (.var 10)) [
    .stx [] 5 (.sl (.var 10) none (some (.lit (.int 2)))) (.lit (.bool true))] []]
def b__law_products : List IS := [
  .asg [] 5 true .dct0,
  .frs [] (.nm 6) .rng [(.bin .add (.lit (.int 1)) (.cal 0 true [(.var 4)] [] [] [0]))] b__law_products_1,
  .asg [] 11 false (.bin .add (.tup [(.lit (.int 1))]) (.bin .mul (.tup [(.lit (.int 0))]) (.bin .sub (.var 2) (.lit (.int 1))))),
  .rtn [] (.ife (.cmp .ne (.var 5) .dct0) (.bi .tuple [(.bi .sorted [(.var 5)])]) (.tup [(.tup [(.var 11), (.bin .mul (.tup [(.lit (.int 1))]) (.var 3))])]))]
abbrev N__law_products : List Str := ["pot", "p", "a", "b", "most", "found", "turn", "u", "v", "k", "own", "row"]
abbrev cs__law_products : List Cal := [c__law_of, c__law_drawn_row, c__law_plain_triple]
def F__law_products : List D → M D := runP (calF cs__law_products) b__law_products 12
def c__law_products : Cal := ⟨"_law_products", true, F__law_products, [(5, [], [0, 1, 2, 3, 4])]⟩
theorem g__law_products : c__law_products.G = F__law_products := (rfl)
/-! ### _law_cells: 0 a 1 b 2 j 3 i -/
def b__law_cells : List IS := [
  .rtn [] (.cal 0 false [(.lc [("i", 3)] (.nm 3) .rng [(.var 0)] [] (.lc [("j", 2)] (.nm 2) .rng [(.var 1)] [] (.tup [(.var 3), (.var 2)])))] [] [] [0])]
abbrev N__law_cells : List Str := ["a", "b", "j", "i"]
abbrev cs__law_cells : List Cal := [c__law_flat]
def F__law_cells : List D → M D := runN (calF cs__law_cells) b__law_cells 4
def c__law_cells : Cal := ⟨"_law_cells", false, F__law_cells, [(2, [], [0, 1])]⟩
theorem g__law_cells : c__law_cells.G = F__law_cells := (rfl)
/-! ### _law_values: 0 p 1 products 2 x 3 y 4 found 5 u 6 v 7 one 8 own 9 item -/
def b__law_values_1 : List IS := [
  .asg [] 7 false (.bi .sum [(.lc [("own", 8), ("item", 9)] (.tp [(.nm 8), (.nm 9)]) .zip [(.var 5), (.var 2)] [] (.bin .mul (.var 8) (.var 9)))]),
  .mut [] .append 4 [(.bin .mod (.bi .int [(.bin .mul (.var 7) (.bi .sum [(.lc [("own", 8), ("item", 9)] (.tp [(.nm 8), (.nm 9)]) .zip [(.var 6), (.var 3)] [] (.bin .mul (.var 8) (.var 9)))]))]) (.var 0))]]
def b__law_values : List IS := [
  .asg [] 4 true (.lst []),
  .frs [] (.tp [(.nm 5), (.nm 6)]) .seq [(.var 1)] b__law_values_1,
  .rtn [] (.bi .tuple [(.var 4)])]
abbrev N__law_values : List Str := ["p", "products", "x", "y", "found", "u", "v", "one", "own", "item"]
abbrev cs__law_values : List Cal := []
def F__law_values : List D → M D := runN (calF cs__law_values) b__law_values 10
def c__law_values : Cal := ⟨"_law_values", false, F__law_values, [(4, [], [0, 1, 2, 3])]⟩
theorem g__law_values : c__law_values.G = F__law_values := (rfl)
/-! ### _law_fault: 0 p 1 sides 2 value 3 k 4 own 5 bad 6 m -/
def b__law_fault_1 : List IS := [
  .asg [] 5 false (.bop false [(.not (.isi .tuple (.var 4))), (.cmp .ne (.bi .len [(.var 4)]) (.lit (.int 2)))]),
  .asg [] 5 false (.bop false [(.var 5), (.cmp .ne (.lc [("m", 6)] (.nm 6) .rng [(.lit (.int 2))] [(.bop false [(.not (.cal 0 false [(.ix (.var 4) (.var 6)), (.var 0), (.ix (.var 1) (.var 6))] [] [] [0, 1, 2])), (.not (.cal 1 false [(.ix (.var 4) (.var 6))] [] [] [0]))])] (.var 6)) (.lst []))]),
  .ifs [] (.var 5) [
    .rtn [] (.tup [(.lit (.str "pair")), (.var 3)])] []]
def b__law_fault : List IS := [
  .ifs [] (.bop false [(.not (.isi .tuple (.var 2))), (.cmp .lt (.bi .len [(.var 2)]) (.lit (.int 1))), (.cmp .gt (.bi .len [(.var 2)]) (.lit (.int 24)))]) [
    .rtn [] (.lit (.str "form"))] [],
  .frs [] (.tp [(.nm 3), (.nm 4)]) .enum [(.var 2)] b__law_fault_1,
  .asg [] 5 false (.lc [("k", 3)] (.nm 3) .rng [(.lit (.int 1)), (.bi .len [(.var 2)])] [(.cmp .le (.ix (.var 2) (.var 3)) (.ix (.var 2) (.bin .sub (.var 3) (.lit (.int 1)))))] (.var 3)),
  .rtn [] (.ife (.cmp .ne (.var 5) (.lst [])) (.tup [(.lit (.str "order")), (.ix (.var 5) (.lit (.int 0)))]) (.lit .none))]
abbrev N__law_fault : List Str := ["p", "sides", "value", "k", "own", "bad", "m"]
abbrev cs__law_fault : List Cal := [c__law_is_row, c__law_is_headed]
def F__law_fault : List D → M D := runN (calF cs__law_fault) b__law_fault 7
def c__law_fault : Cal := ⟨"_law_fault", false, F__law_fault, [(3, [], [0, 1, 2])]⟩
theorem g__law_fault : c__law_fault.G = F__law_fault := (rfl)
/-! ### _law_is_code_right: 0 p 1 sides 2 products 3 values 4 rows 5 u 6 v 7 i 8 j 9 code 10 told 11 checks 12 own 13 m 14 n -/
def b__law_is_code_right : List IS := [
  .asg [] 4 false (.lc [("i", 7), ("j", 8)] (.tp [(.nm 7), (.nm 8)]) .seq [(.cal 0 false [(.ix (.var 1) (.lit (.int 0))), (.ix (.var 1) (.lit (.int 1)))] [] [] [0, 1])] [] (.bi .tuple [(.lc [("u", 5), ("v", 6)] (.tp [(.nm 5), (.nm 6)]) .seq [(.var 2)] [] (.bin .mod (.bi .int [(.bin .mul (.ix (.var 5) (.var 7)) (.ix (.var 6) (.var 8)))]) (.var 0)))])),
  .asg [] 9 false (.cal 1 false [(.var 0), (.var 4)] [] [] [0, 1]),
  .asg [] 10 false (.lst [(.cal 2 false [(.var 0), (.var 1), (.var 2)] [] [] [0, 1, 2]), (.cal 2 false [] ["products", "sides", "p"] [(.var 2), (.var 1), (.var 0)] [2, 1, 0])]),
  .ifs [] (.cmp .ne (.bi .repr [(.var 10)]) (.bi .repr [(.lst [(.var 9), (.var 9)])])) [
    .rtn [] (.lit (.bool false))] [],
  .asg [] 11 false (.cal 3 false [(.var 0), (.bi .list [(.var 9)]), (.bi .len [(.var 2)])] [] [] [0, 1, 2]),
  .asg [] 10 false (.lst [(.cal 4 false [(.var 0), (.var 1), (.var 2)] [] [] [0, 1, 2]), (.cal 4 false [] ["products", "sides", "p"] [(.var 2), (.var 1), (.var 0)] [2, 1, 0])]),
  .ifs [] (.cmp .ne (.bi .repr [(.var 10)]) (.bi .repr [(.lst [(.var 11), (.var 11)])])) [
    .rtn [] (.lit (.bool false))] [],
  .rtn [] (.cmp .eq (.lc [("own", 12)] (.nm 12) .seq [(.var 11)] [(.cmp .ne (.bin .mod (.bi .int [(.bi .sum [(.lc [("m", 13), ("n", 14)] (.tp [(.nm 13), (.nm 14)]) .zip [(.var 12), (.var 3)] [] (.bin .mul (.var 13) (.var 14)))])]) (.var 0)) (.lit (.int 0)))] (.var 12)) (.lst []))]
abbrev N__law_is_code_right : List Str := ["p", "sides", "products", "values", "rows", "u", "v", "i", "j", "code", "told", "checks", "own", "m", "n"]
abbrev cs__law_is_code_right : List Cal := [c__law_cells, c__law_plain_code, c_product_code, c__law_nought_rows, c_checks_of]
def F__law_is_code_right : List D → M D := runN (calF cs__law_is_code_right) b__law_is_code_right 15
def c__law_is_code_right : Cal := ⟨"_law_is_code_right", false, F__law_is_code_right, [(4, [], [0, 1, 2, 3])]⟩
theorem g__law_is_code_right : c__law_is_code_right.G = F__law_is_code_right := (rfl)
/-! ### law: 0 script 1 pot 2 p 3 a 4 b 5 products 6 kept 7 many 8 due 9 turn 10 x 11 y 12 z 13 both 14 own 15 item 16 more 17 scheme 18 pair 19 odd 20 found 21 again 22 k 23 m 24 row 25 value 26 shown 27 told -/
def b_law_1 : List IS := [
  .par [] [((.nm 10), false), ((.nm 11), false), ((.nm 12), false)] [(.cal 3 true [(.var 2), (.var 3)] [] [] [0, 1]), (.cal 3 true [(.var 2), (.var 4)] [] [] [0, 1]), (.cal 3 true [(.var 2), (.var 3)] [] [] [0, 1])],
  .asg [] 8 false (.cal 4 false [(.var 2), (.var 5), (.var 10), (.var 11)] [] [] [0, 1, 2, 3]),
  .ifs [] (.cmp .ne (.bi .repr [(.lst [(.cal 5 false [(.var 2), (.var 5), (.var 10), (.var 11)] [] [] [0, 1, 2, 3]), (.cal 5 false [] ["y", "x", "products", "p"] [(.var 11), (.var 10), (.var 5), (.var 2)] [3, 2, 1, 0])])]) (.bi .repr [(.lst [(.var 8), (.var 8)])])) [
    .rtn [] (.lit (.bool false))] [],
  .asg [] 13 false (.bi .tuple [(.lc [("own", 14), ("item", 15)] (.tp [(.nm 14), (.nm 15)]) .zip [(.var 10), (.var 12)] [] (.bin .mod (.bi .int [(.bin .add (.var 14) (.var 15))]) (.var 2)))]),
  .asg [] 16 false (.cal 5 false [(.var 2), (.var 5), (.var 12), (.var 11)] [] [] [0, 1, 2, 3]),
  .ifs [] (.cmp .ne (.cal 5 false [(.var 2), (.var 5), (.var 13), (.var 11)] [] [] [0, 1, 2, 3]) (.bi .tuple [(.lc [("own", 14), ("item", 15)] (.tp [(.nm 14), (.nm 15)]) .zip [(.var 8), (.var 16)] [] (.bin .mod (.bi .int [(.bin .add (.var 14) (.var 15))]) (.var 2)))])) [
    .rtn [] (.lit (.bool false))] []]
def b_law_2 : List IS := [
  .par [] [((.nm 22), false), ((.nm 23), false)] [(.cal 1 true [(.var 7)] [] [] [0]), (.cal 1 true [(.lit (.int 2))] [] [] [0])],
  .asg [] 24 false (.cal 8 true [(.ix (.ix (.var 5) (.var 22)) (.var 23)), (.lst [(.lit (.int 0)), (.lit (.int 1)), (.bin .sub (.var 2) (.lit (.int 1))), (.var 2), (.neg (.lit (.int 1))), (.lit (.bool true)), (.lit .none)])] [] [] [0, 1]),
  .asg [] 18 false (.ife (.cmp .eq (.var 23) (.lit (.int 0))) (.tup [(.var 24), (.ix (.ix (.var 5) (.var 22)) (.lit (.int 1)))]) (.tup [(.ix (.ix (.var 5) (.var 22)) (.lit (.int 0))), (.var 24)])),
  .mut [] .extend 20 [(.lst [(.bin .add (.bin .add (.sl (.var 5) none (some (.var 22))) (.tup [(.var 18)])) (.sl (.var 5) (some (.bin .add (.var 22) (.lit (.int 1)))) none)), (.cal 8 true [(.var 5), (.var 19)] [] [] [0, 1])])]]
def b_law_3 : List IS := [
  .par [] [((.nm 26), false), ((.nm 8), false)] [(.bi .repr [(.lst [(.var 25)])]), (.cal 10 false [(.var 2), (.tup [(.var 3), (.var 4)]), (.var 25)] [] [] [0, 1, 2])],
  .asg [] 27 false (.lst [(.cal 11 false [(.var 2), (.tup [(.var 3), (.var 4)]), (.var 25)] [] [] [0, 1, 2]), (.cal 11 false [] ["value", "sides", "p"] [(.var 25), (.tup [(.var 3), (.var 4)]), (.var 2)] [2, 1, 0])]),
  .ifs [] (.cmp .ne (.bi .repr [(.var 27)]) (.bi .repr [(.lst [(.var 8), (.var 8)])])) [
    .rtn [] (.lit (.bool false))] [],
  .ifs [] (.cmp .ne (.bi .repr [(.lst [(.var 25)])]) (.var 26)) [
    .rtn [] (.lit (.bool false))] []]
def b_law : List IS := [
  .asg [] 2 false (.cal 0 true [(.lst [(.lit (.int 2)), (.lit (.int 3)), (.lit (.int 5)), (.lit (.int 7))])] [] [] [0]),
  .par [] [((.nm 3), false), ((.nm 4), false)] [(.bin .add (.lit (.int 1)) (.cal 1 true [(.cal 0 true [(.lst [(.lit (.int 3)), (.lit (.int 3)), (.lit (.int 9))])] [] [] [0])] [] [] [0])), (.bin .add (.lit (.int 1)) (.cal 1 true [(.cal 0 true [(.lst [(.lit (.int 3)), (.lit (.int 3)), (.lit (.int 9))])] [] [] [0])] [] [] [0]))],
  .asg [] 5 false (.cal 2 true [(.var 2), (.var 3), (.var 4), (.cal 0 true [(.lst [(.lit (.int 6)), (.lit (.int 6)), (.lit (.int 24))])] [] [] [0])] [] [] [0, 1, 2, 3]),
  .par [] [((.nm 6), false), ((.nm 7), false)] [(.bi .repr [(.var 5)]), (.bi .len [(.var 5)])],
  .asg [] 8 false (.tup []),
  .frs [] (.nm 9) .rng [(.lit (.int 2))] b_law_1,
  .ifs [] (.bop true [(.bop false [(.cmp .lt (.bin .mul (.var 3) (.var 4)) (.lit (.int 13))), (.cmp .lt (.var 7) (.lit (.int 7)))]), (.not (.cal 6 false [(.var 2), (.tup [(.var 3), (.var 4)]), (.var 5), (.var 8)] [] [] [0, 1, 2, 3]))]) [
    .rtn [] (.lit (.bool false))] [],
  .asg [] 17 false (.bi .tuple [(.lc [("pair", 18)] (.nm 18) .seq [(.var 5)] [] (.bin .add (.var 18) (.tup [(.bin .add (.tup [(.lit (.int 1))]) (.cal 3 true [(.var 2), (.lit (.int 2))] [] [] [0, 1]))])))]),
  .ifs [] (.cmp .ne (.bi .repr [(.lst [(.cal 7 false [(.var 17)] [] [] [0]), (.cal 7 false [] ["scheme"] [(.var 17)] [0])])]) (.bi .repr [(.lst [(.var 5), (.var 5)])])) [
    .rtn [] (.lit (.bool false))] [],
  .asg [] 19 false (.lst [(.lit .none), (.lit (.int 0)), (.tup []), (.ix (.var 5) (.lit (.int 0))), (.tup [(.ix (.ix (.var 5) (.lit (.int 0))) (.lit (.int 1))), (.ix (.ix (.var 5) (.lit (.int 0))) (.lit (.int 0)))]), (.lst [(.ix (.ix (.var 5) (.lit (.int 0))) (.lit (.int 0))), (.ix (.ix (.var 5) (.lit (.int 0))) (.lit (.int 1)))])]),
  .asg [] 20 true (.lst [(.var 5), (.tup []), (.lit .none), (.rev (.var 5)), (.bin .mul (.var 5) (.lit (.int 2))), (.bi .list [(.var 5)]), (.bin .mul (.tup [(.ix (.var 5) (.lit (.int 0)))]) (.lit (.int 25)))]),
  .frs [] (.nm 21) .rng [(.lit (.int 5))] b_law_2,
  .frs [] (.nm 25) .seq [(.bin .add (.var 20) (.lc [("k", 22)] (.nm 22) .rng [(.lit (.int 7)), (.lit (.int 13))] [] (.cal 9 true [(.ix (.var 20) (.var 22)), (.ix (.var 20) (.bin .add (.var 22) (.lit (.int 2))))] [] [] [0, 1])))] b_law_3,
  .rtn [] (.cmp .eq (.bi .repr [(.var 5)]) (.var 6))]
abbrev N_law : List Str := ["script", "pot", "p", "a", "b", "products", "kept", "many", "due", "turn", "x", "y", "z", "both", "own", "item", "more", "scheme", "pair", "odd", "found", "again", "k", "m", "row", "value", "shown", "told"]
abbrev cs_law : List Cal := [c__law_one, c__law_of, c__law_products, c__law_drawn_row, c__law_values, c_values_at, c__law_is_code_right, c_products_of, c__law_bent, c__law_spliced, c__law_fault, c_products_error]
end K76
namespace K76
open Ev
local macro_rules | `(tactic| trivial) => `(tactic| try simp (disch := (first | omega | (with_reducible assumption) | (simp only [List.length_map, List.length_append, List.length_cons, List.length_nil, List.length_zip, List.length_range, List.length_replicate, di]; omega))) only [v_var0, v_var1, v_glc, v_lit, v_dct0, kCons2_ok, kCons2F_ap, kCons_ok, kConsF_ap, v_nil, v_cons, kTupF_ap, kTup_ok, kLstF_ap, kLst_ok, v_tup, v_lst, kBin2_ok, kBin2F_ap, kBin_ok, kBinF_ap, v_bin, kNeg_ok, kNegF_ap, v_neg, kNot_ok, kNotF_ap, v_not, kBop2_ok, kBop2F_ap, kBopF_1, kBopF_2, kBop_1, kBop_2, v_bop, v_bops, kIfe2_ok, kIfe2F_ap, kIfe_ok, kIfeF_ap, v_ife, kCmp2_ok, kCmp2F_ap, kCmp_ok, kCmpF_ap, v_cmp, kChn3_ok, kChn3F_ap, kChn2_ok, kChn2F_ap, kChn_ok, kChnF_ap, v_chn, kIsn_ok, kIsnF_ap, v_isn, kMem2_ok, kMem2F_ap, kMem_ok, kMemF_ap, v_mem, kIx2_ok, kIx2F_ap, kIx_ok, kIxF_ap, v_ix, kO2_ok, kO2F_ap, kO_ok, kOF_ap, v_O0, v_O1, kSl3_ok, kSl3F_ap, kSl2_ok, kSl2F_ap, kSl_ok, kSlF_ap, v_sl, kRev_ok, kRevF_ap, v_rev, kCal3_ok, kCal3F_ap, kCal2_ok, kCal2F_ap, kCal_ok, kCalF_ap, v_cal, kBi_ok, kBiF_ap, v_bi, kIsi_ok, kIsiF_ap, v_isi, kGet3_ok, kGet3F_ap, kGet2_ok, kGet2F_ap, kGet_ok, kGetF_ap, v_get, kCf3_ok, kCf3F_ap, kCfc3_ok, kCfc3F_ap, kCfc2_ok, kCfc2F_ap, kCf_0, kCf_1, v_cf, kLc3F_ap, kLc3_ok, kLc2_ok, kLc2F_ap, kLc_ok, kLcF_ap, v_lc, kSeqF_rt, kSeqF_br, kSeqF_ct, kSeqF_nx, kSeq_nx, kSeq_rt, kSeq_br, kSeq_ct, x_nil, x_cons, kAsg2_ok, kAsg2F_ap, kAsg_ok, kAsgF_ap, x_asg, kAsT_ok, kAsTF_ap, x_asT, kPar_ok, kParF_ap, x_par, kStx4_ok, kStx4F_ap, kStx3_ok, kStx3F_ap, kStx2_ok, kStx2F_ap, kStx_ok, kStxF_ap, x_stx, kMut3_ok, kMut3F_ap, kMut2_ok, kMut2F_ap, kMut_ok, kMutF_ap, x_mut, kMutA3_ok, kMutA3F_ap, kMutA2_ok, kMutA2F_ap, kMutA_ok, kMutAF_ap, x_mutA, kExp_ok, kExpF_ap, x_exp, kIfs2_ok, kIfs2F_ap, kIfs_ok, kIfsF_ap, x_ifs, kFf_ok, kFfF_ap, v_ff, kFor2_ok, kFor2F_ap, kFor_ok, kForF_ap, x_frs, kWc_ok, kWcF_ap, v_wc, v_wb, x_whl, kRtn_ok, kRtnF_ap, x_rtn, x_rtnN, x_pas, x_brk, x_cnt, kRunN_nx, kRunN_rt, v_runN, kRunPF_nx, kRunPF_rt, kRunP_nx, kRunP_rt, v_runP, isD_int_none, isD_int_bool, isD_int_int, isD_int_str, isD_int_list, isD_int_tuple, isD_int_dict, isD_bool_none, isD_bool_bool, isD_bool_int, isD_bool_str, isD_bool_list, isD_bool_tuple, isD_bool_dict, isD_tuple_none, isD_tuple_bool, isD_tuple_int, isD_tuple_str, isD_tuple_list, isD_tuple_tuple, isD_tuple_dict, isD_list_none, isD_list_bool, isD_list_int, isD_list_str, isD_list_list, isD_list_tuple, isD_list_dict, isD_str_none, isD_str_bool, isD_str_int, isD_str_str, isD_str_list, isD_str_tuple, isD_str_dict, isD_dict_none, isD_dict_bool, isD_dict_int, isD_dict_str, isD_dict_list, isD_dict_tuple, isD_dict_dict, isN_none, isN_bool, isN_int, isN_str, isN_list, isN_tuple, isN_dict, Wb_ap, g__law_of, g_undoing, g_stepped, g_plain_code, g_other_code, g_is_row, g_first_item, g_is_pair, g_products_error, g_products_of, g_sum_by, g_values_at, g_product_code, g_checks_of, g__law_one, g__law_is_number, g__law_flat, g__law_spliced, g__law_bent, g__law_power, g__law_drawn_row, g__law_is_row, g__law_is_headed, g__law_plain_triple, g__law_less, g__law_reduced, g__law_plain_code, g__law_nought_rows, g__law_products, g__law_cells, g__law_values, g__law_fault, g__law_is_code_right, freeze_nil, freeze_cons, fz10, fz1S, fz_ow, fz_va, fz_un, wipe_nil, wipe_cons, wipe10, wipe1S, List.map_cons, List.map_nil, List.length_cons, List.length_nil, List.replicate_succ, List.replicate_zero, List.cons_append, List.nil_append, List.append_nil, Nat.reduceAdd, Nat.reduceSub, opt_some, bor0, borO, borS, esc0, escS, ownL0, ownLS, ownV0, ownVS, set0, setS, setV0, setVS, asg_nm, asg_tp, asgs0, asgsS, asgF_f, asgF_l, asgF_d, parF0, parFS, bind_some, map_some', s_add, s_sub, s_mul, s_mul', s_mod, s_fdiv, s_addT, s_addL, s_mulT, s_mulL, t_int, t_bool, t_none, t_list, t_tuple, s_len, s_lenT, s_tuple, s_tupleT, s_list, s_listT, s_int, s_intB, s_abs, s_sum, s_ixL, s_ixT, s_slL, s_slT, s_revL, s_revT, s_intOf, i_seqL, i_seqT, i_rng1, i_rng2, i_zip, i_enum, s_seqL, s_seqT, c_eq, c_ne, c_lt, c_le, c_gt, c_ge, calm_ok, calF_0, calF_S, pick0, pickS, get0, getS, zipL_map, enumL_map, rngL_nat, if_true, if_false, ite_true, ite_false, reduceIte, Bool.not_true, Bool.not_false, Bool.false_eq_true, at_zero, at_one, decide_eq_true_eq, Bool.not_eq_true', List.isEmpty_nil, List.isEmpty_cons, decide_eq_false_iff_not, i_sq, s_lsq, s_tsq, s_lensq, s_ixsq, s_seqsq, c_neR, c_neI, Bool.false_bne, c_neD0, lenOk_l, wp_okD, c_ne_0, c_ne_1, c_ne_2, c_eq_0, Option.toList_some, Option.toList_none, decide_true, decide_false, List.head?_nil, List.head?_cons, Int.cast_ofNat_Int, Int.reduceEq, Int.reduceLT, Int.reduceLE, Int.reduceAdd, Int.reduceSub, Int.reduceMul, Int.reduceNeg, eq_self, s_anyT, List.length_map, not_true_eq_false, not_false_eq_true, Bool.true_eq_false, Bool.true_bne, at_row, c_neT, memD_di, set_di, mul_zero, m_remove, map_same, List.map_id_fun', id_eq, List.map_id])
local macro_rules | `(tactic| infer_instance) => `(tactic| try simp only [kCons2, kCons, kTup, kLst, kBin2, kBin, kNeg, kNot, kBop2, kBop, kIfe2, kIfe, kCmp2, kCmp, kChn3, kChn2, kChn, kIsn, kMem2, kMem, kIx2, kIx, kO2, kO, kSl3, kSl2, kSl, kRev, kCal3, kCal2, kCal, kBi, kIsi, kGet3, kGet2, kGet, kCf3, kCfc3, kCfc2, kCf, kLc3, kLc2, kLc, kSeq, kAsg2, kAsg, kAsT, kPar, kStx4, kStx3, kStx2, kStx, kMut3, kMut2, kMut, kMutA3, kMutA2, kMutA, kExp, kIfs2, kIfs, kFf, kFor2, kFor, kWc, kRtn, kRunP, wp_bindW])
theorem e_undoing {p x : Int} (hp : Pr p) (h1 : 0 < x) (h2 : x < p) (q : PS) : F_undoing [.int p, .int x] q = .ok (.int (inv p x)) q := by
  rcases hp with rfl | rfl | rfl | rfl
  · have : x = 1 := by omega
    subst this; rfl
  · have : x = 1 ∨ x = 2 := by omega
    rcases this with rfl | rfl <;> rfl
  · have : x = 1 ∨ x = 2 ∨ x = 3 ∨ x = 4 := by omega
    rcases this with rfl | rfl | rfl | rfl <;> rfl
  · have : x = 1 ∨ x = 2 ∨ x = 3 ∨ x = 4 ∨ x = 5 ∨ x = 6 := by omega
    rcases this with rfl | rfl | rfl | rfl | rfl | rfl <;> rfl
theorem e_stepped {p : Int} (hp : Pr p) {n : Nat} {b1 b2 : Bool} {rows : List Row} (hn : rows ≠ []) (h : ∀ r ∈ rows, RowOk p n r) (hz : n ≤ 1000) (hm : rows.length ≤ 1000) (q : PS) :
    F_stepped [.int p, sq b1 (rows.map fun r => sq b2 (di r))] q = .ok (.tuple ((red p n rows).map ti)) q := by
  have pos := hp.pos
  have ple := hp.le
  have key : ∃ env', forL (ff (calF cs_stepped) (.nm 5) b_stepped_1) ((List.range n).map fun (k : Nat) => .int (k : Int)) [.va (.int p), .va (sq b1 (rows.map fun r => sq b2 (di r))), .ow (.list (rows.map li)), .va (.list []), .un, .un, .un, .un, .un, .un, .un, .un] p0 = .ok (.nx env') p0 ∧
      ∃ s5 s6 s7 s8, env' = [.va (.int p), .va (sq b1 (rows.map fun r => sq b2 (di r))), .ow (.list (((List.range n).foldl (stepR p) (rows, [])).1.map li)), .va (.list (((List.range n).foldl (stepR p) (rows, [])).2.map li)), .un, s5, s6, s7, s8, .un, .un, .un] := by
    refine forL_range (Inv := fun k env => ∃ s5 s6 s7 s8, env = [.va (.int p), .va (sq b1 (rows.map fun r => sq b2 (di r))), .ow (.list (((List.range k).foldl (stepR p) (rows, [])).1.map li)), .va (.list (((List.range k).foldl (stepR p) (rows, [])).2.map li)), .un, s5, s6, s7, s8, .un, .un, .un]) n _ _ (fun k hk env p1 hi => ?_) ⟨.un, .un, .un, .un, rfl⟩
    obtain ⟨s5, s6, s7, s8, rfl⟩ := hi
    have L := led_fold hp h k
    have len := fold_len p rows k
    rw [fold_succ]
    generalize (List.range k).foldl (stepR p) (rows, []) = s at L len ⊢
    have sm : ∀ r ∈ s.1, r.length = n ∧ InP p r := fun r hr => L.small (.inl hr)
    have sm2 : ∀ r ∈ s.2, r.length = n ∧ InP p r := fun r hr => L.small (.inr hr)
    have lf : (s.1.filter (isLed k)).length ≤ s.1.length := List.length_filter_le ..
    have le1 : (s.1.eraseP (isLed k)).length ≤ s.1.length := List.length_eraseP_le
    unfold b_stepped_1
    trivial
    rw [compL_filE (e := li) (isLed k) li (fun r => r) s.1]
    · trivial
      rcases led_first (c := k) (rows := s.1) with ⟨e1, e2⟩ | ⟨r, rest, e1, e2, hr, hne⟩
      · rw [e1]
        trivial
        refine ⟨_, rfl, ?_⟩
        unfold stepR
        rw [e2]
        exact ⟨_, _, _, _, rfl⟩
      · rw [e1]
        obtain ⟨hl, hi⟩ := sm r hr
        have hu := e_undoing hp (x := at0 r k) (by have := at0_in pos hi k; omega) (at0_in pos hi k).2 p1
        have hv := inv_in hp (at0 r k)
        rw [List.isEmpty_cons, if_pos rfl, stepR, e2, ← erase_first e2]
        rw [← erase_first e2] at le1
        dsimp only
        unfold b_stepped_2
        trivial
        rw [hu]
        trivial
        rw [compL_mapE PySem.PyData.int (fun x => x * inv p (at0 r k) % p) r]
        · trivial
          generalize hL : List.map (fun x => x * inv p (at0 r k) % p) r = lead
          have hL' : scale p (inv p (at0 r k)) r = lead := hL
          rw [hL']
          have ll : lead.length = n := by rw [← hL, List.length_map, hl]
          rw [compL_mapE (e := li) li (fun row => less p row lead (at0 row k)) (s.1.erase r)]
          · trivial
            rw [compL_mapE (e := li) li (fun row => less p row lead (at0 row k)) s.2]
            · trivial
              refine ⟨_, rfl, ?_⟩
              rw [List.map_append]
              exact ⟨_, _, _, _, rfl⟩
            · intro row hrow p2
              obtain ⟨hl2, hi2⟩ := sm2 row hrow
              trivial
              rw [compL_mapE PySem.PyData.int (fun q : Int × Int => (q.1 - at0 row k * q.2) % p) (row.zip lead)]
              · trivial
                rw [map_zip']
                rfl
              · intro q hq p3
                have b1 := at0_in pos hi2 k
                trivial
          · intro row hrow p2
            obtain ⟨hl2, hi2⟩ := sm row (List.mem_of_mem_erase hrow)
            trivial
            rw [compL_mapE PySem.PyData.int (fun q : Int × Int => (q.1 - at0 row k * q.2) % p) (row.zip lead)]
            · trivial
              rw [map_zip']
              rfl
            · intro q hq p3
              have b1 := at0_in pos hi2 k
              trivial
        · intro x hx p2
          trivial
    · intro r hr p2
      obtain ⟨hl, hi⟩ := sm r hr
      trivial
      by_cases e : at0 r k = 0 <;> simp only [isLed, bne_iff_ne, ne_eq, e, not_true_eq_false, not_false_eq_true, if_true, if_false]
  unfold F_stepped b_stepped
  trivial
  rw [compL_mapE (e := fun r => sq b2 (di r)) li (fun r => r), map_same]
  · obtain ⟨r0, rest, rfl⟩ := List.exists_cons_of_ne_nil hn
    have hl0 := (h r0 (List.mem_cons_self ..)).1
    have hm2 : rest.length + 1 ≤ 1000 := hm
    have hd0 : (di r0).length = n := by simpa using hl0
    rw [show List.map (fun r => sq b2 (di r)) (r0 :: rest) = sq b2 (di r0) :: rest.map (fun r => sq b2 (di r)) from rfl] at key ⊢
    trivial
    rw [hl0]
    obtain ⟨env', e, s5, s6, s7, s8, rfl⟩ := key
    rw [map_cons'] at e
    rw [e]
    have len := fold_len p (r0 :: rest) n
    trivial
    rw [compL_mapE (e := li) ti (fun r => r)]
    · trivial
      rfl
    · intro r hr p3
      trivial
  · intro r hr p
    trivial

theorem e_plain_code {p : Int} (hp : Pr p) {n : Nat} {b1 b2 : Bool} {rows : List Row} (hn : rows ≠ []) (h : ∀ r ∈ rows, RowOk p n r) (hz : n ≤ 1000) (hm : rows.length ≤ 1000) (q : PS) :
    F_plain_code [.int p, sq b1 (rows.map fun r => sq b2 (di r))] q = .ok (.tuple ((red p n rows).map ti)) q := by
  unfold F_plain_code b_plain_code
  trivial
  rw [e_stepped hp hn h hz hm]
  trivial
theorem e_less {p : Int} (hp : 0 < p) {row head : Row} {t : Int} (ht : 0 ≤ t ∧ t < 1000000) (hz : row.length ≤ 1000) (q : PS) :
    F__law_less [.int p, li row, li head, .int t] q = .ok (li (less p row head t)) q := by
  unfold F__law_less b__law_less
  trivial
  rw [compL_mapE PySem.PyData.int (fun q : Int × Int => (q.1 - t * q.2) % p) (row.zip head)]
  · trivial
    rw [map_zip']
    rfl
  · intro q hq p3
    trivial
/-- the place of the first led row -/
def ledIx (c : Nat) (rows : List Row) : List Nat := ((rows.zipIdx 0).filter fun q => isLed c q.1).map (·.2)
theorem e_power {p x : Int} (hp : Pr p) (h1 : 0 < x) (h2 : x < p) (q : PS) : F__law_power [.int x, .int (p - 2), .int p] q = .ok (.int (inv p x)) q := by
  rcases hp with rfl | rfl | rfl | rfl
  · have : x = 1 := by omega
    subst this; rfl
  · have : x = 1 ∨ x = 2 := by omega
    rcases this with rfl | rfl <;> rfl
  · have : x = 1 ∨ x = 2 ∨ x = 3 ∨ x = 4 := by omega
    rcases this with rfl | rfl | rfl | rfl <;> rfl
  · have : x = 1 ∨ x = 2 ∨ x = 3 ∨ x = 4 ∨ x = 5 ∨ x = 6 := by omega
    rcases this with rfl | rfl | rfl | rfl | rfl | rfl <;> rfl
theorem e_reduced {p : Int} (hp : Pr p) {n : Nat} {b1 b2 : Bool} {rows : List Row} (h : ∀ r ∈ rows, RowOk p n r) (hz : n ≤ 1000) (hm : rows.length ≤ 1000) (q : PS) :
    F__law_reduced [.int p, sq b1 (rows.map fun r => sq b2 (di r))] q = .ok (.list ((red p n rows).map li)) q := by
  have pos := hp.pos
  have ple := hp.le
  have key : ∃ env', forL (ff (calF cs__law_reduced) (.nm 6) b__law_reduced_1) ((List.range n).map fun (k : Nat) => .int (k : Int)) [.va (.int p), .va (sq b1 (rows.map fun r => sq b2 (di r))), .ow (.list (rows.map li)), .va (.list []), .va (.int (n : Int)), .un, .un, .un, .un, .un, .un, .un] p0 = .ok (.nx env') p0 ∧
      ∃ s6 s7 s9 s10, env' = [.va (.int p), .va (sq b1 (rows.map fun r => sq b2 (di r))), .ow (.list (((List.range n).foldl (stepR p) (rows, [])).1.map li)), .va (.list (((List.range n).foldl (stepR p) (rows, [])).2.map li)), .va (.int (n : Int)), .un, s6, s7, .un, s9, s10, .un] := by
    refine forL_range (Inv := fun k env => ∃ s6 s7 s9 s10, env = [.va (.int p), .va (sq b1 (rows.map fun r => sq b2 (di r))), .ow (.list (((List.range k).foldl (stepR p) (rows, [])).1.map li)), .va (.list (((List.range k).foldl (stepR p) (rows, [])).2.map li)), .va (.int (n : Int)), .un, s6, s7, .un, s9, s10, .un]) n _ _ (fun k hk env p1 hi => ?_) ⟨.un, .un, .un, .un, rfl⟩
    obtain ⟨s6, s7, s9, s10, rfl⟩ := hi
    have L := led_fold hp h k
    have len := fold_len p rows k
    rw [fold_succ]
    generalize (List.range k).foldl (stepR p) (rows, []) = s at L len ⊢
    have sm : ∀ r ∈ s.1, r.length = n ∧ InP p r := fun r hr => L.small (.inl hr)
    have sm2 : ∀ r ∈ s.2, r.length = n ∧ InP p r := fun r hr => L.small (.inr hr)
    have lf : ((s.1.zipIdx 0).filter (fun q => isLed k q.1)).length ≤ s.1.length := by
      have := List.length_filter_le (fun q : Row × Nat => isLed k q.1) (s.1.zipIdx 0)
      simpa using this
    have le1 : (s.1.eraseP (isLed k)).length ≤ s.1.length := List.length_eraseP_le
    unfold b__law_reduced_1
    trivial
    rw [compL_filE (e := fun q : Row × Nat => PySem.PyData.tuple [.int (q.2 : Int), li q.1]) (fun q => isLed k q.1) PySem.PyData.int (fun q => (q.2 : Int)) (s.1.zipIdx 0)]
    · trivial
      rcases led_ix (c := k) s.1 0 with ⟨e1, e2⟩ | ⟨r, i, rest, e1, e2, e3, e4⟩
      · rw [e1]
        trivial
        refine ⟨_, rfl, ?_⟩
        unfold stepR
        rw [e2]
        exact ⟨_, _, _, _, rfl⟩
      · rw [e1, Nat.zero_add]
        have hr := List.mem_of_find?_eq_some e2
        have hne : at0 r k ≠ 0 := by simpa [isLed] using List.find?_some e2
        obtain ⟨hl, hi⟩ := sm r hr
        have hu := e_power hp (x := at0 r k) (by have := at0_in pos hi k; omega) (at0_in pos hi k).2 p1
        have hv := inv_in hp (at0 r k)
        rw [map_cons', List.isEmpty_cons, if_pos rfl, stepR, e2, ← e4]
        rw [← e4] at le1
        dsimp only
        unfold b__law_reduced_2
        trivial
        rw [m_pop e3 (by omega)]
        trivial
        rw [hu]
        trivial
        rw [compL_mapE PySem.PyData.int (fun x => x * inv p (at0 r k) % p) r]
        · trivial
          generalize hL : List.map (fun x => x * inv p (at0 r k) % p) r = lead
          have hL' : scale p (inv p (at0 r k)) r = lead := hL
          rw [hL']
          have ll : lead.length = n := by rw [← hL, List.length_map, hl]
          rw [compL_mapE (e := li) li (fun row => less p row lead (at0 row k)) (s.1.eraseIdx i)]
          · trivial
            rw [compL_mapE (e := li) li (fun row => less p row lead (at0 row k)) s.2]
            · trivial
              refine ⟨_, rfl, ?_⟩
              rw [List.map_append]
              exact ⟨_, _, _, _, rfl⟩
            · intro row hrow p2
              obtain ⟨hl2, hi2⟩ := sm2 row hrow
              have b1 := at0_in pos hi2 k
              have hl3 := e_less pos (row := row) (head := lead) (t := at0 row k) (by omega) (by omega) p2
              trivial
              rw [hl3, ← less_if (c := k) ⟨hl2, hi2⟩ ll]
              by_cases e : at0 row k = 0 <;> simp only [e, not_true_eq_false, not_false_eq_true, if_true, if_false, ne_eq, kCf3_ok]
          · intro row hrow p2
            obtain ⟨hl2, hi2⟩ := sm row (List.mem_of_mem_eraseIdx hrow)
            have b1 := at0_in pos hi2 k
            have hl3 := e_less pos (row := row) (head := lead) (t := at0 row k) (by omega) (by omega) p2
            trivial
            rw [hl3, ← less_if (c := k) ⟨hl2, hi2⟩ ll]
            by_cases e : at0 row k = 0 <;> simp only [e, not_true_eq_false, not_false_eq_true, if_true, if_false, ne_eq, kCf3_ok]
        · intro x hx p2
          trivial
    · intro q hq p2
      have hq1 : q.1 ∈ s.1 := List.fst_mem_of_mem_zipIdx hq
      obtain ⟨hl, hi⟩ := sm q.1 hq1
      trivial
      by_cases e : at0 q.1 k = 0 <;> simp only [isLed, bne_iff_ne, ne_eq, e, not_true_eq_false, not_false_eq_true, if_true, if_false]
  unfold F__law_reduced b__law_reduced
  trivial
  rw [compL_mapE (e := fun r => sq b2 (di r)) li (fun r => r), map_same]
  · cases rows with
    | nil =>
      rw [red_nil]
      cases b1 <;> rfl
    | cons r0 rest =>
      have hl0 := (h r0 (List.mem_cons_self ..)).1
      have hd0 : (di r0).length = n := by simpa using hl0
      have hm2 : rest.length + 1 ≤ 1000 := hm
      have len := fold_len p (r0 :: rest) n
      rw [show List.map (fun r => sq b2 (di r)) (r0 :: rest) = sq b2 (di r0) :: rest.map (fun r => sq b2 (di r)) from rfl] at key ⊢
      trivial
      rw [hl0, if_pos (by omega)]
      trivial
      obtain ⟨env', e, s6, s7, s9, s10, rfl⟩ := key
      rw [map_cons'] at e
      rw [e]
      trivial
      rfl
  · intro r hr p
    trivial
theorem e_lplain_code {p : Int} (hp : Pr p) {n : Nat} {b1 b2 : Bool} {rows : List Row} (h : ∀ r ∈ rows, RowOk p n r) (hz : n ≤ 1000) (hm : rows.length ≤ 1000) (q : PS) :
    F__law_plain_code [.int p, sq b1 (rows.map fun r => sq b2 (di r))] q = .ok (.tuple ((red p n rows).map ti)) q := by
  have len := fold_len p rows n
  have len2 : (red p n rows).length ≤ 1000 := by unfold red; omega
  unfold F__law_plain_code b__law_plain_code
  trivial
  rw [e_reduced hp h hz hm]
  trivial
  rw [compL_mapE (e := li) ti (fun r => r)]
  · trivial
  · intro r hr p3
    trivial
theorem e_sum_by {p : Int} (hp : 0 < p ∧ p ≤ 7) {u x : Row} (hu : InP p u) (hz : u.length ≤ 1000) (q : PS) : F_sum_by [ti u, ti x] q = .ok (.int (dot u x)) q := by
  unfold F_sum_by b_sum_by
  trivial
  rw [compL_mapE PySem.PyData.int (fun q : Int × Int => q.1 * q.2) (u.zip x)]
  · trivial
    rw [map_zip']
    rfl
  · intro q hq p3
    have := hu q.1 (List.of_mem_zip hq).1
    trivial
theorem e_values_at {p : Int} (hp : 0 < p ∧ p ≤ 7) {a b : Nat} {ps : List (Row × Row)} (h : ProdOk p a b ps) {x y : Row} (hx : InP p x) (hy : InP p y) (ha : a ≤ 9) (hb : b ≤ 9) (hz : ps.length ≤ 1000) (q : PS) :
    F_values_at [.int p, .tuple (ps.map pr), ti x, ti y] q = .ok (ti (prodVals p ps x y)) q := by
  unfold F_values_at b_values_at
  trivial
  rw [compL_mapE (e := pr) PySem.PyData.int (fun q => dot q.1 x * dot q.2 y % p) ps]
  · trivial
    rfl
  · intro q hq p3
    obtain ⟨⟨l1, i1⟩, l2, i2⟩ := h q hq
    have b1 := dot_bound hp i1 hx
    rw [l1] at b1
    trivial
    rw [e_sum_by hp i1 (by omega)]
    trivial
    rw [e_sum_by hp i2 (by omega)]
    trivial
theorem e_lvalues {p : Int} (hp : 0 < p ∧ p ≤ 7) {a b : Nat} {ps : List (Row × Row)} (h : ProdOk p a b ps) {x y : Row} (hx : InP p x) (hy : InP p y) (ha : a ≤ 9) (hb : b ≤ 9) (hz : ps.length ≤ 1000) (q : PS) :
    F__law_values [.int p, .tuple (ps.map pr), ti x, ti y] q = .ok (ti (prodVals p ps x y)) q := by
  have key : ∃ env', forL (ff (calF cs__law_values) (.tp [.nm 5, .nm 6]) b__law_values_1) (ps.map pr) [.va (.int p), .va (.tuple (ps.map pr)), .va (ti x), .va (ti y), .ow (.list []), .un, .un, .un, .un, .un] p0 = .ok (.nx env') p0 ∧
      ∃ s5 s6 s7, env' = [.va (.int p), .va (.tuple (ps.map pr)), .va (ti x), .va (ti y), .ow (.list (di (prodVals p ps x y))), s5, s6, s7, .un, .un] := by
    refine forL_list (Inv := fun zs env => ∃ s5 s6 s7, env = [.va (.int p), .va (.tuple (ps.map pr)), .va (ti x), .va (ti y), .ow (.list (di (prodVals p zs x y))), s5, s6, s7, .un, .un]) ps ps [] _ _ rfl (fun zs q rest env p1 hq hi => ?_) ⟨.un, .un, .un, rfl⟩
    obtain ⟨s5, s6, s7, rfl⟩ := hi
    obtain ⟨⟨l1, i1⟩, l2, i2⟩ := h q (by rw [← hq]; simp)
    have b1 := dot_bound hp i1 hx
    rw [l1] at b1
    have hl2 : zs.length < 1000 := by rw [← hq] at hz; simp at hz; omega
    have e : prodVals p (zs ++ [q]) x y = prodVals p zs x y ++ [dot q.1 x * dot q.2 y % p] := by simp [prodVals]
    have hl3 : (di (prodVals p zs x y)).length < 1000 := by simpa [prodVals] using hl2
    rw [e, di_app]
    unfold b__law_values_1
    trivial
    rw [compL_mapE PySem.PyData.int (fun q : Int × Int => q.1 * q.2) (q.1.zip x)]
    · trivial
      rw [compL_mapE PySem.PyData.int (fun q : Int × Int => q.1 * q.2) (q.2.zip y)]
      · trivial
        rw [map_zip', map_zip']
        rw [show (List.zipWith (fun x y => (x, y).fst * (x, y).snd) q.fst x).sum = dot q.1 x from rfl, show (List.zipWith (fun x y => (x, y).fst * (x, y).snd) q.snd y).sum = dot q.2 y from rfl]
        trivial
        rw [m_append (by omega)]
        trivial
        exact ⟨_, rfl, _, _, _, rfl⟩
      · intro z hz p3
        have := i2 z.1 (List.of_mem_zip hz).1
        trivial
    · intro z hz p3
      have := i1 z.1 (List.of_mem_zip hz).1
      trivial
  unfold F__law_values b__law_values
  trivial
  obtain ⟨env', e, s5, s6, s7, rfl⟩ := key
  rw [e]
  trivial
theorem e_flat {xss : List (List D)} (hz : xss.flatten.length ≤ 100000) (q : PS) : F__law_flat [.list (xss.map .list)] q = .ok (.list xss.flatten) q := by
  have key : ∃ env', forL (ff (calF cs__law_flat) (.nm 2) b__law_flat_1) (xss.map .list) [.va (.list (xss.map .list)), .ow (.list []), .un] p0 = .ok (.nx env') p0 ∧
      ∃ s2, env' = [.va (.list (xss.map .list)), .ow (.list xss.flatten), s2] := by
    refine forL_list (Inv := fun zs env => ∃ s2, env = [.va (.list (xss.map .list)), .ow (.list zs.flatten), s2]) xss xss [] _ _ rfl (fun zs q rest env p1 hq hi => ?_) ⟨.un, rfl⟩
    obtain ⟨s2, rfl⟩ := hi
    have hl : zs.flatten.length + q.length ≤ 100000 := by
      rw [← hq] at hz
      simp only [List.flatten_append, List.flatten_cons, List.length_append] at hz
      omega
    rw [List.flatten_append, List.flatten_cons, List.flatten_nil, List.append_nil]
    unfold b__law_flat_1
    trivial
    rw [m_extend (by omega)]
    trivial
    exact ⟨_, rfl, _, rfl⟩
  unfold F__law_flat b__law_flat
  trivial
  obtain ⟨env', e, s2, rfl⟩ := key
  rw [e]
  trivial
theorem e_cells {a b : Nat} (ha : a ≤ 100) (hb : b ≤ 100) (q : PS) : F__law_cells [.int a, .int b] q = .ok (.list ((List.range a).flatMap fun (i : Nat) => (List.range b).map fun (j : Nat) => .tuple [.int (i : Int), .int (j : Int)])) q := by
  have hl : (List.map (fun (i : Nat) => (List.range b).map fun (j : Nat) => PySem.PyData.tuple [.int (i : Int), .int (j : Int)]) (List.range a)).flatten.length ≤ 100000 := by
    rw [← List.flatMap_def, flatMap_len _ b _ (by simp), List.length_range]
    exact Nat.le_trans (Nat.mul_le_mul ha hb) (by decide)
  unfold F__law_cells b__law_cells
  trivial
  rw [compL_mapE (e := fun i : Nat => PySem.PyData.int (i : Int)) PySem.PyData.list (fun (i : Nat) => (List.range b).map fun (j : Nat) => .tuple [.int (i : Int), .int (j : Int)]) (List.range a)]
  · trivial
    rw [e_flat hl, List.flatMap_def]
    trivial
  · intro i hi p2
    trivial
    rw [compL_map (g := fun j : Nat => PySem.PyData.tuple [.int (i : Int), .int (j : Int)])]
    · trivial
    · intro j hj p3
      trivial
theorem e_product_code {p : Int} (hp : Pr p) {a b : Nat} {ps : List (Row × Row)} (h : ProdOk p a b ps) (ha : 0 < a ∧ a ≤ 9) (hb : 0 < b ∧ b ≤ 9) (hz : ps.length ≤ 1000) (q : PS) :
    F_product_code [.int p, .tuple [.int a, .int b], .tuple (ps.map pr)] q = .ok (.tuple ((red p ps.length (prodRows p a b ps)).map ti)) q := by
  have pos := hp.pos
  have ple := hp.le
  have key : ∃ env', forL (ff (calF cs_product_code) (.nm 4) b_product_code_1) ((List.range a).map fun (k : Nat) => .int (k : Int)) [.va (.int p), .va (.tuple [.int a, .int b]), .va (.tuple (ps.map pr)), .ow (.list []), .un, .un, .un, .un] p0 = .ok (.nx env') p0 ∧
      ∃ s4, env' = [.va (.int p), .va (.tuple [.int a, .int b]), .va (.tuple (ps.map pr)), .ow (.list ((prodRows p a b ps).map ti)), s4, .un, .un, .un] := by
    refine forL_range (Inv := fun k env => ∃ s4, env = [.va (.int p), .va (.tuple [.int a, .int b]), .va (.tuple (ps.map pr)), .ow (.list ((prodRows p k b ps).map ti)), s4, .un, .un, .un]) a _ _ (fun k hk env p1 hi => ?_) ⟨.un, rfl⟩
    obtain ⟨s4, rfl⟩ := hi
    have hl : ((prodRows p k b ps).map ti).length ≤ 81 := by
      rw [List.length_map, prodRows_len]
      exact Nat.mul_le_mul (show k ≤ 9 by omega) hb.2
    rw [prodRows_succ, List.map_append]
    unfold b_product_code_1
    trivial
    rw [compL_mapE (e := fun i : Nat => PySem.PyData.int (i : Int)) ti (fun j => prodRow p ps k j) (List.range b)]
    · trivial
      rw [m_extend (by simp only [List.length_map, List.length_range] at hl ⊢; omega)]
      trivial
      exact ⟨_, rfl, _, rfl⟩
    · intro j hj p2
      have hj2 := List.mem_range.mp hj
      trivial
      rw [compL_mapE (e := pr) PySem.PyData.int (fun q => at0 q.1 k * at0 q.2 j % p) ps]
      · trivial
        rfl
      · intro q hq p3
        obtain ⟨⟨l1, i1⟩, l2, i2⟩ := h q hq
        have b1 := at0_in pos i1 k
        trivial
  have hl : (prodRows p a b ps).length ≤ 81 := by
    rw [prodRows_len]
    exact Nat.mul_le_mul ha.2 hb.2
  have hne : prodRows p a b ps ≠ [] := fun e => by
    have := prodRows_len p a b ps
    rw [e] at this
    have := Nat.mul_pos ha.1 hb.1
    simp at *
    omega
  unfold F_product_code b_product_code
  trivial
  obtain ⟨env', e, s4, rfl⟩ := key
  rw [e]
  trivial
  have hc := e_plain_code hp (b1 := true) (b2 := true) hne (prodRows_ok pos a b ps) hz (by omega) p0
  rw [show sq true (List.map (fun r => sq true (di r)) (prodRows p a b ps)) = .tuple ((prodRows p a b ps).map ti) from rfl] at hc
  rw [hc]
  trivial
end K76
namespace K76
open Ev
local macro_rules | `(tactic| trivial) => `(tactic| try simp (disch := (first | omega | (with_reducible assumption) | (simp only [List.length_map, List.length_append, List.length_cons, List.length_nil, List.length_zip, List.length_range, List.length_replicate, di]; omega))) only [v_var0, v_var1, v_glc, v_lit, v_dct0, kCons2_ok, kCons2F_ap, kCons_ok, kConsF_ap, v_nil, v_cons, kTupF_ap, kTup_ok, kLstF_ap, kLst_ok, v_tup, v_lst, kBin2_ok, kBin2F_ap, kBin_ok, kBinF_ap, v_bin, kNeg_ok, kNegF_ap, v_neg, kNot_ok, kNotF_ap, v_not, kBop2_ok, kBop2F_ap, kBopF_1, kBopF_2, kBop_1, kBop_2, v_bop, v_bops, kIfe2_ok, kIfe2F_ap, kIfe_ok, kIfeF_ap, v_ife, kCmp2_ok, kCmp2F_ap, kCmp_ok, kCmpF_ap, v_cmp, kChn3_ok, kChn3F_ap, kChn2_ok, kChn2F_ap, kChn_ok, kChnF_ap, v_chn, kIsn_ok, kIsnF_ap, v_isn, kMem2_ok, kMem2F_ap, kMem_ok, kMemF_ap, v_mem, kIx2_ok, kIx2F_ap, kIx_ok, kIxF_ap, v_ix, kO2_ok, kO2F_ap, kO_ok, kOF_ap, v_O0, v_O1, kSl3_ok, kSl3F_ap, kSl2_ok, kSl2F_ap, kSl_ok, kSlF_ap, v_sl, kRev_ok, kRevF_ap, v_rev, kCal3_ok, kCal3F_ap, kCal2_ok, kCal2F_ap, kCal_ok, kCalF_ap, v_cal, kBi_ok, kBiF_ap, v_bi, kIsi_ok, kIsiF_ap, v_isi, kGet3_ok, kGet3F_ap, kGet2_ok, kGet2F_ap, kGet_ok, kGetF_ap, v_get, kCf3_ok, kCf3F_ap, kCfc3_ok, kCfc3F_ap, kCfc2_ok, kCfc2F_ap, kCf_0, kCf_1, v_cf, kLc3F_ap, kLc3_ok, kLc2_ok, kLc2F_ap, kLc_ok, kLcF_ap, v_lc, kSeqF_rt, kSeqF_br, kSeqF_ct, kSeqF_nx, kSeq_nx, kSeq_rt, kSeq_br, kSeq_ct, x_nil, x_cons, kAsg2_ok, kAsg2F_ap, kAsg_ok, kAsgF_ap, x_asg, kAsT_ok, kAsTF_ap, x_asT, kPar_ok, kParF_ap, x_par, kStx4_ok, kStx4F_ap, kStx3_ok, kStx3F_ap, kStx2_ok, kStx2F_ap, kStx_ok, kStxF_ap, x_stx, kMut3_ok, kMut3F_ap, kMut2_ok, kMut2F_ap, kMut_ok, kMutF_ap, x_mut, kMutA3_ok, kMutA3F_ap, kMutA2_ok, kMutA2F_ap, kMutA_ok, kMutAF_ap, x_mutA, kExp_ok, kExpF_ap, x_exp, kIfs2_ok, kIfs2F_ap, kIfs_ok, kIfsF_ap, x_ifs, kFf_ok, kFfF_ap, v_ff, kFor2_ok, kFor2F_ap, kFor_ok, kForF_ap, x_frs, kWc_ok, kWcF_ap, v_wc, v_wb, x_whl, kRtn_ok, kRtnF_ap, x_rtn, x_rtnN, x_pas, x_brk, x_cnt, kRunN_nx, kRunN_rt, v_runN, kRunPF_nx, kRunPF_rt, kRunP_nx, kRunP_rt, v_runP, isD_int_none, isD_int_bool, isD_int_int, isD_int_str, isD_int_list, isD_int_tuple, isD_int_dict, isD_bool_none, isD_bool_bool, isD_bool_int, isD_bool_str, isD_bool_list, isD_bool_tuple, isD_bool_dict, isD_tuple_none, isD_tuple_bool, isD_tuple_int, isD_tuple_str, isD_tuple_list, isD_tuple_tuple, isD_tuple_dict, isD_list_none, isD_list_bool, isD_list_int, isD_list_str, isD_list_list, isD_list_tuple, isD_list_dict, isD_str_none, isD_str_bool, isD_str_int, isD_str_str, isD_str_list, isD_str_tuple, isD_str_dict, isD_dict_none, isD_dict_bool, isD_dict_int, isD_dict_str, isD_dict_list, isD_dict_tuple, isD_dict_dict, isN_none, isN_bool, isN_int, isN_str, isN_list, isN_tuple, isN_dict, Wb_ap, g__law_of, g_undoing, g_stepped, g_plain_code, g_other_code, g_is_row, g_first_item, g_is_pair, g_products_error, g_products_of, g_sum_by, g_values_at, g_product_code, g_checks_of, g__law_one, g__law_is_number, g__law_flat, g__law_spliced, g__law_bent, g__law_power, g__law_drawn_row, g__law_is_row, g__law_is_headed, g__law_plain_triple, g__law_less, g__law_reduced, g__law_plain_code, g__law_nought_rows, g__law_products, g__law_cells, g__law_values, g__law_fault, g__law_is_code_right, freeze_nil, freeze_cons, fz10, fz1S, fz_ow, fz_va, fz_un, wipe_nil, wipe_cons, wipe10, wipe1S, List.map_cons, List.map_nil, List.length_cons, List.length_nil, List.replicate_succ, List.replicate_zero, List.cons_append, List.nil_append, List.append_nil, Nat.reduceAdd, Nat.reduceSub, opt_some, bor0, borO, borS, esc0, escS, ownL0, ownLS, ownV0, ownVS, set0, setS, setV0, setVS, asg_nm, asg_tp, asgs0, asgsS, asgF_f, asgF_l, asgF_d, parF0, parFS, bind_some, map_some', s_add, s_sub, s_mul, s_mul', s_mod, s_fdiv, s_addT, s_addL, s_mulT, s_mulL, t_int, t_bool, t_none, t_list, t_tuple, s_len, s_lenT, s_tuple, s_tupleT, s_list, s_listT, s_int, s_intB, s_abs, s_sum, s_ixL, s_ixT, s_slL, s_slT, s_revL, s_revT, s_intOf, i_seqL, i_seqT, i_rng1, i_rng2, i_zip, i_enum, s_seqL, s_seqT, c_eq, c_ne, c_lt, c_le, c_gt, c_ge, calm_ok, calF_0, calF_S, pick0, pickS, get0, getS, zipL_map, enumL_map, rngL_nat, if_true, if_false, ite_true, ite_false, reduceIte, Bool.not_true, Bool.not_false, Bool.false_eq_true, at_zero, at_one, decide_eq_true_eq, Bool.not_eq_true', List.isEmpty_nil, List.isEmpty_cons, decide_eq_false_iff_not, i_sq, s_lsq, s_tsq, s_lensq, s_ixsq, s_seqsq, c_neR, c_neI, Bool.false_bne, c_neD0, lenOk_l, wp_okD, c_ne_0, c_ne_1, c_ne_2, c_eq_0, Option.toList_some, Option.toList_none, decide_true, decide_false, List.head?_nil, List.head?_cons, Int.cast_ofNat_Int, Int.reduceEq, Int.reduceLT, Int.reduceLE, Int.reduceAdd, Int.reduceSub, Int.reduceMul, Int.reduceNeg, eq_self, s_anyT, List.length_map, not_true_eq_false, not_false_eq_true, Bool.true_eq_false, Bool.true_bne, at_row, c_neT, memD_di, set_di, mul_zero, m_remove, map_same, List.map_id_fun', id_eq, List.map_id])
local macro_rules | `(tactic| infer_instance) => `(tactic| try simp only [kCons2, kCons, kTup, kLst, kBin2, kBin, kNeg, kNot, kBop2, kBop, kIfe2, kIfe, kCmp2, kCmp, kChn3, kChn2, kChn, kIsn, kMem2, kMem, kIx2, kIx, kO2, kO, kSl3, kSl2, kSl, kRev, kCal3, kCal2, kCal, kBi, kIsi, kGet3, kGet2, kGet, kCf3, kCfc3, kCfc2, kCf, kLc3, kLc2, kLc, kSeq, kAsg2, kAsg, kAsT, kPar, kStx4, kStx3, kStx2, kStx, kMut3, kMut2, kMut, kMutA3, kMutA2, kMutA, kExp, kIfs2, kIfs, kFf, kFor2, kFor, kWc, kRtn, kRunP, wp_bindW])
theorem e_nought {p : Int} (hp : Pr p) {n : Nat} {rows : List Row} (h : ∀ r ∈ rows, RowOk p n r) (hz : n ≤ 1000) (hm : rows.length ≤ 1000) (q : PS) :
    F__law_nought_rows [.int p, .list (rows.map ti), .int n] q = .ok (.tuple ((red p n (noughts p n (red p n rows))).map ti)) q := by
  have pos := hp.pos
  have S := red_steps hp h
  have len := fold_len p rows n
  have len2 : (red p n rows).length ≤ 1000 := by unfold red; omega
  have hsteps : (if rows.isEmpty = false then F__law_reduced [.int p, .list (rows.map ti)] p0 else .ok (.list []) p0) = .ok (.list ((red p n rows).map li)) p0 := by
    have e := e_reduced hp (b1 := false) (b2 := true) h hz hm p0
    cases rows with
    | nil => rw [red_nil]; rfl
    | cons r rest => exact e
  unfold F__law_nought_rows b__law_nought_rows
  trivial
  rw [hsteps]
  generalize red p n rows = steps at S len2 ⊢
  trivial
  rw [compL_mapE (e := li) PySem.PyData.int (fun r => ((hd r : Nat) : Int)) steps]
  · trivial
    have lf : ((List.range n).filter (fun k => decide (k ∉ steps.map hd))).length ≤ n := by
      have := List.length_filter_le (fun k => decide (k ∉ steps.map hd)) (List.range n)
      simpa using this
    rw [compL_filE (e := fun k : Nat => PySem.PyData.int (k : Int)) (fun k => decide (k ∉ steps.map hd)) (fun k : Nat => PySem.PyData.int (k : Int)) (fun k => k) (List.range n)]
    · rw [map_same]
      trivial
      have key : ∃ env', forL (ff (calF cs__law_nought_rows) (.nm 9) b__law_nought_rows_1) ((frees n steps).map fun (k : Nat) => .int (k : Int)) [.va (.int p), .va (.list (rows.map ti)), .va (.int n), .va (.list (steps.map li)), .va (.list (di (steps.map fun r => ((hd r : Nat) : Int)))), .un, .un, .un, .ow (.list []), .un, .un, .un] p0 = .ok (.nx env') p0 ∧
          ∃ s7 s9 s10 s11, env' = [.va (.int p), .va (.list (rows.map ti)), .va (.int n), .va (.list (steps.map li)), .va (.list (di (steps.map fun r => ((hd r : Nat) : Int)))), .un, .un, s7, .ow (.list (((frees n steps).map (noughtRow p n steps)).map li)), s9, s10, s11] := by
        refine forL_list (Inv := fun zs env => ∃ s7 s9 s10 s11, env = [.va (.int p), .va (.list (rows.map ti)), .va (.int n), .va (.list (steps.map li)), .va (.list (di (steps.map fun r => ((hd r : Nat) : Int)))), .un, .un, s7, .ow (.list ((zs.map (noughtRow p n steps)).map li)), s9, s10, s11]) (frees n steps) (frees n steps) [] _ _ rfl (fun zs free rest env p1 hq hi => ?_) ⟨.un, .un, .un, .un, rfl⟩
        obtain ⟨s7, s9, s10, s11, rfl⟩ := hi
        have hfm : free ∈ frees n steps := by rw [← hq]; simp
        have hfree : free < n := List.mem_range.mp (List.mem_filter.mp hfm).1
        have hzl : zs.length < 1000 := by
          have : (frees n steps).length ≤ n := lf
          rw [← hq] at this
          simp at this
          omega
        have inner : ∃ env', forL (ff (calF cs__law_nought_rows) (.tp [.nm 7, .nm 11]) b__law_nought_rows_2) (steps.map fun r => PySem.PyData.tuple [li r, .int ((hd r : Nat) : Int)]) [.va (.int p), .va (.list (rows.map ti)), .va (.int n), .va (.list (steps.map li)), .va (.list (di (steps.map fun r => ((hd r : Nat) : Int)))), .un, .un, s7, .ow (.list ((zs.map (noughtRow p n steps)).map li)), .va (.int (free : Int)), .ow (li (unitRow n free)), s11] p1 = .ok (.nx env') p1 ∧
            ∃ s7 s11, env' = [.va (.int p), .va (.list (rows.map ti)), .va (.int n), .va (.list (steps.map li)), .va (.list (di (steps.map fun r => ((hd r : Nat) : Int)))), .un, .un, s7, .ow (.list ((zs.map (noughtRow p n steps)).map li)), .va (.int (free : Int)), .ow (li (noughtRow p n steps free)), s11] := by
          refine forL_list (Inv := fun ws env => ∃ s7 s11, env = [.va (.int p), .va (.list (rows.map ti)), .va (.int n), .va (.list (steps.map li)), .va (.list (di (steps.map fun r => ((hd r : Nat) : Int)))), .un, .un, s7, .ow (.list ((zs.map (noughtRow p n steps)).map li)), .va (.int (free : Int)), .ow (li (ws.foldl (fun own row => own.set (hd row) (-(at0 row free) % p)) (unitRow n free))), s11]) steps steps [] _ _ rfl (fun ws r rest env p2 hq2 hi => ?_) ⟨s7, s11, rfl⟩
          obtain ⟨s7, s11, rfl⟩ := hi
          have hr : r ∈ steps := by rw [← hq2]; simp
          obtain ⟨⟨hl, hi⟩, hh, _⟩ := S.ok r hr
          have hlen : (ws.foldl (fun own row => own.set (hd row) (-(at0 row free) % p)) (unitRow n free)).length = n := by rw [fold_set_length]; simp [unitRow]
          rw [List.foldl_append, List.foldl_cons, List.foldl_nil]
          generalize ws.foldl (fun own row => own.set (hd row) (-(at0 row free) % p)) (unitRow n free) = own at hlen ⊢
          unfold b__law_nought_rows_2
          trivial
          exact ⟨_, rfl, _, _, rfl⟩
        rw [List.map_append, List.map_append]
        unfold b__law_nought_rows_1
        trivial
        rw [zip_self, List.map_map]
        obtain ⟨env', e, t7, t11, rfl⟩ := inner
        rw [show (List.replicate n 0).set free 1 = unitRow n free from rfl]
        rw [show (fun q : Row × Int => PySem.PyData.tuple [li q.1, .int q.2]) ∘ (fun r : Row => (r, ((hd r : Nat) : Int))) = fun r => PySem.PyData.tuple [li r, .int ((hd r : Nat) : Int)] from rfl, e]
        trivial
        rw [m_append (by simp; omega)]
        trivial
        exact ⟨_, rfl, _, _, _, _, rfl⟩
      obtain ⟨env', e, s7, s9, s10, s11, rfl⟩ := key
      rw [show (List.filter (fun k => decide ¬k ∈ List.map hd steps) (List.range n)) = frees n steps from rfl, e]
      have okn : ∀ r ∈ noughts p n steps, RowOk p n r := fun r hr => by
        obtain ⟨f, _, rfl⟩ := List.mem_map.mp hr
        exact noughtRow_ok hp.ge n _ f
      have hc := e_lplain_code hp (b1 := false) (b2 := false) okn hz (by simp [noughts, frees]; simp at lf; omega) p0
      trivial
      rw [show PySem.PyData.list (List.map li (List.map (noughtRow p n steps) (frees n steps))) = sq false ((noughts p n steps).map fun r => sq false (di r)) from rfl, hc]
      trivial
    · intro k hk p2
      trivial
      have mh : (k : Int) ∈ (steps.map fun r => ((hd r : Nat) : Int)) ↔ k ∈ steps.map hd := decide_eq_decide.mp mem_heads
      by_cases e : k ∈ steps.map hd
      · rw [if_neg (not_not_intro (mh.mpr e))]
        simp [e]
      · rw [if_pos (fun z => e (mh.mp z))]
        simp [e]
  · intro r hr p2
    trivial
    rw [compL_filE (e := fun q : Int × Nat => PySem.PyData.tuple [.int (q.2 : Int), .int q.1]) (fun q => q.1 != 0) PySem.PyData.int (fun q => (q.2 : Int)) (r.zipIdx 0)]
    · obtain ⟨x, rest, e⟩ := hd_ix r 0 (by rw [(S.ok r hr).2.2]; decide)
      have lf : ((r.zipIdx 0).filter (fun q => q.1 != 0)).length ≤ r.length := by
        have := List.length_filter_le (fun q : Int × Nat => q.1 != 0) (r.zipIdx 0)
        simpa using this
      have hl := (S.ok r hr).1.1
      rw [e] at lf ⊢
      rw [List.length_cons] at lf
      trivial
      rw [Nat.zero_add]
    · intro q hq p3
      trivial
      by_cases e : q.1 = 0 <;> simp [e]
theorem e_other_code {p : Int} (hp : Pr p) {n : Nat} {rows : List Row} (hn : rows ≠ []) (h : ∀ r ∈ rows, RowOk p n r) (hz : n ≤ 1000) (hm : rows.length ≤ 1000) (q : PS) :
    F_other_code [.int p, .tuple (rows.map ti)] q = .ok (.tuple ((red p n (noughts p n (red p n rows))).map ti)) q := by
  have pos := hp.pos
  have S := red_steps hp h
  have len := fold_len p rows n
  have len2 : (red p n rows).length ≤ 1000 := by unfold red; omega
  have hst := e_stepped hp (b1 := true) (b2 := true) hn h hz hm p0
  rw [show sq true (List.map (fun r => sq true (di r)) rows) = .tuple (rows.map ti) from rfl] at hst
  obtain ⟨r0, rest, rfl⟩ := List.exists_cons_of_ne_nil hn
  have hl0 := (h r0 (List.mem_cons_self ..)).1
  have hd0 : (di r0).length = n := by simpa using hl0
  have lf : ∀ k, k ≤ n → ((List.range k).filter (fun k => decide (k ∉ (red p n (r0 :: rest)).map hd))).length ≤ n := fun k hk => by
    have := List.length_filter_le (fun k => decide (k ∉ (red p n (r0 :: rest)).map hd)) (List.range k)
    simp at this ⊢
    omega
  rw [map_cons'] at hst ⊢
  unfold F_other_code b_other_code
  trivial
  rw [hst]
  generalize hS : red p n (r0 :: rest) = steps at S len2 lf ⊢
  trivial
  rw [hl0]
  rw [compL_mapE (e := ti) PySem.PyData.int (fun r => ((hd r : Nat) : Int)) steps]
  · trivial
    have key : ∃ env', forL (ff (calF cs_other_code) (.nm 9) b_other_code_1) ((List.range n).map fun (k : Nat) => .int (k : Int)) [.va (.int p), .va (.tuple (ti r0 :: rest.map ti)), .va (.tuple (steps.map ti)), .va (.int n), .va (.list (di (steps.map fun r => ((hd r : Nat) : Int)))), .un, .un, .un, .ow (.list []), .un, .un, .un, .un] p0 = .ok (.nx env') p0 ∧
        ∃ s7 s9 s10 s12, env' = [.va (.int p), .va (.tuple (ti r0 :: rest.map ti)), .va (.tuple (steps.map ti)), .va (.int n), .va (.list (di (steps.map fun r => ((hd r : Nat) : Int)))), .un, .un, s7, .ow (.list ((((List.range n).filter (fun k => decide (k ∉ steps.map hd))).map (noughtRow p n steps)).map li)), s9, s10, .un, s12] := by
      refine forL_range (Inv := fun k env => ∃ s7 s9 s10 s12, env = [.va (.int p), .va (.tuple (ti r0 :: rest.map ti)), .va (.tuple (steps.map ti)), .va (.int n), .va (.list (di (steps.map fun r => ((hd r : Nat) : Int)))), .un, .un, s7, .ow (.list ((((List.range k).filter (fun k => decide (k ∉ steps.map hd))).map (noughtRow p n steps)).map li)), s9, s10, .un, s12]) n _ _ (fun k hk env p1 hi => ?_) ⟨.un, .un, .un, .un, rfl⟩
      obtain ⟨s7, s9, s10, s12, rfl⟩ := hi
      have mh : (k : Int) ∈ (steps.map fun r => ((hd r : Nat) : Int)) ↔ k ∈ steps.map hd := decide_eq_decide.mp mem_heads
      have lfk := lf k (by omega)
      rw [List.range_succ, List.filter_append, List.filter_cons, List.filter_nil]
      unfold b_other_code_1
      trivial
      by_cases e : k ∈ steps.map hd
      · rw [if_neg (not_not_intro (mh.mpr e)), if_neg (by simpa using e), List.append_nil]
        trivial
        exact ⟨_, rfl, _, _, _, _, rfl⟩
      · rw [if_pos (fun z => e (mh.mp z)), if_pos (by simpa using e), List.map_append, List.map_append]
        generalize hZ : ((List.range k).filter (fun k => decide (k ∉ steps.map hd))).map (noughtRow p n steps) = zs
        have hzl : zs.length ≤ n := by rw [← hZ, List.length_map]; exact lfk
        have inner : ∃ env', forL (ff (calF cs_other_code) (.tp [.nm 12, .nm 7]) b_other_code_3) (steps.map fun r => PySem.PyData.tuple [.int ((hd r : Nat) : Int), ti r]) [.va (.int p), .va (.tuple (ti r0 :: rest.map ti)), .va (.tuple (steps.map ti)), .va (.int n), .va (.list (di (steps.map fun r => ((hd r : Nat) : Int)))), .un, .un, s7, .ow (.list (zs.map li)), .va (.int (k : Int)), .ow (li (unitRow n k)), .un, s12] p1 = .ok (.nx env') p1 ∧
            ∃ s7 s12, env' = [.va (.int p), .va (.tuple (ti r0 :: rest.map ti)), .va (.tuple (steps.map ti)), .va (.int n), .va (.list (di (steps.map fun r => ((hd r : Nat) : Int)))), .un, .un, s7, .ow (.list (zs.map li)), .va (.int (k : Int)), .ow (li (noughtRow p n steps k)), .un, s12] := by
          refine forL_list (Inv := fun ws env => ∃ s7 s12, env = [.va (.int p), .va (.tuple (ti r0 :: rest.map ti)), .va (.tuple (steps.map ti)), .va (.int n), .va (.list (di (steps.map fun r => ((hd r : Nat) : Int)))), .un, .un, s7, .ow (.list (zs.map li)), .va (.int (k : Int)), .ow (li (ws.foldl (fun own row => own.set (hd row) (-(at0 row k) % p)) (unitRow n k))), .un, s12]) steps steps [] _ _ rfl (fun ws r rest' env p2 hq2 hi => ?_) ⟨s7, s12, rfl⟩
          obtain ⟨s7, s12, rfl⟩ := hi
          have hr : r ∈ steps := by rw [← hq2]; simp
          obtain ⟨⟨hl, hi⟩, hh, _⟩ := S.ok r hr
          have hlen : (ws.foldl (fun own row => own.set (hd row) (-(at0 row k) % p)) (unitRow n k)).length = n := by rw [fold_set_length]; simp [unitRow]
          rw [List.foldl_append, List.foldl_cons, List.foldl_nil]
          generalize ws.foldl (fun own row => own.set (hd row) (-(at0 row k) % p)) (unitRow n k) = own at hlen ⊢
          unfold b_other_code_3
          trivial
          exact ⟨_, rfl, _, _, rfl⟩
        unfold b_other_code_2
        trivial
        rw [compL_mapE (e := fun k : Nat => PySem.PyData.int (k : Int)) PySem.PyData.int (fun i : Nat => if i = k then (1 : Int) else 0) (List.range n)]
        · have hul : (unitRow n k).length = n := by simp [unitRow]
          rw [unit_range hk]
          trivial
          rw [zip_self', List.map_map]
          obtain ⟨env', e, t7, t12, rfl⟩ := inner
          rw [show (fun q : Int × Row => PySem.PyData.tuple [.int q.1, ti q.2]) ∘ (fun r : Row => (((hd r : Nat) : Int), r)) = fun r => PySem.PyData.tuple [.int ((hd r : Nat) : Int), ti r] from rfl, e]
          trivial
          rw [m_append (by simp; omega)]
          trivial
          exact ⟨_, rfl, _, _, _, _, rfl⟩
        · intro i hi p3
          trivial
          by_cases e : i = k
          · simp [e]
          · simp [e, show ¬ (i : Int) = k by omega]
    obtain ⟨env', e, s7, s9, s10, s12, rfl⟩ := key
    rw [e]
    have okn : ∀ r ∈ noughts p n steps, RowOk p n r := fun r hr => by
      obtain ⟨f, _, rfl⟩ := List.mem_map.mp hr
      exact noughtRow_ok hp.ge n _ f
    rw [show ((List.range n).filter (fun k => decide (k ∉ steps.map hd))).map (noughtRow p n steps) = noughts p n steps from rfl]
    trivial
    by_cases en : noughts p n steps = []
    · rw [en, red_nil]
      trivial
    · have hln : (noughts p n steps).length ≤ 1000 := by
        have := lf n (Nat.le_refl _)
        simp only [noughts, frees, List.length_map]
        omega
      have hc := e_stepped hp (b1 := false) (b2 := false) en okn hz hln p0
      obtain ⟨x, y, en2⟩ := List.exists_cons_of_ne_nil en
      rw [if_pos (by rw [en2]; rfl), show PySem.PyData.list (List.map li (noughts p n steps)) = sq false ((noughts p n steps).map fun r => sq false (di r)) from rfl, hc]
      trivial
  · intro r hr p2
    trivial
    rw [compL_filE (e := fun q : Int × Nat => PySem.PyData.tuple [.int (q.2 : Int), .int q.1]) (fun q => q.1 != 0) PySem.PyData.int (fun q => (q.2 : Int)) (r.zipIdx 0)]
    · obtain ⟨x, rest, e⟩ := hd_ix r 0 (by rw [(S.ok r hr).2.2]; decide)
      have lf : ((r.zipIdx 0).filter (fun q => q.1 != 0)).length ≤ r.length := by
        have := List.length_filter_le (fun q : Int × Nat => q.1 != 0) (r.zipIdx 0)
        simpa using this
      have hl := (S.ok r hr).1.1
      rw [e] at lf ⊢
      rw [List.length_cons] at lf
      trivial
      rw [Nat.zero_add]
    · intro q hq p3
      trivial
      by_cases e : q.1 = 0 <;> simp [e]
theorem e_checks_of {p : Int} (hp : Pr p) {a b : Nat} {ps : List (Row × Row)} (h : ProdOk p a b ps) (ha : 0 < a ∧ a ≤ 9) (hb : 0 < b ∧ b ≤ 9) (hz : ps.length ≤ 1000) (hne : red p ps.length (prodRows p a b ps) ≠ []) (q : PS) :
    F_checks_of [.int p, .tuple [.int a, .int b], .tuple (ps.map pr)] q = .ok (.tuple ((red p ps.length (noughts p ps.length (red p ps.length (red p ps.length (prodRows p a b ps))))).map ti)) q := by
  have ok := prodRows_ok hp.pos a b ps
  have hl : (prodRows p a b ps).length ≤ 81 := by
    rw [prodRows_len]
    exact Nat.mul_le_mul ha.2 hb.2
  have len := fold_len p (prodRows p a b ps) ps.length
  have len2 : (red p ps.length (prodRows p a b ps)).length ≤ 81 := by unfold red; omega
  unfold F_checks_of b_checks_of
  trivial
  rw [e_product_code hp h ha hb hz]
  trivial
  rw [e_other_code hp hne (fun r hr => (red_ok hp ok r hr).1) hz (by omega)]
  trivial
end K76
namespace K76
open Ev
local macro_rules | `(tactic| trivial) => `(tactic| try simp (disch := (first | omega | (with_reducible assumption) | (simp only [List.length_map, List.length_append, List.length_cons, List.length_nil, List.length_zip, List.length_range, List.length_replicate, di]; omega))) only [v_var0, v_var1, v_glc, v_lit, v_dct0, kCons2_ok, kCons2F_ap, kCons_ok, kConsF_ap, v_nil, v_cons, kTupF_ap, kTup_ok, kLstF_ap, kLst_ok, v_tup, v_lst, kBin2_ok, kBin2F_ap, kBin_ok, kBinF_ap, v_bin, kNeg_ok, kNegF_ap, v_neg, kNot_ok, kNotF_ap, v_not, kBop2_ok, kBop2F_ap, kBopF_1, kBopF_2, kBop_1, kBop_2, v_bop, v_bops, kIfe2_ok, kIfe2F_ap, kIfe_ok, kIfeF_ap, v_ife, kCmp2_ok, kCmp2F_ap, kCmp_ok, kCmpF_ap, v_cmp, kChn3_ok, kChn3F_ap, kChn2_ok, kChn2F_ap, kChn_ok, kChnF_ap, v_chn, kIsn_ok, kIsnF_ap, v_isn, kMem2_ok, kMem2F_ap, kMem_ok, kMemF_ap, v_mem, kIx2_ok, kIx2F_ap, kIx_ok, kIxF_ap, v_ix, kO2_ok, kO2F_ap, kO_ok, kOF_ap, v_O0, v_O1, kSl3_ok, kSl3F_ap, kSl2_ok, kSl2F_ap, kSl_ok, kSlF_ap, v_sl, kRev_ok, kRevF_ap, v_rev, kCal3_ok, kCal3F_ap, kCal2_ok, kCal2F_ap, kCal_ok, kCalF_ap, v_cal, kBi_ok, kBiF_ap, v_bi, kIsi_ok, kIsiF_ap, v_isi, kGet3_ok, kGet3F_ap, kGet2_ok, kGet2F_ap, kGet_ok, kGetF_ap, v_get, kCf3_ok, kCf3F_ap, kCfc3_ok, kCfc3F_ap, kCfc2_ok, kCfc2F_ap, kCf_0, kCf_1, v_cf, kLc3F_ap, kLc3_ok, kLc2_ok, kLc2F_ap, kLc_ok, kLcF_ap, v_lc, kSeqF_rt, kSeqF_br, kSeqF_ct, kSeqF_nx, kSeq_nx, kSeq_rt, kSeq_br, kSeq_ct, x_nil, x_cons, kAsg2_ok, kAsg2F_ap, kAsg_ok, kAsgF_ap, x_asg, kAsT_ok, kAsTF_ap, x_asT, kPar_ok, kParF_ap, x_par, kStx4_ok, kStx4F_ap, kStx3_ok, kStx3F_ap, kStx2_ok, kStx2F_ap, kStx_ok, kStxF_ap, x_stx, kMut3_ok, kMut3F_ap, kMut2_ok, kMut2F_ap, kMut_ok, kMutF_ap, x_mut, kMutA3_ok, kMutA3F_ap, kMutA2_ok, kMutA2F_ap, kMutA_ok, kMutAF_ap, x_mutA, kExp_ok, kExpF_ap, x_exp, kIfs2_ok, kIfs2F_ap, kIfs_ok, kIfsF_ap, x_ifs, kFf_ok, kFfF_ap, v_ff, kFor2_ok, kFor2F_ap, kFor_ok, kForF_ap, x_frs, kWc_ok, kWcF_ap, v_wc, v_wb, x_whl, kRtn_ok, kRtnF_ap, x_rtn, x_rtnN, x_pas, x_brk, x_cnt, kRunN_nx, kRunN_rt, v_runN, kRunPF_nx, kRunPF_rt, kRunP_nx, kRunP_rt, v_runP, isD_int_none, isD_int_bool, isD_int_int, isD_int_str, isD_int_list, isD_int_tuple, isD_int_dict, isD_bool_none, isD_bool_bool, isD_bool_int, isD_bool_str, isD_bool_list, isD_bool_tuple, isD_bool_dict, isD_tuple_none, isD_tuple_bool, isD_tuple_int, isD_tuple_str, isD_tuple_list, isD_tuple_tuple, isD_tuple_dict, isD_list_none, isD_list_bool, isD_list_int, isD_list_str, isD_list_list, isD_list_tuple, isD_list_dict, isD_str_none, isD_str_bool, isD_str_int, isD_str_str, isD_str_list, isD_str_tuple, isD_str_dict, isD_dict_none, isD_dict_bool, isD_dict_int, isD_dict_str, isD_dict_list, isD_dict_tuple, isD_dict_dict, isN_none, isN_bool, isN_int, isN_str, isN_list, isN_tuple, isN_dict, Wb_ap, g__law_of, g_undoing, g_stepped, g_plain_code, g_other_code, g_is_row, g_first_item, g_is_pair, g_products_error, g_products_of, g_sum_by, g_values_at, g_product_code, g_checks_of, g__law_one, g__law_is_number, g__law_flat, g__law_spliced, g__law_bent, g__law_power, g__law_drawn_row, g__law_is_row, g__law_is_headed, g__law_plain_triple, g__law_less, g__law_reduced, g__law_plain_code, g__law_nought_rows, g__law_products, g__law_cells, g__law_values, g__law_fault, g__law_is_code_right, freeze_nil, freeze_cons, fz10, fz1S, fz_ow, fz_va, fz_un, wipe_nil, wipe_cons, wipe10, wipe1S, List.map_cons, List.map_nil, List.length_cons, List.length_nil, List.replicate_succ, List.replicate_zero, List.cons_append, List.nil_append, List.append_nil, Nat.reduceAdd, Nat.reduceSub, opt_some, bor0, borO, borS, esc0, escS, ownL0, ownLS, ownV0, ownVS, set0, setS, setV0, setVS, asg_nm, asg_tp, asgs0, asgsS, asgF_f, asgF_l, asgF_d, parF0, parFS, bind_some, map_some', s_add, s_sub, s_mul, s_mul', s_mod, s_fdiv, s_addT, s_addL, s_mulT, s_mulL, t_int, t_bool, t_none, t_list, t_tuple, s_len, s_lenT, s_tuple, s_tupleT, s_list, s_listT, s_int, s_intB, s_abs, s_sum, s_ixL, s_ixT, s_slL, s_slT, s_revL, s_revT, s_intOf, i_seqL, i_seqT, i_rng1, i_rng2, i_zip, i_enum, s_seqL, s_seqT, c_eq, c_ne, c_lt, c_le, c_gt, c_ge, calm_ok, calF_0, calF_S, pick0, pickS, get0, getS, zipL_map, enumL_map, rngL_nat, if_true, if_false, ite_true, ite_false, reduceIte, Bool.not_true, Bool.not_false, Bool.false_eq_true, at_zero, at_one, decide_eq_true_eq, Bool.not_eq_true', List.isEmpty_nil, List.isEmpty_cons, decide_eq_false_iff_not, i_sq, s_lsq, s_tsq, s_lensq, s_ixsq, s_seqsq, c_neR, c_neI, Bool.false_bne, c_neD0, lenOk_l, wp_okD, c_ne_0, c_ne_1, c_ne_2, c_eq_0, Option.toList_some, Option.toList_none, decide_true, decide_false, List.head?_nil, List.head?_cons, Int.cast_ofNat_Int, Int.reduceEq, Int.reduceLT, Int.reduceLE, Int.reduceAdd, Int.reduceSub, Int.reduceMul, Int.reduceNeg, eq_self, s_anyT, List.length_map, not_true_eq_false, not_false_eq_true, Bool.true_eq_false, Bool.true_bne, at_row, c_neT, memD_di, set_di, mul_zero, m_remove, map_same, List.map_id_fun', id_eq, List.map_id])
local macro_rules | `(tactic| infer_instance) => `(tactic| try simp only [kCons2, kCons, kTup, kLst, kBin2, kBin, kNeg, kNot, kBop2, kBop, kIfe2, kIfe, kCmp2, kCmp, kChn3, kChn2, kChn, kIsn, kMem2, kMem, kIx2, kIx, kO2, kO, kSl3, kSl2, kSl, kRev, kCal3, kCal2, kCal, kBi, kIsi, kGet3, kGet2, kGet, kCf3, kCfc3, kCfc2, kCf, kLc3, kLc2, kLc, kSeq, kAsg2, kAsg, kAsT, kPar, kStx4, kStx3, kStx2, kStx, kMut3, kMut2, kMut, kMutA3, kMutA2, kMutA, kExp, kIfs2, kIfs, kFf, kFor2, kFor, kWc, kRtn, kRunP, wp_bindW])
theorem e_products_of {ps : List (Row × Row)} {w : Row × Row → D} (hz : ps.length ≤ 1000) (q : PS) :
    F_products_of [.tuple (ps.map fun q => .tuple [ti q.1, ti q.2, w q])] q = .ok (.tuple (ps.map pr)) q := by
  unfold F_products_of b_products_of
  trivial
  rw [compL_map (g := pr)]
  · trivial
  · intro q hq p2
    trivial
/-- what is shown of two alike -/
theorem ok_two {n k : Nat} {d : D} (h : Ok n k d) : Ok (2 * (n + 2) + 2) (k + 1) (.list [d, d]) := Ok.list (m := 2) (fun x hx => by
  rcases List.mem_cons.mp hx with e | e
  · rw [e]; exact h
  · rcases List.mem_cons.mp e with e | e
    · rw [e]; exact h
    · cases e) (by simp)
theorem ok_rows {p : Int} (hp : p ≤ 7) {n m : Nat} {rows : List Row} (h : ∀ r ∈ rows, RowOk p n r) (hm : rows.length ≤ m) : Ok (m * (n * 12 + 5) + 3) 2 (.tuple (rows.map ti)) := Ok.tuple (fun x hx => by
  obtain ⟨r, hr, rfl⟩ := List.mem_map.mp hx
  exact Ok.rowT (inP_small (by omega) (h r hr).2) (Nat.le_of_eq (h r hr).1)) (by simpa using hm)
theorem e_code_right {p : Int} (hp : Pr p) {a b : Nat} {ps : List (Row × Row)} (h : ProdOk p a b ps) (ha : 0 < a ∧ a ≤ 9) (hb : 0 < b ∧ b ≤ 9) (hz : ps.length ≤ 30) {x y : Row} (hx : InP p x) (hy : InP p y) (hne : red p ps.length (prodRows p a b ps) ≠ []) (q : PS) :
    F__law_is_code_right [.int p, .tuple [.int a, .int b], .tuple (ps.map pr), ti (prodVals p ps x y)] q = .ok (.bool true) q := by
  have pos := hp.pos
  have ple := hp.le
  have ok := prodRows_ok pos a b ps
  have hl : (prodRows p a b ps).length ≤ 81 := by
    rw [prodRows_len]
    exact Nat.mul_le_mul ha.2 hb.2
  have len := fold_len p (prodRows p a b ps) ps.length
  have len2 : (red p ps.length (prodRows p a b ps)).length ≤ 81 := by unfold red; omega
  have ok2 : ∀ r ∈ red p ps.length (prodRows p a b ps), RowOk p ps.length r := fun r hr => (red_ok hp ok r hr).1
  have ok3 : ∀ r ∈ noughts p ps.length (red p ps.length (red p ps.length (prodRows p a b ps))), RowOk p ps.length r := fun r hr => by
    obtain ⟨f, _, rfl⟩ := List.mem_map.mp hr
    exact noughtRow_ok hp.ge _ _ f
  have len3 : (noughts p ps.length (red p ps.length (red p ps.length (prodRows p a b ps)))).length ≤ 30 := by
    have := List.length_filter_le (fun k => decide (k ∉ (red p ps.length (red p ps.length (prodRows p a b ps))).map hd)) (List.range ps.length)
    simp only [noughts, frees, List.length_map]
    simp at this ⊢
    omega
  have len4 := fold_len p (noughts p ps.length (red p ps.length (red p ps.length (prodRows p a b ps)))) ps.length
  have len5 : (red p ps.length (noughts p ps.length (red p ps.length (red p ps.length (prodRows p a b ps))))).length ≤ 30 := by
    show ((List.range ps.length).foldl (stepR p) _).2.length ≤ 30
    omega
  have orth : ∀ c ∈ red p ps.length (noughts p ps.length (red p ps.length (red p ps.length (prodRows p a b ps)))), dot c (prodVals p ps x y) % p = 0 := fun c hc => by
    refine Int.emod_eq_zero_of_dvd (checks_orth hp ok2 (w := prodVals p ps x y) (fun z hz => ?_) c hc)
    refine vals_orth (a := a) (b := b) (fun q hq => ⟨Nat.le_of_eq (h q hq).1.1, Nat.le_of_eq (h q hq).2.1⟩) fun i hi j hj => ?_
    refine (red_orth hp ok z).mp hz _ ?_
    exact List.mem_flatMap.mpr ⟨i, List.mem_range.mpr hi, List.mem_map.mpr ⟨j, List.mem_range.mpr hj, rfl⟩⟩
  have okC := ok_two (ok_rows ple ok2 len2)
  have okD := ok_two (ok_rows ple (fun r hr => (red_ok hp ok3 r hr).1) len5)
  have c1 := e_product_code hp h ha hb (by omega) p0
  have c2 := e_checks_of hp h ha hb (by omega) hne p0
  have c3 := e_nought hp ok2 (by omega) (by omega) p0
  have c4 := e_lplain_code hp (b1 := false) (b2 := true) ok (by omega) (by omega) p0
  rw [show sq false (List.map (fun r => sq true (di r)) (prodRows p a b ps)) = .list ((prodRows p a b ps).map ti) from rfl] at c4
  unfold F__law_is_code_right b__law_is_code_right
  trivial
  rw [e_cells (by omega) (by omega)]
  trivial
  rw [cells_map, compL_mapE (e := cellD) ti (fun q : Nat × Nat => prodRow p ps q.1 q.2) (cellsN a b), cells_rows]
  · trivial
    rw [c4]
    trivial
    rw [c1]
    trivial
    rw [c1]
    trivial
    rw [s_reprL okC (by decide) (by omega)]
    trivial
    rw [s_reprL okC (by decide) (by omega)]
    trivial
    rw [c_neS okC.txt okC.txt]
    trivial
    rw [c3]
    trivial
    rw [c2]
    trivial
    rw [c2]
    trivial
    rw [s_reprL okD (by decide) (by omega)]
    trivial
    rw [s_reprL okD (by decide) (by omega)]
    trivial
    rw [c_neS okD.txt okD.txt]
    trivial
    rw [compL_filE (e := ti) (fun c => decide (dot c (prodVals p ps x y) % p ≠ 0)) ti (fun c => c), filter_none (fun c hc => by simp [orth c hc])]
    · trivial
    · intro c hc p3
      obtain ⟨okl, okc⟩ := (red_ok hp ok3 c hc).1
      trivial
      rw [compL_mapE PySem.PyData.int (fun q : Int × Int => q.1 * q.2) (c.zip (prodVals p ps x y))]
      · trivial
        rw [map_zip', show (List.zipWith (fun x y => (x, y).fst * (x, y).snd) c (prodVals p ps x y)).sum = dot c (prodVals p ps x y) from rfl]
        by_cases e : dot c (prodVals p ps x y) % p = 0 <;> simp only [e, ne_eq, not_true_eq_false, not_false_eq_true, decide_true, decide_false, if_true, if_false, Bool.false_eq_true]
      · intro z hz p4
        have := okc z.1 (List.of_mem_zip hz).1
        trivial
  · intro q hq p2
    obtain ⟨q1, q2⟩ := mem_cells hq
    trivial
    rw [compL_mapE (e := pr) PySem.PyData.int (fun z => at0 z.1 q.1 * at0 z.2 q.2 % p) ps]
    · trivial
      rfl
    · intro z hz p3
      obtain ⟨⟨l1, i1⟩, l2, i2⟩ := h z hz
      have b1 := at0_in pos i1 q.1
      trivial
end K76
namespace K76
open Ev PySem
local macro_rules | `(tactic| trivial) => `(tactic| try simp (disch := (first | omega | (with_reducible assumption) | (simp only [List.length_map, List.length_append, List.length_cons, List.length_nil, List.length_zip, List.length_range, List.length_replicate, di]; omega))) only [v_var0, v_var1, v_glc, v_lit, v_dct0, kCons2_ok, kCons2F_ap, kCons_ok, kConsF_ap, v_nil, v_cons, kTupF_ap, kTup_ok, kLstF_ap, kLst_ok, v_tup, v_lst, kBin2_ok, kBin2F_ap, kBin_ok, kBinF_ap, v_bin, kNeg_ok, kNegF_ap, v_neg, kNot_ok, kNotF_ap, v_not, kBop2_ok, kBop2F_ap, kBopF_1, kBopF_2, kBop_1, kBop_2, v_bop, v_bops, kIfe2_ok, kIfe2F_ap, kIfe_ok, kIfeF_ap, v_ife, kCmp2_ok, kCmp2F_ap, kCmp_ok, kCmpF_ap, v_cmp, kChn3_ok, kChn3F_ap, kChn2_ok, kChn2F_ap, kChn_ok, kChnF_ap, v_chn, kIsn_ok, kIsnF_ap, v_isn, kMem2_ok, kMem2F_ap, kMem_ok, kMemF_ap, v_mem, kIx2_ok, kIx2F_ap, kIx_ok, kIxF_ap, v_ix, kO2_ok, kO2F_ap, kO_ok, kOF_ap, v_O0, v_O1, kSl3_ok, kSl3F_ap, kSl2_ok, kSl2F_ap, kSl_ok, kSlF_ap, v_sl, kRev_ok, kRevF_ap, v_rev, kCal3_ok, kCal3F_ap, kCal2_ok, kCal2F_ap, kCal_ok, kCalF_ap, v_cal, kBi_ok, kBiF_ap, v_bi, kIsi_ok, kIsiF_ap, v_isi, kGet3_ok, kGet3F_ap, kGet2_ok, kGet2F_ap, kGet_ok, kGetF_ap, v_get, kCf3_ok, kCf3F_ap, kCfc3_ok, kCfc3F_ap, kCfc2_ok, kCfc2F_ap, kCf_0, kCf_1, v_cf, kLc3F_ap, kLc3_ok, kLc2_ok, kLc2F_ap, kLc_ok, kLcF_ap, v_lc, kSeqF_rt, kSeqF_br, kSeqF_ct, kSeqF_nx, kSeq_nx, kSeq_rt, kSeq_br, kSeq_ct, x_nil, x_cons, kAsg2_ok, kAsg2F_ap, kAsg_ok, kAsgF_ap, x_asg, kAsT_ok, kAsTF_ap, x_asT, kPar_ok, kParF_ap, x_par, kStx4_ok, kStx4F_ap, kStx3_ok, kStx3F_ap, kStx2_ok, kStx2F_ap, kStx_ok, kStxF_ap, x_stx, kMut3_ok, kMut3F_ap, kMut2_ok, kMut2F_ap, kMut_ok, kMutF_ap, x_mut, kMutA3_ok, kMutA3F_ap, kMutA2_ok, kMutA2F_ap, kMutA_ok, kMutAF_ap, x_mutA, kExp_ok, kExpF_ap, x_exp, kIfs2_ok, kIfs2F_ap, kIfs_ok, kIfsF_ap, x_ifs, kFf_ok, kFfF_ap, v_ff, kFor2_ok, kFor2F_ap, kFor_ok, kForF_ap, x_frs, kWc_ok, kWcF_ap, v_wc, v_wb, x_whl, kRtn_ok, kRtnF_ap, x_rtn, x_rtnN, x_pas, x_brk, x_cnt, kRunN_nx, kRunN_rt, v_runN, kRunPF_nx, kRunPF_rt, kRunP_nx, kRunP_rt, v_runP, isD_int_none, isD_int_bool, isD_int_int, isD_int_str, isD_int_list, isD_int_tuple, isD_int_dict, isD_bool_none, isD_bool_bool, isD_bool_int, isD_bool_str, isD_bool_list, isD_bool_tuple, isD_bool_dict, isD_tuple_none, isD_tuple_bool, isD_tuple_int, isD_tuple_str, isD_tuple_list, isD_tuple_tuple, isD_tuple_dict, isD_list_none, isD_list_bool, isD_list_int, isD_list_str, isD_list_list, isD_list_tuple, isD_list_dict, isD_str_none, isD_str_bool, isD_str_int, isD_str_str, isD_str_list, isD_str_tuple, isD_str_dict, isD_dict_none, isD_dict_bool, isD_dict_int, isD_dict_str, isD_dict_list, isD_dict_tuple, isD_dict_dict, isN_none, isN_bool, isN_int, isN_str, isN_list, isN_tuple, isN_dict, Wb_ap, g__law_of, g_undoing, g_stepped, g_plain_code, g_other_code, g_is_row, g_first_item, g_is_pair, g_products_error, g_products_of, g_sum_by, g_values_at, g_product_code, g_checks_of, g__law_one, g__law_is_number, g__law_flat, g__law_spliced, g__law_bent, g__law_power, g__law_drawn_row, g__law_is_row, g__law_is_headed, g__law_plain_triple, g__law_less, g__law_reduced, g__law_plain_code, g__law_nought_rows, g__law_products, g__law_cells, g__law_values, g__law_fault, g__law_is_code_right, freeze_nil, freeze_cons, fz10, fz1S, fz_ow, fz_va, fz_un, wipe_nil, wipe_cons, wipe10, wipe1S, List.map_cons, List.map_nil, List.length_cons, List.length_nil, List.replicate_succ, List.replicate_zero, List.cons_append, List.nil_append, List.append_nil, Nat.reduceAdd, Nat.reduceSub, opt_some, bor0, borO, borS, esc0, escS, ownL0, ownLS, ownV0, ownVS, set0, setS, setV0, setVS, asg_nm, asg_tp, asgs0, asgsS, asgF_f, asgF_l, asgF_d, parF0, parFS, bind_some, map_some', s_add, s_sub, s_mul, s_mul', s_mod, s_fdiv, s_addT, s_addL, s_mulT, s_mulL, t_int, t_bool, t_none, t_list, t_tuple, s_len, s_lenT, s_tuple, s_tupleT, s_list, s_listT, s_int, s_intB, s_abs, s_sum, s_ixL, s_ixT, s_slL, s_slT, s_revL, s_revT, s_intOf, i_seqL, i_seqT, i_rng1, i_rng2, i_zip, i_enum, s_seqL, s_seqT, c_eq, c_ne, c_lt, c_le, c_gt, c_ge, calm_ok, calF_0, calF_S, pick0, pickS, get0, getS, zipL_map, enumL_map, rngL_nat, if_true, if_false, ite_true, ite_false, reduceIte, Bool.not_true, Bool.not_false, Bool.false_eq_true, at_zero, at_one, decide_eq_true_eq, Bool.not_eq_true', List.isEmpty_nil, List.isEmpty_cons, decide_eq_false_iff_not, i_sq, s_lsq, s_tsq, s_lensq, s_ixsq, s_seqsq, c_neR, c_neI, Bool.false_bne, c_neD0, lenOk_l, wp_okD, c_ne_0, c_ne_1, c_ne_2, c_eq_0, Option.toList_some, Option.toList_none, decide_true, decide_false, List.head?_nil, List.head?_cons, Int.cast_ofNat_Int, Int.reduceEq, Int.reduceLT, Int.reduceLE, Int.reduceAdd, Int.reduceSub, Int.reduceMul, Int.reduceNeg, eq_self, s_anyT, List.length_map, not_true_eq_false, not_false_eq_true, Bool.true_eq_false, Bool.true_bne, at_row, c_neT, memD_di, set_di, mul_zero, m_remove, map_same, List.map_id_fun', id_eq, List.map_id])
local macro_rules | `(tactic| infer_instance) => `(tactic| try simp only [kCons2, kCons, kTup, kLst, kBin2, kBin, kNeg, kNot, kBop2, kBop, kIfe2, kIfe, kCmp2, kCmp, kChn3, kChn2, kChn, kIsn, kMem2, kMem, kIx2, kIx, kO2, kO, kSl3, kSl2, kSl, kRev, kCal3, kCal2, kCal, kBi, kIsi, kGet3, kGet2, kGet, kCf3, kCfc3, kCfc2, kCf, kLc3, kLc2, kLc, kSeq, kAsg2, kAsg, kAsT, kPar, kStx4, kStx3, kStx2, kStx, kMut3, kMut2, kMut, kMutA3, kMutA2, kMutA, kExp, kIfs2, kIfs, kFf, kFor2, kFor, kWc, kRtn, kRunP, wp_bindW])
/-- a row of a product's side, as the package looks -/
def rowB (p : Int) (n : Nat) : D → Bool
  | .tuple xs => decide (xs.length = n) && (xs.all (inR 0 (p - 1)) && (xs.map toI).any (· != 0))
  | _ => false
theorem inR_int {lo hi : Int} {xs : List D} (h : xs.all (inR lo hi) = true) : xs.all (isD .int) = true := by
  obtain ⟨r, rfl, _⟩ := ints_of h
  rw [List.all_map]
  simp [isD]
theorem e_is_row {p : Int} {n : Nat} (hp : p ≤ 1000) (hn : n ≤ 1000) {d : D} (q : PS) : F_is_row [.int p, .int n, d] q = .ok (.bool (rowB p n d)) q := by
  unfold F_is_row b_is_row
  cases d with
  | tuple xs =>
    trivial
    rw [nat_dec]
    by_cases hl : xs.length = n
    · have hx : xs.length ≤ 1000 := by omega
      rw [decide_eq_true hl, Bool.not_true, if_pos rfl]
      rw [compL_mapD (g := fun x => .bool (isD .int x))]
      · trivial
        rw [s_allB]
        trivial
        by_cases hi : xs.all (isD .int) = true
        · rw [hi]
          trivial
          rw [compL_mapD (g := fun x => .bool (inR 0 (p - 1) x))]
          · trivial
            rw [s_allB]
            trivial
            by_cases ha : xs.all (inR 0 (p - 1)) = true
            · obtain ⟨r, rfl, hr⟩ := ints_of ha
              rw [ha]
              trivial
              rw [rowB, decide_eq_true hl, ha, toI_di]
              rfl
            · rw [Bool.not_eq_true] at ha
              rw [ha]
              trivial
              rw [rowB, decide_eq_true hl, ha]
              rfl
          · intro x hx p2
            have hxi := List.all_eq_true.mp hi x hx
            cases x with
            | int i =>
              trivial
              have e : inR 0 (p - 1) (.int i) = (decide (0 ≤ i) && decide (i < p)) := by
                have : decide (i ≤ p - 1) = decide (i < p) := decide_eq_decide.mpr (by omega)
                simp only [inR, this]
              rw [e]
              by_cases h0 : 0 ≤ i
              · rw [if_pos h0, decide_eq_true h0]
                trivial
                rfl
              · rw [if_neg h0, decide_eq_false h0]
                trivial
                rfl
            | bool b => trivial; rfl
            | _ => cases hxi
        · have ha : xs.all (inR 0 (p - 1)) = false := by
            rw [← Bool.not_eq_true]
            exact fun z => hi (inR_int z)
          rw [Bool.not_eq_true] at hi
          rw [hi]
          trivial
          rw [rowB, decide_eq_true hl, ha]
          rfl
      · intro x hx p2
        trivial
    · rw [decide_eq_false hl]
      trivial
      rw [rowB, decide_eq_false hl]
      rfl
  | _ =>
    trivial
    rfl
theorem e_first_item {r : Row} (hz : r.length ≤ 1000) {x : Int} {rest : Row} (h : r.filter (· != 0) = x :: rest) (q : PS) : F_first_item [ti r] q = .ok (.int x) q := by
  have lf := List.length_filter_le (· != 0) r
  unfold F_first_item b_first_item
  trivial
  rw [compL_filE (fun x => x != 0) PyData.int (fun x => x) r, h]
  · rw [h, List.length_cons] at lf
    trivial
  · intro i hi p2
    trivial
    by_cases e : i = 0 <;> simp [e]
theorem rowB_of {p : Int} {n : Nat} {d : D} (h : rowB p n d = true) : ∃ r, d = ti r ∧ RowOk p n r ∧ r.any (· != 0) = true := by
  cases d with
  | tuple xs =>
    simp only [rowB, Bool.and_eq_true, decide_eq_true_eq] at h
    obtain ⟨h1, h2, h3⟩ := h
    obtain ⟨r, rfl, hr⟩ := ints_of h2
    rw [toI_di] at h3
    exact ⟨r, rfl, ⟨by simpa using h1, fun x hx => by have := hr x hx; omega⟩, h3⟩
  | _ => cases h
theorem hrow_ti {p : Int} {n : Nat} {r : Row} (h : RowOk p n r) : hrow p n (ti r) = headed r := by
  have e := ints_all (lo := 0) (hi := p - 1) (r := r) fun x hx => by have := h.2 x hx; omega
  simp only [hrow, e, toI_di]
  simp [h.1]
theorem rowB_hrow {p : Int} {n : Nat} {d : D} (h : rowB p n d = false) : hrow p n d = false := by
  cases d with
  | tuple xs =>
    cases e : hrow p n (.tuple xs) with
    | false => rfl
    | true =>
      have e2 := e
      simp only [hrow, Bool.and_eq_true, decide_eq_true_eq] at e2
      simp only [rowB, e2.1, e2.2.1, headed_any e2.2.2] at h
      cases h
  | _ => rfl
theorem e_is_pair {p : Int} {a b : Nat} (hp : p ≤ 1000) (ha : a ≤ 1000) (hb : b ≤ 1000) {d : D} (q : PS) : F_is_pair [.int p, .tuple [.int a, .int b], d] q = .ok (.bool (pairB p a b d)) q := by
  unfold F_is_pair b_is_pair
  cases d with
  | tuple xs =>
    trivial
    match xs with
    | [] => rfl
    | [x] => rfl
    | [u, v] =>
      trivial
      rw [e_is_row hp ha]
      trivial
      cases hu : rowB p a u with
      | false =>
        trivial
        rw [pairB, rowB_hrow hu]
        rfl
      | true =>
        trivial
        rw [e_is_row hp hb]
        trivial
        cases hv : rowB p b v with
        | false =>
          trivial
          rw [pairB, rowB_hrow hv, Bool.and_false]
        | true =>
          obtain ⟨r, rfl, hr, ar⟩ := rowB_of hu
          obtain ⟨s, rfl, hs, as⟩ := rowB_of hv
          obtain ⟨x, r1, er⟩ := first_of_any ar
          obtain ⟨y, s1, es⟩ := first_of_any as
          have er2 : headed r = (x == 1) := by unfold headed; rw [er]
          have es2 : headed s = (y == 1) := by unfold headed; rw [es]
          trivial
          rw [e_first_item (by rw [hr.1]; exact ha) er]
          trivial
          rw [pairB, hrow_ti hr, hrow_ti hs, er2, es2]
          by_cases h1 : x = 1
          · subst h1
            trivial
            rw [e_first_item (by rw [hs.1]; exact hb) es]
            trivial
            by_cases h2 : y = 1 <;> simp [h2]
          · rw [if_neg h1]
            trivial
            simp [h1]
    | _ :: _ :: _ :: t =>
      trivial
      rw [if_pos (by omega)]
      trivial
      rfl
  | _ => rfl
theorem e_products_error {p : Int} {a b : Nat} (hp : p ≤ 1000) (ha : a ≤ 1000) (hb : b ≤ 1000) {d : D} (q : PS) : F_products_error [.int p, .tuple [.int a, .int b], d] q = .ok (faultD p a b d) q := by
  unfold F_products_error b_products_error
  cases d with
  | tuple xs =>
    trivial
    have hF : faultD p a b (.tuple xs) = if 1 ≤ xs.length ∧ xs.length ≤ 24 then (match (xs.zipIdx 0).findSome? (pairAt p a b) with
      | some d => d
      | none => match (List.range (xs.length - 1)).find? (leAt xs) with
        | some k => .tuple [.str "order", .int ((k + 1 : Nat) : Int)]
        | none => .none)
      else .str "form" := rfl
    rw [hF]
    by_cases h1 : 1 ≤ xs.length
    · by_cases h2 : xs.length ≤ 24
      · rw [if_pos (show (1 : Int) ≤ xs.length by omega), if_pos (show 1 ≤ xs.length ∧ xs.length ≤ 24 from ⟨h1, h2⟩), decide_eq_true (show (xs.length : Int) ≤ 24 by omega)]
        trivial
        rw [enumL_raw]
        have s1 := forL_search (f := ff (calF cs_products_error) (.tp [.nm 3, .nm 4]) b_products_error_1) (e := fun q : D × Nat => PyData.tuple [.int (q.2 : Int), q.1]) (bad := pairAt p a b) (Inv := fun env => ∃ s3 s4, env = [.va (.int p), .va (.tuple [.int a, .int b]), .va (.tuple xs), s3, s4]) (xs.zipIdx 0) [.va (.int p), .va (.tuple [.int a, .int b]), .va (.tuple xs), .un, .un] p0 (fun x hx env hi => ?_) ⟨.un, .un, rfl⟩
        · cases hf : (xs.zipIdx 0).findSome? (pairAt p a b) with
          | some d =>
            rw [hf] at s1
            rw [s1]
            trivial
          | none =>
            rw [hf] at s1
            obtain ⟨env', e, s3, s4, rfl⟩ := s1
            have all := all_pairs hf
            rw [e]
            trivial
            rw [rngL_one]
            have s2 := forL_search (f := ff (calF cs_products_error) (.nm 3) b_products_error_2) (e := fun k : Nat => PyData.int ((k + 1 : Nat) : Int)) (bad := fun k => if leAt xs k then some (PyData.tuple [.str "order", .int ((k + 1 : Nat) : Int)]) else none) (Inv := fun env => ∃ s3, env = [.va (.int p), .va (.tuple [.int a, .int b]), .va (.tuple xs), s3, s4]) (List.range (xs.length - 1)) [.va (.int p), .va (.tuple [.int a, .int b]), .va (.tuple xs), s3, s4] p0 (fun k hk env hi => ?_) ⟨_, rfl⟩
            · rw [findSome_if] at s2
              cases hf2 : (List.range (xs.length - 1)).find? (leAt xs) with
              | some k =>
                rw [hf2] at s2
                simp only [Option.map_some] at s2
                rw [s2]
                trivial
              | none =>
                rw [hf2] at s2
                simp only [Option.map_none] at s2
                obtain ⟨env', e, t3, rfl⟩ := s2
                rw [e]
                trivial
            · obtain ⟨t3, rfl⟩ := hi
              obtain ⟨x, y, e1, e2, e3⟩ := le_next all (List.mem_range.mp hk)
              unfold b_products_error_2
              cases hl : leAt xs k with
              | true =>
                rw [if_pos rfl]
                trivial
                rw [atI_get e1]
                trivial
                rw [succ_sub, atI_get e2]
                trivial
                rw [e3, hl]
                trivial
              | false =>
                rw [if_neg (by decide)]
                dsimp only
                trivial
                rw [atI_get e1]
                trivial
                rw [succ_sub, atI_get e2]
                trivial
                rw [e3, hl]
                trivial
                exact ⟨_, rfl, _, rfl⟩
        · obtain ⟨s3, s4, rfl⟩ := hi
          unfold b_products_error_1 pairAt
          cases hpb : pairB p a b x.1 with
          | true =>
            rw [if_pos rfl]
            dsimp only
            trivial
            rw [e_is_pair hp ha hb, hpb]
            trivial
            exact ⟨_, rfl, _, _, rfl⟩
          | false =>
            rw [if_neg (by decide)]
            dsimp only
            trivial
            rw [e_is_pair hp ha hb, hpb]
            trivial
      · rw [if_pos (show (1 : Int) ≤ xs.length by omega), if_neg (show ¬ (1 ≤ xs.length ∧ xs.length ≤ 24) from fun z => h2 z.2), decide_eq_false (show ¬ (xs.length : Int) ≤ 24 by omega)]
        trivial
    · rw [if_neg (show ¬ (1 : Int) ≤ xs.length by omega), if_neg (show ¬ (1 ≤ xs.length ∧ xs.length ≤ 24) from fun z => h1 z.1)]
      trivial
  | _ => rfl
theorem e_is_number {lo hi : Int} {d : D} (q : PS) : F__law_is_number [d, .int lo, .int hi] q = .ok (.bool (inR lo hi d)) q := by
  unfold F__law_is_number b__law_is_number
  cases d with
  | int i =>
    trivial
    by_cases h : lo ≤ i
    · rw [if_pos h]
      trivial
      simp [inR, h]
    · rw [if_neg h]
      trivial
      simp [inR, h]
  | _ => rfl
/-- a row, as the law looks -/
def lrow (p : Int) (n : Nat) : D → Bool
  | .tuple xs => decide (xs.length = n) && xs.all (inR 0 (p - 1))
  | _ => false
theorem e_lis_row {p : Int} {n k : Nat} (hn : n ≤ 1000) {d : D} (hd : Lay (k + 1) d) (hk : k ≤ 60) (q : PS) : F__law_is_row [d, .int p, .int n] q = .ok (.bool (lrow p n d)) q := by
  unfold F__law_is_row b__law_is_row
  cases d with
  | tuple xs =>
    have hl := hd.tuple
    trivial
    by_cases e : xs.length = n
    · rw [if_neg (show ¬ ¬ (xs.length : Int) = n by omega)]
      trivial
      have lf := List.length_filter_le (fun x => !inR 0 (p - 1) x) xs
      rw [compL_filD (t := fun x => !inR 0 (p - 1) x) (g := fun x => x)]
      · rw [List.map_id']
        trivial
        rw [c_eqL0 (shaped_lay hk fun x hx => hl x (List.mem_filter.mp hx).1)]
        trivial
        rw [lrow, decide_eq_true e, Bool.true_and, filter_not_empty]
      · intro x hx p2
        trivial
        rw [e_is_number]
        trivial
        cases inR 0 (p - 1) x <;> rfl
    · rw [if_pos (show ¬ (xs.length : Int) = n by omega)]
      trivial
      rw [lrow, decide_eq_false e]
      rfl
  | _ => rfl
theorem e_is_headed {r : Row} (hz : r.length ≤ 1000) (q : PS) : F__law_is_headed [ti r] q = .ok (.bool (headed r)) q := by
  have lf := List.length_filter_le (· != 0) r
  unfold F__law_is_headed b__law_is_headed
  trivial
  rw [compL_filE (fun x => x != 0) PyData.int (fun x => x) r]
  · rw [List.map_id']
    trivial
    unfold headed
    cases h : r.filter (· != 0) with
    | nil =>
      trivial
    | cons x rest =>
      rw [map_cons']
      trivial
      rfl
  · intro i hi p2
    trivial
    by_cases e : i = 0 <;> simp [e]
theorem lrow_of {p : Int} {n : Nat} {d : D} (h : lrow p n d = true) : ∃ r, d = ti r ∧ RowOk p n r := by
  cases d with
  | tuple xs =>
    simp only [lrow, Bool.and_eq_true, decide_eq_true_eq] at h
    obtain ⟨h1, h2⟩ := h
    obtain ⟨r, rfl, hr⟩ := ints_of h2
    exact ⟨r, rfl, ⟨by simpa using h1, fun x hx => by have := hr x hx; omega⟩⟩
  | _ => cases h
theorem lrow_hrow {p : Int} {n : Nat} {d : D} (h : lrow p n d = false) : hrow p n d = false := by
  cases d with
  | tuple xs =>
    cases e : hrow p n (.tuple xs) with
    | false => rfl
    | true =>
      simp only [hrow, Bool.and_eq_true, decide_eq_true_eq] at e
      simp only [lrow, e.1, e.2.1] at h
      cases h
  | _ => rfl
theorem e_fault {p : Int} {a b : Nat} (hp : p ≤ 1000) (ha : a ≤ 1000) (hb : b ≤ 1000) {d : D} {k : Nat} (hk : k ≤ 60) (hd : Lay (k + 3) d) (q : PS) : F__law_fault [.int p, .tuple [.int a, .int b], d] q = .ok (faultD p a b d) q := by
  unfold F__law_fault b__law_fault
  cases d with
  | tuple xs =>
    have hl := hd.tuple
    trivial
    have hF : faultD p a b (.tuple xs) = if 1 ≤ xs.length ∧ xs.length ≤ 24 then (match (xs.zipIdx 0).findSome? (pairAt p a b) with
      | some d => d
      | none => match (List.range (xs.length - 1)).find? (leAt xs) with
        | some k => .tuple [.str "order", .int ((k + 1 : Nat) : Int)]
        | none => .none)
      else .str "form" := rfl
    rw [hF]
    by_cases h1 : 1 ≤ xs.length
    · by_cases h2 : xs.length ≤ 24
      · rw [if_pos (show ¬ (xs.length : Int) < 1 by omega), if_pos (show 1 ≤ xs.length ∧ xs.length ≤ 24 from ⟨h1, h2⟩), decide_eq_false (show ¬ (24 : Int) < xs.length by omega)]
        trivial
        rw [enumL_raw]
        have s1 := forL_search (f := ff (calF cs__law_fault) (.tp [.nm 3, .nm 4]) b__law_fault_1) (e := fun q : D × Nat => PyData.tuple [.int (q.2 : Int), q.1]) (bad := pairAt p a b) (Inv := fun env => ∃ s3 s4 s5, env = [.va (.int p), .va (.tuple [.int a, .int b]), .va (.tuple xs), s3, s4, s5, .un]) (xs.zipIdx 0) [.va (.int p), .va (.tuple [.int a, .int b]), .va (.tuple xs), .un, .un, .un, .un] p0 (fun x hx env hi => ?_) ⟨.un, .un, .un, rfl⟩
        · cases hf : (xs.zipIdx 0).findSome? (pairAt p a b) with
          | some d =>
            rw [hf] at s1
            rw [s1]
            trivial
          | none =>
            rw [hf] at s1
            obtain ⟨env', e, s3, s4, s5, rfl⟩ := s1
            have all := all_pairs hf
            rw [e]
            trivial
            rw [rngL_one]
            have lf := List.length_filter_le (leAt xs) (List.range (xs.length - 1))
            rw [List.length_range] at lf
            rw [compL_filE (e := fun k : Nat => PyData.int ((k + 1 : Nat) : Int)) (leAt xs) PyData.int (fun k : Nat => ((k + 1 : Nat) : Int)) (List.range (xs.length - 1))]
            · trivial
              rw [← List.head?_filter]
              cases hfl : (List.range (xs.length - 1)).filter (leAt xs) with
              | nil => trivial
              | cons k rest =>
                rw [map_cons']
                trivial
            · intro k hk p2
              obtain ⟨x, y, e1, e2, e3⟩ := le_next all (List.mem_range.mp hk)
              trivial
              rw [atI_get e1]
              trivial
              rw [succ_sub, atI_get e2]
              trivial
              rw [e3]
              trivial
              cases leAt xs k <;> rfl
        · obtain ⟨s3, s4, s5, rfl⟩ := hi
          have hx1 : Lay (k + 2) x.1 := hl _ (by
            have := List.fst_mem_of_mem_zipIdx hx
            exact this)
          obtain ⟨d, i⟩ := x
          dsimp only at hx1 ⊢
          unfold b__law_fault_1 pairAt
          dsimp only
          cases d with
          | tuple ys =>
            have hy := hx1.tuple
            match ys, hy with
            | [], _ =>
              rw [if_neg (by simp [pairB])]
              dsimp only
              trivial
            | [z], _ =>
              rw [if_neg (by simp [pairB])]
              dsimp only
              trivial
            | [u, v], hy =>
              trivial
              rw [rngL_two, compL_two (o1 := if hrow p a u then none else some (.int 0)) (o2 := if hrow p b v then none else some (.int 1))]
              · rw [show pairB p a b (.tuple [u, v]) = (hrow p a u && hrow p b v) from rfl]
                cases hrow p a u <;> cases hrow p b v
                · rw [if_neg (show ¬ (false && false) = true by decide)]
                  dsimp only
                  trivial
                · rw [if_neg (show ¬ (false && true) = true by decide)]
                  dsimp only
                  trivial
                · rw [if_neg (show ¬ (true && false) = true by decide)]
                  dsimp only
                  trivial
                · rw [if_pos (show (true && true) = true by decide)]
                  dsimp only
                  trivial
                  exact ⟨_, rfl, _, _, _, rfl⟩
              · intro p2
                trivial
                rw [e_lis_row ha (hy u (by simp)) (by omega)]
                trivial
                cases hu : lrow p a u with
                | false =>
                  rw [lrow_hrow hu]
                  trivial
                | true =>
                  obtain ⟨r, rfl, hr⟩ := lrow_of hu
                  rw [hrow_ti hr]
                  trivial
                  rw [e_is_headed (by rw [hr.1]; exact ha)]
                  cases headed r <;> trivial
              · intro p2
                trivial
                rw [e_lis_row hb (hy v (by simp)) (by omega)]
                trivial
                cases hu : lrow p b v with
                | false =>
                  rw [lrow_hrow hu]
                  trivial
                | true =>
                  obtain ⟨r, rfl, hr⟩ := lrow_of hu
                  rw [hrow_ti hr]
                  trivial
                  rw [e_is_headed (by rw [hr.1]; exact hb)]
                  cases headed r <;> trivial
            | _ :: _ :: _ :: t, _ =>
              rw [if_neg (by simp [pairB])]
              dsimp only
              trivial
              rw [decide_eq_false (show ¬ ((t.length + 1 + 1 + 1 : Nat) : Int) = 2 by omega)]
              trivial
          | _ =>
            rw [if_neg (by simp [pairB])]
            dsimp only
            trivial
      · rw [if_pos (show ¬ (xs.length : Int) < 1 by omega), if_neg (show ¬ (1 ≤ xs.length ∧ xs.length ≤ 24) from fun z => h2 z.2), decide_eq_true (show (24 : Int) < xs.length by omega)]
        trivial
    · rw [if_neg (show ¬ ¬ (xs.length : Int) < 1 by omega), if_neg (show ¬ (1 ≤ xs.length ∧ xs.length ≤ 24) from fun z => h1 z.1)]
      trivial
      rw [if_pos (show (xs.length : Int) < 1 by omega)]
      trivial
  | _ => rfl
end K76
namespace K76
open Ev PySem
local macro_rules | `(tactic| trivial) => `(tactic| try simp (disch := (first | omega | (with_reducible assumption) | (simp only [List.length_map, List.length_append, List.length_cons, List.length_nil, List.length_zip, List.length_range, List.length_replicate, di]; omega))) only [v_var0, v_var1, v_glc, v_lit, v_dct0, kCons2_ok, kCons2F_ap, kCons_ok, kConsF_ap, v_nil, v_cons, kTupF_ap, kTup_ok, kLstF_ap, kLst_ok, v_tup, v_lst, kBin2_ok, kBin2F_ap, kBin_ok, kBinF_ap, v_bin, kNeg_ok, kNegF_ap, v_neg, kNot_ok, kNotF_ap, v_not, kBop2_ok, kBop2F_ap, kBopF_1, kBopF_2, kBop_1, kBop_2, v_bop, v_bops, kIfe2_ok, kIfe2F_ap, kIfe_ok, kIfeF_ap, v_ife, kCmp2_ok, kCmp2F_ap, kCmp_ok, kCmpF_ap, v_cmp, kChn3_ok, kChn3F_ap, kChn2_ok, kChn2F_ap, kChn_ok, kChnF_ap, v_chn, kIsn_ok, kIsnF_ap, v_isn, kMem2_ok, kMem2F_ap, kMem_ok, kMemF_ap, v_mem, kIx2_ok, kIx2F_ap, kIx_ok, kIxF_ap, v_ix, kO2_ok, kO2F_ap, kO_ok, kOF_ap, v_O0, v_O1, kSl3_ok, kSl3F_ap, kSl2_ok, kSl2F_ap, kSl_ok, kSlF_ap, v_sl, kRev_ok, kRevF_ap, v_rev, kCal3_ok, kCal3F_ap, kCal2_ok, kCal2F_ap, kCal_ok, kCalF_ap, v_cal, kBi_ok, kBiF_ap, v_bi, kIsi_ok, kIsiF_ap, v_isi, kGet3_ok, kGet3F_ap, kGet2_ok, kGet2F_ap, kGet_ok, kGetF_ap, v_get, kCf3_ok, kCf3F_ap, kCfc3_ok, kCfc3F_ap, kCfc2_ok, kCfc2F_ap, kCf_0, kCf_1, v_cf, kLc3F_ap, kLc3_ok, kLc2_ok, kLc2F_ap, kLc_ok, kLcF_ap, v_lc, kSeqF_rt, kSeqF_br, kSeqF_ct, kSeqF_nx, kSeq_nx, kSeq_rt, kSeq_br, kSeq_ct, x_nil, x_cons, kAsg2_ok, kAsg2F_ap, kAsg_ok, kAsgF_ap, x_asg, kAsT_ok, kAsTF_ap, x_asT, kPar_ok, kParF_ap, x_par, kStx4_ok, kStx4F_ap, kStx3_ok, kStx3F_ap, kStx2_ok, kStx2F_ap, kStx_ok, kStxF_ap, x_stx, kMut3_ok, kMut3F_ap, kMut2_ok, kMut2F_ap, kMut_ok, kMutF_ap, x_mut, kMutA3_ok, kMutA3F_ap, kMutA2_ok, kMutA2F_ap, kMutA_ok, kMutAF_ap, x_mutA, kExp_ok, kExpF_ap, x_exp, kIfs2_ok, kIfs2F_ap, kIfs_ok, kIfsF_ap, x_ifs, kFf_ok, kFfF_ap, v_ff, kFor2_ok, kFor2F_ap, kFor_ok, kForF_ap, x_frs, kWc_ok, kWcF_ap, v_wc, v_wb, x_whl, kRtn_ok, kRtnF_ap, x_rtn, x_rtnN, x_pas, x_brk, x_cnt, kRunN_nx, kRunN_rt, v_runN, kRunPF_nx, kRunPF_rt, kRunP_nx, kRunP_rt, v_runP, isD_int_none, isD_int_bool, isD_int_int, isD_int_str, isD_int_list, isD_int_tuple, isD_int_dict, isD_bool_none, isD_bool_bool, isD_bool_int, isD_bool_str, isD_bool_list, isD_bool_tuple, isD_bool_dict, isD_tuple_none, isD_tuple_bool, isD_tuple_int, isD_tuple_str, isD_tuple_list, isD_tuple_tuple, isD_tuple_dict, isD_list_none, isD_list_bool, isD_list_int, isD_list_str, isD_list_list, isD_list_tuple, isD_list_dict, isD_str_none, isD_str_bool, isD_str_int, isD_str_str, isD_str_list, isD_str_tuple, isD_str_dict, isD_dict_none, isD_dict_bool, isD_dict_int, isD_dict_str, isD_dict_list, isD_dict_tuple, isD_dict_dict, isN_none, isN_bool, isN_int, isN_str, isN_list, isN_tuple, isN_dict, Wb_ap, g__law_of, g_undoing, g_stepped, g_plain_code, g_other_code, g_is_row, g_first_item, g_is_pair, g_products_error, g_products_of, g_sum_by, g_values_at, g_product_code, g_checks_of, g__law_one, g__law_is_number, g__law_flat, g__law_spliced, g__law_bent, g__law_power, g__law_drawn_row, g__law_is_row, g__law_is_headed, g__law_plain_triple, g__law_less, g__law_reduced, g__law_plain_code, g__law_nought_rows, g__law_products, g__law_cells, g__law_values, g__law_fault, g__law_is_code_right, freeze_nil, freeze_cons, fz10, fz1S, fz_ow, fz_va, fz_un, wipe_nil, wipe_cons, wipe10, wipe1S, List.map_cons, List.map_nil, List.length_cons, List.length_nil, List.replicate_succ, List.replicate_zero, List.cons_append, List.nil_append, List.append_nil, Nat.reduceAdd, Nat.reduceSub, opt_some, bor0, borO, borS, esc0, escS, ownL0, ownLS, ownV0, ownVS, set0, setS, setV0, setVS, asg_nm, asg_tp, asgs0, asgsS, asgF_f, asgF_l, asgF_d, parF0, parFS, bind_some, map_some', s_add, s_sub, s_mul, s_mul', s_mod, s_fdiv, s_addT, s_addL, s_mulT, s_mulL, t_int, t_bool, t_none, t_list, t_tuple, s_len, s_lenT, s_tuple, s_tupleT, s_list, s_listT, s_int, s_intB, s_abs, s_sum, s_ixL, s_ixT, s_slL, s_slT, s_revL, s_revT, s_intOf, i_seqL, i_seqT, i_rng1, i_rng2, i_zip, i_enum, s_seqL, s_seqT, c_eq, c_ne, c_lt, c_le, c_gt, c_ge, calm_ok, calF_0, calF_S, pick0, pickS, get0, getS, zipL_map, enumL_map, rngL_nat, if_true, if_false, ite_true, ite_false, reduceIte, Bool.not_true, Bool.not_false, Bool.false_eq_true, at_zero, at_one, decide_eq_true_eq, Bool.not_eq_true', List.isEmpty_nil, List.isEmpty_cons, decide_eq_false_iff_not, i_sq, s_lsq, s_tsq, s_lensq, s_ixsq, s_seqsq, c_neR, c_neI, Bool.false_bne, c_neD0, lenOk_l, wp_okD, c_ne_0, c_ne_1, c_ne_2, c_eq_0, Option.toList_some, Option.toList_none, decide_true, decide_false, List.head?_nil, List.head?_cons, Int.cast_ofNat_Int, Int.reduceEq, Int.reduceLT, Int.reduceLE, Int.reduceAdd, Int.reduceSub, Int.reduceMul, Int.reduceNeg, eq_self, s_anyT, List.length_map, not_true_eq_false, not_false_eq_true, Bool.true_eq_false, Bool.true_bne, at_row, c_neT, memD_di, set_di, mul_zero, m_remove, map_same, List.map_id_fun', id_eq, List.map_id])
local macro_rules | `(tactic| infer_instance) => `(tactic| try simp only [kCons2, kCons, kTup, kLst, kBin2, kBin, kNeg, kNot, kBop2, kBop, kIfe2, kIfe, kCmp2, kCmp, kChn3, kChn2, kChn, kIsn, kMem2, kMem, kIx2, kIx, kO2, kO, kSl3, kSl2, kSl, kRev, kCal3, kCal2, kCal, kBi, kIsi, kGet3, kGet2, kGet, kCf3, kCfc3, kCfc2, kCf, kLc3, kLc2, kLc, kSeq, kAsg2, kAsg, kAsT, kPar, kStx4, kStx3, kStx2, kStx, kMut3, kMut2, kMut, kMutA3, kMutA2, kMutA, kExp, kIfs2, kIfs, kFf, kFor2, kFor, kWc, kRtn, kRunP, wp_bindW])
theorem w_one {ds : List D} {p : PS} {k : D → PS → Prop} {e : Nat → List D → PS → Prop} (hg : Good p) (h0 : ds ≠ []) (hz : ds.length ≤ 1000000) (h : ∀ d p', Good p' → d ∈ ds → k d p') : (F__law_one [.list ds] p).Wp k e := by
  have hl := List.length_pos_iff.mpr h0
  unfold F__law_one b__law_one
  trivial
  infer_instance
  refine of_wpN hg (by omega) (by omega) fun i p' g hi => ?_
  obtain ⟨d, e1, e2⟩ := atI_mem (ds := ds) (i := (i : Int)) (by omega) (by omega)
  trivial
  rw [e1]
  trivial
  exact h d p' g e2
theorem w_drawn_row {q : Int} {n : Nat} {p : PS} {k : D → PS → Prop} {e : Nat → List D → PS → Prop} (hg : Good p) (hq : 1 ≤ q ∧ q ≤ 1000) (hn : n ≤ 1000) (h : ∀ r p', Good p' → RowOk q n r → k (ti r) p') : (F__law_drawn_row [.int q, .int n] p).Wp k e := by
  unfold F__law_drawn_row b__law_drawn_row
  trivial
  infer_instance
  refine of_wp1 hg (by omega) (by omega) fun i p1 g1 h0 h1 => ?_
  trivial
  by_cases hi : i = 0
  · rw [if_pos hi]
    trivial
    infer_instance
    refine Out.wp_calm ((compL_wp' (e := fun k : Nat => PyData.int (k : Int)) (I := Good) (R := fun _ d => ∃ i, d = .int i ∧ 0 ≤ i ∧ i < q) (List.range n) p1 (fun j hj p2 g2 => ?_) g1).mono (fun ys p2 _ hy => ?_) fun _ _ _ _ z => z)
    · trivial
      infer_instance
      refine of_wp1 g2 (by omega) (by omega) fun i2 p3 g3 a0 a1 => ?_
      trivial
      by_cases hc : 0 < i2
      · rw [if_pos hc]
        trivial
        exact ⟨g3, _, rfl, 0, rfl, by omega, by omega⟩
      · rw [if_neg hc]
        infer_instance
        refine of_wp1 g3 (by omega) (by omega) fun i4 p4 g4 b0 b1 => ?_
        trivial
        exact ⟨g4, _, rfl, i4, rfl, b0, b1⟩
    · obtain ⟨g2, al⟩ := hy
      obtain ⟨r, rfl, hl, hr⟩ := al.ints (S := fun i => 0 ≤ i ∧ i < q) fun _ d ⟨i, e, s⟩ => ⟨i, e, s⟩
      have hl2 : r.length = n := by simpa using hl
      trivial
      exact h r p2 g2 ⟨hl2, hr⟩
  · rw [if_neg hi]
    trivial
    by_cases hc : 1 < i
    · rw [if_pos hc]
      infer_instance
      refine Out.wp_calm ((compL_wp' (e := fun k : Nat => PyData.int (k : Int)) (I := Good) (R := fun _ d => ∃ i, d = .int i ∧ 0 ≤ i ∧ i < q) (List.range n) p1 (fun j hj p2 g2 => ?_) g1).mono (fun ys p2 _ hy => ?_) fun _ _ _ _ z => z)
      · trivial
        infer_instance
        refine of_wp1 g2 (by omega) (by omega) fun i2 p3 g3 a0 a1 => ?_
        trivial
        exact ⟨g3, _, rfl, i2, rfl, a0, a1⟩
      · obtain ⟨g2, al⟩ := hy
        obtain ⟨r, rfl, hl, hr⟩ := al.ints (S := fun i => 0 ≤ i ∧ i < q) fun _ d ⟨i, e, s⟩ => ⟨i, e, s⟩
        have hl2 : r.length = n := by simpa using hl
        trivial
        exact h r p2 g2 ⟨hl2, hr⟩
    · rw [if_neg hc]
      infer_instance
      refine of_wp1 g1 (by omega) (by omega) fun i2 p3 g3 a0 a1 => ?_
      trivial
      rw [rep_int, Int.toNat_natCast, show List.replicate n (PyData.int i2) = di (List.replicate n i2) by simp]
      refine h _ p3 g3 ⟨by simp, fun x hx => ?_⟩
      have := (List.mem_replicate.mp hx).2
      omega
theorem w_spliced {one other : D} {p : PS} {k : D → PS → Prop} {e : Nat → List D → PS → Prop} (hg : Good p) (l1 : ∀ xs, one = .tuple xs → xs.length ≤ 1000) (l2 : ∀ xs, other = .tuple xs → xs.length ≤ 1000) (h1 : ∀ p', Good p' → k one p')
    (h2 : ∀ xs ys i p', Good p' → one = .tuple xs → other = .tuple ys → k (.tuple (cut xs none (some i) ++ cut ys (some i) none)) p') : (F__law_spliced [one, other] p).Wp k e := by
  unfold F__law_spliced b__law_spliced
  cases one with
  | tuple xs =>
    have a1 := l1 xs rfl
    cases other with
    | tuple ys =>
      have a2 := l2 ys rfl
      trivial
      infer_instance
      refine of_wp1 hg (by omega) (by omega) fun i p' g _ _ => ?_
      have c1 := cut_len xs none (some i)
      have c2 := cut_len ys (some i) none
      trivial
      exact h2 xs ys i p' g rfl rfl
    | _ =>
      trivial
      exact h1 p hg
  | _ =>
    trivial
    exact h1 p hg
theorem w_bent {xs os : List D} {p : PS} {k : D → PS → Prop} {e : Nat → List D → PS → Prop} {n : Nat} (hg : Good p) (h0 : xs ≠ []) (ho : os ≠ []) (hx : xs.length ≤ 1000) (hos : os.length ≤ 1000) (hs : ∀ x ∈ xs, Lay n x) (hn : n ≤ 60)
    (h : ∀ d p', Good p' → Bent xs os d → k d p') : (F__law_bent [.tuple xs, .list os] p).Wp k e := by
  have hl := List.length_pos_iff.mpr h0
  have hsh : SeqAt.shaped (.tuple xs) = true := shaped_seq (b := true) fun x hx => ⟨(hs x hx).1, Nat.le_trans (hs x hx).2 hn⟩
  have hem : xs.isEmpty = false := by cases xs with
    | nil => exact absurd rfl h0
    | cons _ _ => rfl
  unfold F__law_bent b__law_bent
  trivial
  rw [c_eqT0 hsh, hem]
  trivial
  infer_instance
  refine of_wpN hg (by omega) (by omega) fun i p1 g1 hi => ?_
  trivial
  have c1 := cut_len xs none (some (i : Int))
  have c2 := cut_len xs (some ((i : Int) + 1)) none
  have c3 := cut_next xs i hi
  have c4 := cut_over xs i hi
  have c5 := cut_len xs none (some ((i : Int) + 1))
  have c6 := cut_len xs (some (i : Int)) none
  have c7 := cut_same xs i
  obtain ⟨d0, f1, f2⟩ := atI_mem (ds := xs) (i := 0) (by omega) (by omega)
  obtain ⟨dl, f3, f4⟩ := at_last h0
  have two : ∀ (lo hi lo2 hi2 : Option Int) (zs : List D), (∀ z ∈ zs, z ∈ xs ∨ z ∈ os) → ∀ z ∈ cut xs lo hi ++ zs ++ cut xs lo2 hi2, z ∈ xs ∨ z ∈ os := fun lo hi lo2 hi2 zs hz z hm => by
    rw [List.mem_append, List.mem_append] at hm
    rcases hm with (q | q) | q
    · exact .inl (cut_mem q)
    · exact hz z q
    · exact .inl (cut_mem q)
  infer_instance
  refine Out.wp_calm ((compL_wp' (e := fun k : Nat => PyData.int (k : Int)) (I := Good) (R := fun _ d => Bent xs os d) (List.range 5) p1 (fun j hj p2 g2 => ?_) g1).mono (fun ys p2 _ hy => ?_) fun _ _ _ _ z => z)
  · trivial
    infer_instance
    refine w_one g2 ho (by omega) fun d p3 g3 hd => ?_
    trivial
    refine ⟨g3, _, rfl, .tup (two none (some (i : Int)) (some ((i : Int) + 1)) none [d] fun z hz => ?_) (by simp; omega)⟩
    rw [List.mem_singleton.mp hz]
    exact .inr hd
  · obtain ⟨g2, al⟩ := hy
    have yl : ys.length = 5 := by rw [al.length]; rfl
    have yb := al.of_all fun _ d h => h
    trivial
    rw [f1]
    trivial
    rw [f3]
    trivial
    infer_instance
    refine w_one g2 ho (by omega) fun d p3 g3 hd => ?_
    trivial
    infer_instance
    refine w_one g3 (by simp) (by simp; omega) fun d2 p4 g4 hd2 => ?_
    trivial
    refine h d2 p4 g4 ?_
    have cat : ∀ (lo hi lo2 hi2 : Option Int), ∀ z ∈ cut xs lo hi ++ cut xs lo2 hi2, z ∈ xs ∨ z ∈ os := fun lo hi lo2 hi2 z hm => by
      rw [List.mem_append] at hm
      exact hm.elim (fun q => .inl (cut_mem q)) fun q => .inl (cut_mem q)
    simp only [List.mem_append, List.mem_cons, List.not_mem_nil, or_false] at hd2
    rcases hd2 with ((q | q | q | q | q | q) | q | q) | q | q
    · exact yb d2 q
    · rw [q]
      exact .tup (cat _ _ _ _) (by simp; omega)
    · rw [q]
      exact .tup (cat _ _ _ _) (by simp; omega)
    · rw [q]
      exact .tup (fun z hz => .inl (List.mem_reverse.mp hz)) (by simp)
    · exact .inr (.inl q)
    · rw [q]
      refine .tup (fun z hz => ?_) (by simp)
      rcases List.mem_append.mp hz with q | q
      · exact .inl q
      · rw [List.mem_singleton.mp q]
        exact .inl f2
    · rw [q]
      refine .tup (two _ _ _ _ [dl] fun z hz => ?_) (by simp; omega)
      rw [List.mem_singleton.mp hz]
      exact .inl f4
    · rw [q]
      refine .tup (two _ _ _ _ [d] fun z hz => ?_) (by simp; omega)
      rw [List.mem_singleton.mp hz]
      exact .inr hd
    · exact .inr (.inr (.inl q))
    · exact .inr (.inr (.inr q))
end K76
namespace K76
open Ev PySem
local macro_rules | `(tactic| trivial) => `(tactic| try simp (disch := (first | omega | (with_reducible assumption) | (simp only [List.length_map, List.length_append, List.length_cons, List.length_nil, List.length_zip, List.length_range, List.length_replicate, di]; omega))) only [v_var0, v_var1, v_glc, v_lit, v_dct0, kCons2_ok, kCons2F_ap, kCons_ok, kConsF_ap, v_nil, v_cons, kTupF_ap, kTup_ok, kLstF_ap, kLst_ok, v_tup, v_lst, kBin2_ok, kBin2F_ap, kBin_ok, kBinF_ap, v_bin, kNeg_ok, kNegF_ap, v_neg, kNot_ok, kNotF_ap, v_not, kBop2_ok, kBop2F_ap, kBopF_1, kBopF_2, kBop_1, kBop_2, v_bop, v_bops, kIfe2_ok, kIfe2F_ap, kIfe_ok, kIfeF_ap, v_ife, kCmp2_ok, kCmp2F_ap, kCmp_ok, kCmpF_ap, v_cmp, kChn3_ok, kChn3F_ap, kChn2_ok, kChn2F_ap, kChn_ok, kChnF_ap, v_chn, kIsn_ok, kIsnF_ap, v_isn, kMem2_ok, kMem2F_ap, kMem_ok, kMemF_ap, v_mem, kIx2_ok, kIx2F_ap, kIx_ok, kIxF_ap, v_ix, kO2_ok, kO2F_ap, kO_ok, kOF_ap, v_O0, v_O1, kSl3_ok, kSl3F_ap, kSl2_ok, kSl2F_ap, kSl_ok, kSlF_ap, v_sl, kRev_ok, kRevF_ap, v_rev, kCal3_ok, kCal3F_ap, kCal2_ok, kCal2F_ap, kCal_ok, kCalF_ap, v_cal, kBi_ok, kBiF_ap, v_bi, kIsi_ok, kIsiF_ap, v_isi, kGet3_ok, kGet3F_ap, kGet2_ok, kGet2F_ap, kGet_ok, kGetF_ap, v_get, kCf3_ok, kCf3F_ap, kCfc3_ok, kCfc3F_ap, kCfc2_ok, kCfc2F_ap, kCf_0, kCf_1, v_cf, kLc3F_ap, kLc3_ok, kLc2_ok, kLc2F_ap, kLc_ok, kLcF_ap, v_lc, kSeqF_rt, kSeqF_br, kSeqF_ct, kSeqF_nx, kSeq_nx, kSeq_rt, kSeq_br, kSeq_ct, x_nil, x_cons, kAsg2_ok, kAsg2F_ap, kAsg_ok, kAsgF_ap, x_asg, kAsT_ok, kAsTF_ap, x_asT, kPar_ok, kParF_ap, x_par, kStx4_ok, kStx4F_ap, kStx3_ok, kStx3F_ap, kStx2_ok, kStx2F_ap, kStx_ok, kStxF_ap, x_stx, kMut3_ok, kMut3F_ap, kMut2_ok, kMut2F_ap, kMut_ok, kMutF_ap, x_mut, kMutA3_ok, kMutA3F_ap, kMutA2_ok, kMutA2F_ap, kMutA_ok, kMutAF_ap, x_mutA, kExp_ok, kExpF_ap, x_exp, kIfs2_ok, kIfs2F_ap, kIfs_ok, kIfsF_ap, x_ifs, kFf_ok, kFfF_ap, v_ff, kFor2_ok, kFor2F_ap, kFor_ok, kForF_ap, x_frs, kWc_ok, kWcF_ap, v_wc, v_wb, x_whl, kRtn_ok, kRtnF_ap, x_rtn, x_rtnN, x_pas, x_brk, x_cnt, kRunN_nx, kRunN_rt, v_runN, kRunPF_nx, kRunPF_rt, kRunP_nx, kRunP_rt, v_runP, isD_int_none, isD_int_bool, isD_int_int, isD_int_str, isD_int_list, isD_int_tuple, isD_int_dict, isD_bool_none, isD_bool_bool, isD_bool_int, isD_bool_str, isD_bool_list, isD_bool_tuple, isD_bool_dict, isD_tuple_none, isD_tuple_bool, isD_tuple_int, isD_tuple_str, isD_tuple_list, isD_tuple_tuple, isD_tuple_dict, isD_list_none, isD_list_bool, isD_list_int, isD_list_str, isD_list_list, isD_list_tuple, isD_list_dict, isD_str_none, isD_str_bool, isD_str_int, isD_str_str, isD_str_list, isD_str_tuple, isD_str_dict, isD_dict_none, isD_dict_bool, isD_dict_int, isD_dict_str, isD_dict_list, isD_dict_tuple, isD_dict_dict, isN_none, isN_bool, isN_int, isN_str, isN_list, isN_tuple, isN_dict, Wb_ap, g__law_of, g_undoing, g_stepped, g_plain_code, g_other_code, g_is_row, g_first_item, g_is_pair, g_products_error, g_products_of, g_sum_by, g_values_at, g_product_code, g_checks_of, g__law_one, g__law_is_number, g__law_flat, g__law_spliced, g__law_bent, g__law_power, g__law_drawn_row, g__law_is_row, g__law_is_headed, g__law_plain_triple, g__law_less, g__law_reduced, g__law_plain_code, g__law_nought_rows, g__law_products, g__law_cells, g__law_values, g__law_fault, g__law_is_code_right, freeze_nil, freeze_cons, fz10, fz1S, fz_ow, fz_va, fz_un, wipe_nil, wipe_cons, wipe10, wipe1S, List.map_cons, List.map_nil, List.length_cons, List.length_nil, List.replicate_succ, List.replicate_zero, List.cons_append, List.nil_append, List.append_nil, Nat.reduceAdd, Nat.reduceSub, opt_some, bor0, borO, borS, esc0, escS, ownL0, ownLS, ownV0, ownVS, set0, setS, setV0, setVS, asg_nm, asg_tp, asgs0, asgsS, asgF_f, asgF_l, asgF_d, parF0, parFS, bind_some, map_some', s_add, s_sub, s_mul, s_mul', s_mod, s_fdiv, s_addT, s_addL, s_mulT, s_mulL, t_int, t_bool, t_none, t_list, t_tuple, s_len, s_lenT, s_tuple, s_tupleT, s_list, s_listT, s_int, s_intB, s_abs, s_sum, s_ixL, s_ixT, s_slL, s_slT, s_revL, s_revT, s_intOf, i_seqL, i_seqT, i_rng1, i_rng2, i_zip, i_enum, s_seqL, s_seqT, c_eq, c_ne, c_lt, c_le, c_gt, c_ge, calm_ok, calF_0, calF_S, pick0, pickS, get0, getS, zipL_map, enumL_map, rngL_nat, if_true, if_false, ite_true, ite_false, reduceIte, Bool.not_true, Bool.not_false, Bool.false_eq_true, at_zero, at_one, decide_eq_true_eq, Bool.not_eq_true', List.isEmpty_nil, List.isEmpty_cons, decide_eq_false_iff_not, i_sq, s_lsq, s_tsq, s_lensq, s_ixsq, s_seqsq, c_neR, c_neI, Bool.false_bne, rep_int, Int.toNat_natCast, c_neD0, lenOk_l, wp_okD, c_ne_0, c_ne_1, c_ne_2, c_eq_0, Option.toList_some, Option.toList_none, decide_true, decide_false, List.head?_nil, List.head?_cons, Int.cast_ofNat_Int, Int.reduceEq, Int.reduceLT, Int.reduceLE, Int.reduceAdd, Int.reduceSub, Int.reduceMul, Int.reduceNeg, eq_self, s_anyT, List.length_map, not_true_eq_false, not_false_eq_true, Bool.true_eq_false, Bool.true_bne, at_row, c_neT, memD_di, set_di, mul_zero, m_remove, map_same, List.map_id_fun', id_eq, List.map_id])
local macro_rules | `(tactic| infer_instance) => `(tactic| try simp only [kCons2, kCons, kTup, kLst, kBin2, kBin, kNeg, kNot, kBop2, kBop, kIfe2, kIfe, kCmp2, kCmp, kChn3, kChn2, kChn, kIsn, kMem2, kMem, kIx2, kIx, kO2, kO, kSl3, kSl2, kSl, kRev, kCal3, kCal2, kCal, kBi, kIsi, kGet3, kGet2, kGet, kCf3, kCfc3, kCfc2, kCf, kLc3, kLc2, kLc, kSeq, kAsg2, kAsg, kAsT, kPar, kStx4, kStx3, kStx2, kStx, kMut3, kMut2, kMut, kMutA3, kMutA2, kMutA, kExp, kIfs2, kIfs, kFf, kFor2, kFor, kWc, kRtn, kRunP, wp_bindW])
/-- a product: a row of each side, each with its head -/
def IsProd (p : Int) (a b : Nat) (q : Row × Row) : Prop := RowOk p a q.1 ∧ RowOk p b q.2 ∧ headed q.1 = true ∧ headed q.2 = true
theorem e_plain_triple {p : Int} (hp : Pr p) {a b : Nat} {u v : Row} (hu : RowOk p a u) (hv : RowOk p b v) (ha : 1 ≤ a ∧ a ≤ 100) (hb : 1 ≤ b ∧ b ≤ 100) (q : PS) :
    ∃ d, F__law_plain_triple [.int p, .tuple [ti u, ti v, .tuple [.int 1]]] q = .ok d q ∧ (d = .none ∨ ∃ z w, d = .tuple [ti z.1, ti z.2, w] ∧ IsProd p a b z) := by
  have pos := hp.pos
  have ple := hp.le
  obtain ⟨hul, hui⟩ := hu
  obtain ⟨hvl, hvi⟩ := hv
  obtain ⟨m1, e1, n1⟩ := s_maxT (r := u) (by intro e; rw [e] at hul; simp at hul; omega)
  obtain ⟨m2, e2, n2⟩ := s_maxT (r := v) (by intro e; rw [e] at hvl; simp at hvl; omega)
  have e3 : biD .max [.tuple [.int 1]] = some (.int 1) := rfl
  have lu := List.length_filter_le (· != 0) u
  have lv := List.length_filter_le (· != 0) v
  unfold F__law_plain_triple b__law_plain_triple
  trivial
  rw [e1]
  trivial
  by_cases h1 : m1 = 0
  · subst h1
    trivial
    exact ⟨_, rfl, .inl rfl⟩
  · rw [if_pos h1]
    trivial
    rw [e2]
    trivial
    by_cases h2 : m2 = 0
    · subst h2
      trivial
      exact ⟨_, rfl, .inl rfl⟩
    · rw [if_pos h2]
      trivial
      rw [e3]
      trivial
      obtain ⟨x, r1, er⟩ := first_of_any (r := u) (List.any_eq_true.mpr ⟨m1, n1, by simpa using h1⟩)
      obtain ⟨y, s1, es⟩ := first_of_any (r := v) (List.any_eq_true.mpr ⟨m2, n2, by simpa using h2⟩)
      have mx : x ∈ u ∧ x ≠ 0 := by
        have := List.mem_filter.mp (show x ∈ u.filter (· != 0) by rw [er]; exact List.mem_cons_self ..)
        exact ⟨this.1, by simpa using this.2⟩
      have my : y ∈ v ∧ y ≠ 0 := by
        have := List.mem_filter.mp (show y ∈ v.filter (· != 0) by rw [es]; exact List.mem_cons_self ..)
        exact ⟨this.1, by simpa using this.2⟩
      have bx := hui x mx.1
      have bey := hvi y my.1
      have vx := inv_in hp x
      have vy := inv_in hp y
      have px := e_power hp (x := x) (by omega) bx.2 p0
      have py := e_power hp (x := y) (by omega) bey.2 p0
      rw [compL_filE (fun x => x != 0) PyData.int (fun x => x) u, List.map_id', er]
      · rw [er, List.length_cons] at lu
        trivial
        rw [compL_filE (fun x => x != 0) PyData.int (fun x => x) v, List.map_id', es]
        · rw [es, List.length_cons] at lv
          trivial
          rw [px]
          trivial
          rw [py]
          trivial
          rw [compL_mapE PyData.int (fun i => i * inv p x % p) u]
          · trivial
            rw [compL_mapE PyData.int (fun i => i * inv p y % p) v]
            · trivial
              rw [compL_one (o := some (.int (1 * x * y % p))) fun p3 => ?_]
              · trivial
                refine ⟨_, rfl, .inr ⟨(scale p (inv p x) u, scale p (inv p y) v), _, rfl, ⟨?_, scale_in pos⟩, ⟨?_, scale_in pos⟩, headed_scale er (inv_ok hp (by omega) bx.2), headed_scale es (inv_ok hp (by omega) bey.2)⟩⟩
                · simp [scale, hul]
                · simp [scale, hvl]
              · trivial
            · intro i hi p3
              trivial
          · intro i hi p3
            trivial
        · intro i hi p2
          trivial
          by_cases e : i = 0 <;> simp [e]
      · intro i hi p2
        trivial
        by_cases e : i = 0 <;> simp [e]
theorem unitT_ok {p : Int} (hp : 2 ≤ p) (n : Nat) (t : Nat → Prop) [DecidablePred t] : RowOk p n ((List.range n).map fun k => if t k then (1 : Int) else 0) := by
  refine ⟨by simp, fun x hx => ?_⟩
  obtain ⟨k, _, rfl⟩ := List.mem_map.mp hx
  by_cases h : t k
  · rw [if_pos h]; omega
  · rw [if_neg h]; omega
theorem w_products {p : Int} (hp : Pr p) {a b most : Nat} (ha : 1 ≤ a ∧ a ≤ 9) (hb : 1 ≤ b ∧ b ≤ 9) (hm : 1 ≤ most ∧ most ≤ 24) {s : PS} {k : D → PS → Prop} {e : Nat → List D → PS → Prop} (hg : Good s)
    (h : ∀ ps s', Good s' → ps ≠ [] → ps.length ≤ 24 → (∀ q ∈ ps, IsProd p a b q) → k (.tuple (ps.map pr)) s') : (F__law_products [.int p, .int a, .int b, .int most] s).Wp k e := by
  have pos := hp.pos
  have ple := hp.le
  have pge := hp.ge
  unfold F__law_products b__law_products
  trivial
  infer_instance
  refine of_wpN hg (by omega) (by omega) fun i s1 g1 hi => ?_
  trivial
  rw [show (1 : Int) + (i : Int) = ((i + 1 : Nat) : Int) by omega]
  trivial
  infer_instance
  refine (forL_wp (E := fun _ _ _ => False) (B := fun _ _ => False) (R := fun _ _ => False) (Inv := fun rest env s => Good s ∧ ∃ kvs s6 s7 s8 s10, env = [.un, .va (.int p), .va (.int a), .va (.int b), .va (.int most), .ow (.dict kvs), s6, s7, s8, .un, s10, .un] ∧ PDict (IsProd p a b) kvs ∧ kvs.length + rest.length ≤ 24) _ _ _ (fun x rest env s2 hi => ?_) ?_).mono (fun fl s2 _ hq => ?_) fun _ _ _ _ z => z.elim
  · obtain ⟨g2, kvs, s6, s7, s8, s10, rfl, hd, hl⟩ := hi
    rw [List.length_cons] at hl
    unfold b__law_products_1
    trivial
    infer_instance
    refine w_drawn_row g2 (by omega) (by omega) fun u s3 g3 hu => ?_
    trivial
    infer_instance
    refine w_drawn_row g3 (by omega) (by omega) fun v s4 g4 hv => ?_
    trivial
    infer_instance
    refine of_wp1 g4 (by omega) (by omega) fun j s5 g5 _ _ => ?_
    trivial
    by_cases hj : j = 0
    · rw [if_pos hj]
      trivial
      rw [compL_mapE (e := fun k : Nat => PyData.int (k : Int)) PyData.int (fun k : Nat => if k = 0 then (1 : Int) else 0) (List.range a)]
      · trivial
        rw [compL_mapE (e := fun k : Nat => PyData.int (k : Int)) PyData.int (fun k : Nat => if k + 1 = b then (1 : Int) else 0) (List.range b)]
        · have hu2 := unitT_ok hp.ge a fun k => k = 0
          have hv2 := unitT_ok hp.ge b fun k => k + 1 = b
          obtain ⟨d, ed, hd2⟩ := e_plain_triple hp hu2 hv2 (by omega) (by omega) s5
          trivial
          rw [ed]
          trivial
          rcases hd2 with rfl | ⟨z, w, rfl, hz⟩
          · trivial
            exact ⟨g5, kvs, _, _, _, _, rfl, hd, by omega⟩
          · trivial
            obtain ⟨e1, hd', hl'⟩ := hd.set hz (v := .bool true) (by omega)
            rw [show PyData.tuple (cut [ti z.1, ti z.2, w] none (some 2)) = pr z from rfl, e1]
            trivial
            exact ⟨g5, _, _, _, _, _, rfl, hd', by omega⟩
        · intro i hi p3
          trivial
          by_cases e : i + 1 = b
          · simp [e, show (i : Int) = (b : Int) - 1 by omega]
          · simp [e, show ¬ (i : Int) = (b : Int) - 1 by omega]
      · intro i hi p3
        trivial
        by_cases e : i = 0
        · simp [e]
        · simp [e]
    · rw [if_neg hj]
      obtain ⟨d, ed, hd2⟩ := e_plain_triple hp hu hv (by omega) (by omega) s5
      trivial
      rw [ed]
      trivial
      rcases hd2 with rfl | ⟨z, w, rfl, hz⟩
      · trivial
        exact ⟨g5, kvs, _, _, _, _, rfl, hd, by omega⟩
      · trivial
        obtain ⟨e1, hd', hl'⟩ := hd.set hz (v := .bool true) (by omega)
        rw [show PyData.tuple (cut [ti z.1, ti z.2, w] none (some 2)) = pr z from rfl, e1]
        trivial
        exact ⟨g5, _, _, _, _, _, rfl, hd', by omega⟩
  · refine ⟨g1, [], .un, .un, .un, .un, rfl, ⟨fun kv h => (by cases h), rfl⟩, ?_⟩
    simp
    omega
  · cases fl with
    | nx env =>
      rcases hq with ⟨g2, kvs, s6, s7, s8, s10, rfl, hd, hl⟩ | z
      · trivial
        by_cases hk : kvs.isEmpty = false
        · obtain ⟨ps, e1, hps, hlen⟩ := s_sortedD hd (by omega)
          rw [if_pos hk, e1]
          trivial
          refine h ps s2 g2 (fun z => ?_) (by omega) hps
          rw [z] at hlen
          cases kvs with
          | nil => cases hk
          | cons _ _ => cases hlen
        · rw [if_neg hk]
          trivial
          rw [show PyData.tuple [PyData.tuple [PyData.tuple (PyData.int 1 :: List.replicate ((a : Int) - 1).toNat (PyData.int 0)), PyData.tuple (List.replicate b (PyData.int 1))]] = .tuple ([((1 : Int) :: List.replicate ((a : Int) - 1).toNat 0, List.replicate b 1)].map pr) by simp]
          refine h _ s2 g2 (by simp) (by simp) fun q hq => ?_
          rw [List.mem_singleton.mp hq]
          refine ⟨⟨by simp; omega, fun x hx => ?_⟩, ⟨by simp, fun x hx => ?_⟩, rfl, ?_⟩
          · rcases List.mem_cons.mp hx with e | e
            · omega
            · have := (List.mem_replicate.mp e).2
              omega
          · have := (List.mem_replicate.mp hx).2
            omega
          · obtain ⟨n, rfl⟩ : ∃ n, b = n + 1 := ⟨b - 1, by omega⟩
            rfl
      · exact z.elim
    | rt d => exact hq.elim
    | br env => exact hq.elim
    | ct env => exact hq.elim
end K76
namespace K76
open Ev PySem
local macro_rules | `(tactic| trivial) => `(tactic| try simp (disch := (first | omega | (with_reducible assumption) | (simp only [List.length_map, List.length_append, List.length_cons, List.length_nil, List.length_zip, List.length_range, List.length_replicate, di]; omega))) only [v_var0, v_var1, v_glc, v_lit, v_dct0, kCons2_ok, kCons2F_ap, kCons_ok, kConsF_ap, v_nil, v_cons, kTupF_ap, kTup_ok, kLstF_ap, kLst_ok, v_tup, v_lst, kBin2_ok, kBin2F_ap, kBin_ok, kBinF_ap, v_bin, kNeg_ok, kNegF_ap, v_neg, kNot_ok, kNotF_ap, v_not, kBop2_ok, kBop2F_ap, kBopF_1, kBopF_2, kBop_1, kBop_2, v_bop, v_bops, kIfe2_ok, kIfe2F_ap, kIfe_ok, kIfeF_ap, v_ife, kCmp2_ok, kCmp2F_ap, kCmp_ok, kCmpF_ap, v_cmp, kChn3_ok, kChn3F_ap, kChn2_ok, kChn2F_ap, kChn_ok, kChnF_ap, v_chn, kIsn_ok, kIsnF_ap, v_isn, kMem2_ok, kMem2F_ap, kMem_ok, kMemF_ap, v_mem, kIx2_ok, kIx2F_ap, kIx_ok, kIxF_ap, v_ix, kO2_ok, kO2F_ap, kO_ok, kOF_ap, v_O0, v_O1, kSl3_ok, kSl3F_ap, kSl2_ok, kSl2F_ap, kSl_ok, kSlF_ap, v_sl, kRev_ok, kRevF_ap, v_rev, kCal3_ok, kCal3F_ap, kCal2_ok, kCal2F_ap, kCal_ok, kCalF_ap, v_cal, kBi_ok, kBiF_ap, v_bi, kIsi_ok, kIsiF_ap, v_isi, kGet3_ok, kGet3F_ap, kGet2_ok, kGet2F_ap, kGet_ok, kGetF_ap, v_get, kCf3_ok, kCf3F_ap, kCfc3_ok, kCfc3F_ap, kCfc2_ok, kCfc2F_ap, kCf_0, kCf_1, v_cf, kLc3F_ap, kLc3_ok, kLc2_ok, kLc2F_ap, kLc_ok, kLcF_ap, v_lc, kSeqF_rt, kSeqF_br, kSeqF_ct, kSeqF_nx, kSeq_nx, kSeq_rt, kSeq_br, kSeq_ct, x_nil, x_cons, kAsg2_ok, kAsg2F_ap, kAsg_ok, kAsgF_ap, x_asg, kAsT_ok, kAsTF_ap, x_asT, kPar_ok, kParF_ap, x_par, kStx4_ok, kStx4F_ap, kStx3_ok, kStx3F_ap, kStx2_ok, kStx2F_ap, kStx_ok, kStxF_ap, x_stx, kMut3_ok, kMut3F_ap, kMut2_ok, kMut2F_ap, kMut_ok, kMutF_ap, x_mut, kMutA3_ok, kMutA3F_ap, kMutA2_ok, kMutA2F_ap, kMutA_ok, kMutAF_ap, x_mutA, kExp_ok, kExpF_ap, x_exp, kIfs2_ok, kIfs2F_ap, kIfs_ok, kIfsF_ap, x_ifs, kFf_ok, kFfF_ap, v_ff, kFor2_ok, kFor2F_ap, kFor_ok, kForF_ap, x_frs, kWc_ok, kWcF_ap, v_wc, v_wb, x_whl, kRtn_ok, kRtnF_ap, x_rtn, x_rtnN, x_pas, x_brk, x_cnt, kRunN_nx, kRunN_rt, v_runN, kRunPF_nx, kRunPF_rt, kRunP_nx, kRunP_rt, v_runP, isD_int_none, isD_int_bool, isD_int_int, isD_int_str, isD_int_list, isD_int_tuple, isD_int_dict, isD_bool_none, isD_bool_bool, isD_bool_int, isD_bool_str, isD_bool_list, isD_bool_tuple, isD_bool_dict, isD_tuple_none, isD_tuple_bool, isD_tuple_int, isD_tuple_str, isD_tuple_list, isD_tuple_tuple, isD_tuple_dict, isD_list_none, isD_list_bool, isD_list_int, isD_list_str, isD_list_list, isD_list_tuple, isD_list_dict, isD_str_none, isD_str_bool, isD_str_int, isD_str_str, isD_str_list, isD_str_tuple, isD_str_dict, isD_dict_none, isD_dict_bool, isD_dict_int, isD_dict_str, isD_dict_list, isD_dict_tuple, isD_dict_dict, isN_none, isN_bool, isN_int, isN_str, isN_list, isN_tuple, isN_dict, Wb_ap, g__law_of, g_undoing, g_stepped, g_plain_code, g_other_code, g_is_row, g_first_item, g_is_pair, g_products_error, g_products_of, g_sum_by, g_values_at, g_product_code, g_checks_of, g__law_one, g__law_is_number, g__law_flat, g__law_spliced, g__law_bent, g__law_power, g__law_drawn_row, g__law_is_row, g__law_is_headed, g__law_plain_triple, g__law_less, g__law_reduced, g__law_plain_code, g__law_nought_rows, g__law_products, g__law_cells, g__law_values, g__law_fault, g__law_is_code_right, freeze_nil, freeze_cons, fz10, fz1S, fz_ow, fz_va, fz_un, wipe_nil, wipe_cons, wipe10, wipe1S, List.map_cons, List.map_nil, List.length_cons, List.length_nil, List.replicate_succ, List.replicate_zero, List.cons_append, List.nil_append, List.append_nil, Nat.reduceAdd, Nat.reduceSub, opt_some, bor0, borO, borS, esc0, escS, ownL0, ownLS, ownV0, ownVS, set0, setS, setV0, setVS, asg_nm, asg_tp, asgs0, asgsS, asgF_f, asgF_l, asgF_d, parF0, parFS, bind_some, map_some', s_add, s_sub, s_mul, s_mul', s_mod, s_fdiv, s_addT, s_addL, s_mulT, s_mulL, t_int, t_bool, t_none, t_list, t_tuple, s_len, s_lenT, s_tuple, s_tupleT, s_list, s_listT, s_int, s_intB, s_abs, s_sum, s_ixL, s_ixT, s_slL, s_slT, s_revL, s_revT, s_intOf, i_seqL, i_seqT, i_rng1, i_rng2, i_zip, i_enum, s_seqL, s_seqT, c_eq, c_ne, c_lt, c_le, c_gt, c_ge, calm_ok, calF_0, calF_S, pick0, pickS, get0, getS, zipL_map, enumL_map, rngL_nat, if_true, if_false, ite_true, ite_false, reduceIte, Bool.not_true, Bool.not_false, Bool.false_eq_true, at_zero, at_one, decide_eq_true_eq, Bool.not_eq_true', List.isEmpty_nil, List.isEmpty_cons, decide_eq_false_iff_not, i_sq, s_lsq, s_tsq, s_lensq, s_ixsq, s_seqsq, c_neR, c_neI, Bool.false_bne, c_neTT, rngL_two, rep_int, Int.toNat_natCast, c_neD0, lenOk_l, wp_okD, c_ne_0, c_ne_1, c_ne_2, c_eq_0, Option.toList_some, Option.toList_none, decide_true, decide_false, List.head?_nil, List.head?_cons, Int.cast_ofNat_Int, Int.reduceEq, Int.reduceLT, Int.reduceLE, Int.reduceAdd, Int.reduceSub, Int.reduceMul, Int.reduceNeg, eq_self, s_anyT, List.length_map, not_true_eq_false, not_false_eq_true, Bool.true_eq_false, Bool.true_bne, at_row, c_neT, memD_di, set_di, mul_zero, m_remove, map_same, List.map_id_fun', id_eq, List.map_id])
local macro_rules | `(tactic| infer_instance) => `(tactic| try simp only [kCons2, kCons, kTup, kLst, kBin2, kBin, kNeg, kNot, kBop2, kBop, kIfe2, kIfe, kCmp2, kCmp, kChn3, kChn2, kChn, kIsn, kMem2, kMem, kIx2, kIx, kO2, kO, kSl3, kSl2, kSl, kRev, kCal3, kCal2, kCal, kBi, kIsi, kGet3, kGet2, kGet, kCf3, kCfc3, kCfc2, kCf, kLc3, kLc2, kLc, kSeq, kAsg2, kAsg, kAsT, kPar, kStx4, kStx3, kStx2, kStx, kMut3, kMut2, kMut, kMutA3, kMutA2, kMutA, kExp, kIfs2, kIfs, kFf, kFor2, kFor, kWc, kRtn, kRunP, wp_bindW])
theorem e_products_of' {ts : List ((Row × Row) × D)} (hz : ts.length ≤ 1000) (q : PS) :
    F_products_of [.tuple (ts.map fun t => .tuple [ti t.1.1, ti t.1.2, t.2])] q = .ok (.tuple ((ts.map (·.1)).map pr)) q := by
  unfold F_products_of b_products_of
  trivial
  rw [compL_mapE (e := fun t : (Row × Row) × D => PyData.tuple [ti t.1.1, ti t.1.2, t.2]) pr (fun t => t.1)]
  · trivial
  · intro t ht p2
    trivial
/-- the first loop: values of products -/
theorem w_law1 {p : Int} (hp : Pr p) {a b : Nat} (ha : 1 ≤ a ∧ a ≤ 9) (hb : 1 ≤ b ∧ b ≤ 9) {ps : List (Row × Row)} (hps : ∀ q ∈ ps, IsProd p a b q) (hz : ps.length ≤ 24) {sc : Slot} {kept : D} {s : PS} {many : Int} {k : Fl → PS → Prop} (hg : Good s)
    (h : ∀ s' x y t9 t10 t11 t12 t13 t16, Good s' → InP p x → InP p y → k (.nx [sc, .un, .va (.int p), .va (.int a), .va (.int b), .va (.tuple (ps.map pr)), .va kept, .va (.int many), .va (ti (prodVals p ps x y)), t9, t10, t11, t12, t13, .un, .un, t16, .un, .un, .un, .un, .un, .un, .un, .un, .un, .un, .un]) s') :
    (forL (ff (calF cs_law) (.nm 9) b_law_1) [.int 0, .int 1] [sc, .un, .va (.int p), .va (.int a), .va (.int b), .va (.tuple (ps.map pr)), .va kept, .va (.int many), .va (.tuple []), .un, .un, .un, .un, .un, .un, .un, .un, .un, .un, .un, .un, .un, .un, .un, .un, .un, .un, .un] s).Wp k fun _ _ _ => False := by
  have pos := hp.pos
  have ple := hp.le
  have pge := hp.ge
  have hpo : ProdOk p a b ps := fun q hq => ⟨(hps q hq).1, (hps q hq).2.1⟩
  refine (forL_wp (E := fun _ _ _ => False) (B := fun _ _ => False) (R := fun _ _ => False) (Inv := fun rest env s => Good s ∧ ∃ t8 t9 t10 t11 t12 t13 t16, env = [sc, .un, .va (.int p), .va (.int a), .va (.int b), .va (.tuple (ps.map pr)), .va kept, .va (.int many), t8, t9, t10, t11, t12, t13, .un, .un, t16, .un, .un, .un, .un, .un, .un, .un, .un, .un, .un, .un] ∧ (rest.length < 2 → ∃ x y, InP p x ∧ InP p y ∧ t8 = .va (ti (prodVals p ps x y)))) _ _ _ (fun x0 rest env s2 hi => ?_) ?_).mono (fun fl s2 _ hq => ?_) fun _ _ _ _ z => z.elim
  · obtain ⟨g2, t8, t9, t10, t11, t12, t13, t16, rfl, _⟩ := hi
    unfold b_law_1
    trivial
    infer_instance
    refine w_drawn_row g2 (by omega) (by omega) fun x s3 g3 hx => ?_
    trivial
    infer_instance
    refine w_drawn_row g3 (by omega) (by omega) fun y s4 g4 hy => ?_
    trivial
    infer_instance
    refine w_drawn_row g4 (by omega) (by omega) fun z s5 g5 hz2 => ?_
    obtain ⟨xl, xi⟩ := hx
    obtain ⟨yl, yi⟩ := hy
    obtain ⟨zl, zi⟩ := hz2
    have v1 := e_values_at ⟨pos, ple⟩ hpo xi yi ha.2 hb.2 (by omega) s5
    have v2 := e_lvalues ⟨pos, ple⟩ hpo xi yi ha.2 hb.2 (by omega) s5
    have v3 := e_values_at ⟨pos, ple⟩ hpo zi yi ha.2 hb.2 (by omega) s5
    have v4 := e_values_at ⟨pos, ple⟩ hpo (addP_in pos x z) yi ha.2 hb.2 (by omega) s5
    rw [prodVals_add (by rw [xl, zl])] at v4
    have okv : RowOk p ps.length (prodVals p ps x y) := ⟨by simp [prodVals], fun i hi => by
      obtain ⟨q, _, rfl⟩ := List.mem_map.mp hi
      exact ⟨Int.emod_nonneg _ (by omega), Int.emod_lt_of_pos _ pos⟩⟩
    have ok2 := ok_two (ok_ti ple okv hz)
    have pvl : (prodVals p ps x y).length = ps.length := okv.1
    trivial
    rw [v2]
    trivial
    rw [v1]
    trivial
    rw [v1]
    trivial
    rw [s_reprL ok2 (by decide) (by decide)]
    trivial
    rw [s_reprL ok2 (by decide) (by decide)]
    trivial
    rw [c_neS ok2.txt ok2.txt]
    trivial
    rw [compL_mapE PyData.int (fun q : Int × Int => (q.1 + q.2) % p) (x.zip z), map_zip', show List.zipWith (fun x y => ((x, y).fst + (x, y).snd) % p) x z = addP p x z from rfl]
    · have al : (addP p x z).length ≤ 9 := by simp [addP]; omega
      trivial
      rw [v3]
      trivial
      rw [v4]
      trivial
      rw [compL_mapE PyData.int (fun q : Int × Int => (q.1 + q.2) % p) ((prodVals p ps x y).zip (prodVals p ps z y)), map_zip', show List.zipWith (fun x y => ((x, y).fst + (x, y).snd) % p) (prodVals p ps x y) (prodVals p ps z y) = addP p (prodVals p ps x y) (prodVals p ps z y) from rfl]
      · have al2 : (addP p (prodVals p ps x y) (prodVals p ps z y)).length ≤ 24 := by simp [addP, prodVals]; omega
        trivial
        exact ⟨g5, _, _, _, _, _, _, _, rfl, fun _ => ⟨x, y, xi, yi, rfl⟩⟩
      · intro q hq p3
        trivial
    · intro q hq p3
      trivial
  · exact ⟨hg, _, _, _, _, _, _, _, rfl, fun z => absurd z (by decide)⟩
  · cases fl with
    | nx env =>
      rcases hq with ⟨g2, t8, t9, t10, t11, t12, t13, t16, rfl, hx⟩ | z
      · obtain ⟨x, y, xi, yi, rfl⟩ := hx (by simp)
        exact h s2 x y t9 t10 t11 t12 t13 t16 g2 xi yi
      · exact z.elim
    | rt d => exact hq.elim
    | br env => exact hq.elim
    | ct env => exact hq.elim
/-- the second loop: values near to products -/
theorem w_law2 {p : Int} (hp : Pr p) {a b : Nat} (ha : 1 ≤ a ∧ a ≤ 9) (hb : 1 ≤ b ∧ b ≤ 9) {ps : List (Row × Row)} (hps : ∀ q ∈ ps, IsProd p a b q) (hne : ps ≠ []) (hz : ps.length ≤ 24) {sc kept t8 t9 t10 t11 t12 t13 t16 t17 : Slot} {os fs : List D}
    (hos : ∀ x ∈ os, Ok 900 4 x) (ho0 : os ≠ []) (hol : os.length ≤ 10) (hfs : ∀ x ∈ fs, VOk x) (hfl : fs.length = 7) {s : PS} {k : Fl → PS → Prop} (hg : Good s)
    (h : ∀ s' gs t18 t21 t22 t23 t24, Good s' → (∀ x ∈ gs, VOk x) → gs.length = 17 → k (.nx [sc, .un, .va (.int p), .va (.int a), .va (.int b), .va (.tuple (ps.map pr)), kept, .va (.int (ps.length : Int)), t8, t9, t10, t11, t12, t13, .un, .un, t16, t17, t18, .va (.list os), .ow (.list gs), t21, t22, t23, t24, .un, .un, .un]) s') :
    (forL (ff (calF cs_law) (.nm 21) b_law_2) ((List.range 5).map fun k : Nat => .int (k : Int)) [sc, .un, .va (.int p), .va (.int a), .va (.int b), .va (.tuple (ps.map pr)), kept, .va (.int (ps.length : Int)), t8, t9, t10, t11, t12, t13, .un, .un, t16, t17, .un, .va (.list os), .ow (.list fs), .un, .un, .un, .un, .un, .un, .un] s).Wp k fun _ _ _ => False := by
  have pos := hp.pos
  have ple := hp.le
  have pge := hp.ge
  have hl0 := List.length_pos_iff.mpr hne
  have okps : ∀ x ∈ ps.map pr, Ok 229 2 x := fun x hx => by
    obtain ⟨q, hq, rfl⟩ := List.mem_map.mp hx
    exact ok_pr ple (hps q hq).1 (hps q hq).2.1 ha.2 hb.2
  refine (forL_wp (E := fun _ _ _ => False) (B := fun _ _ => False) (R := fun _ _ => False) (Inv := fun rest env s => Good s ∧ ∃ gs t18 t21 t22 t23 t24, env = [sc, .un, .va (.int p), .va (.int a), .va (.int b), .va (.tuple (ps.map pr)), kept, .va (.int (ps.length : Int)), t8, t9, t10, t11, t12, t13, .un, .un, t16, t17, t18, .va (.list os), .ow (.list gs), t21, t22, t23, t24, .un, .un, .un] ∧ (∀ x ∈ gs, VOk x) ∧ gs.length + 2 * rest.length = 17) _ _ _ (fun x0 rest env s2 hi => ?_) ?_).mono (fun fl s2 _ hq => ?_) fun _ _ _ _ z => z.elim
  · obtain ⟨g2, gs, t18, t21, t22, t23, t24, rfl, hgs, hgl⟩ := hi
    rw [List.length_cons] at hgl
    unfold b_law_2
    trivial
    infer_instance
    refine of_wpN g2 (by omega) (by omega) fun i s3 g3 hi => ?_
    trivial
    infer_instance
    refine of_wp1 g3 (by omega) (by omega) fun m s4 g4 m0 m1 => ?_
    have hat : atI (ps.map pr) (i : Int) = some (pr ps[i]) := at_map hi
    obtain ⟨hq1, hq2, _, _⟩ := hps ps[i] (List.getElem_mem hi)
    generalize ps[i] = q at hat hq1 hq2
    have bnd : ∀ r : Row, InP p r → r.length ≤ 9 → (∀ x ∈ di r, Ok 10 0 x) := fun r hr hl => Ok.ints (inP_small (by omega) hr)
    have okos : ∀ x ∈ [PyData.int 0, .int 1, .int (p - 1), .int p, .int (-1), .bool true, .none], Ok 10 0 x := fun x hx => by
      simp only [List.mem_cons, List.not_mem_nil, or_false] at hx
      rcases hx with e | e | e | e | e | e | e
      · rw [e]; exact Ok.int9 (by omega) (by omega)
      · rw [e]; exact Ok.int9 (by omega) (by omega)
      · rw [e]; exact Ok.int9 (by omega) (by omega)
      · rw [e]; exact Ok.int9 (by omega) (by omega)
      · rw [e]; exact Ok.int9 (by omega) (by omega)
      · rw [e]; exact (Ok.bool true).mono (by omega) (by omega)
      · rw [e]; exact Ok.none.mono (by omega) (by omega)
    have c1 := cut_next (ps.map pr) i (by simpa using hi)
    rw [List.length_map] at c1
    have goOn : ∀ (d : D), Ok 300 3 d → VOk (.tuple (cut (ps.map pr) none (some (i : Int)) ++ [d] ++ cut (ps.map pr) (some ((i : Int) + 1)) none)) := fun d hd => VOk.tup (n := 300) (fun x hx => by
      rw [List.mem_append, List.mem_append] at hx
      rcases hx with (e | e) | e
      · exact (okps x (cut_mem e)).mono (by omega) (by omega)
      · rw [List.mem_singleton.mp e]
        exact hd.mono (by omega) (by omega)
      · exact (okps x (cut_mem e)).mono (by omega) (by omega)) (by rw [List.length_append, List.length_append, List.length_singleton]; omega) (by omega)
    have pair2 : ∀ x y : D, Ok 128 2 x → Ok 128 2 y → Ok 300 3 (.tuple [x, y]) := fun x y hx hy => (Ok.tuple (n := 128) (k := 2) (m := 2) (fun z hz => by
      rcases List.mem_cons.mp hz with e | e
      · rw [e]; exact hx
      · rcases List.mem_cons.mp e with e | e
        · rw [e]; exact hy
        · cases e) (by simp)).mono (by omega) (by omega)
    have hmm : m = 0 ∨ m = 1 := by omega
    rcases hmm with rfl | rfl
    · trivial
      rw [hat]
      trivial
      infer_instance
      refine w_bent (n := 0) g4 (by intro e; have := hq1.1; simp at e; rw [e] at this; simp at this; omega) (by simp) (by simp; have := hq1.1; omega) (by simp) (fun x hx => (bnd q.1 hq1.2 (by have := hq1.1; omega) x hx).lay') (by omega) fun d s5 g5 hd => ?_
      have okd := (hd.ok (m := 10) (bnd q.1 hq1.2 (by have := hq1.1; omega)) okos (by simp; have := hq1.1; omega) (by omega)).mono (n' := 128) (k' := 2) (by omega) (by omega)
      trivial
      rw [hat]
      trivial
      infer_instance
      refine w_bent (n := 4) g5 (by simpa using hne) ho0 (by simp; omega) (by omega) (fun x hx => ⟨(okps x hx).lay, Nat.le_trans (okps x hx).dep (by decide)⟩) (by omega) fun d2 s6 g6 hd2 => ?_
      have v2 := bent_vok hd2 (fun x hx => (okps x hx).mono (by omega) (by omega)) hos (by simp; omega)
      trivial
      rw [m_extend (by simp; omega)]
      trivial
      refine ⟨g6, _, _, _, _, _, _, rfl, fun x hx => ?_, by simp; omega⟩
      rcases List.mem_append.mp hx with e | e
      · exact hgs x e
      · rcases List.mem_cons.mp e with e | e
        · rw [e]
          exact goOn _ (pair2 _ _ okd ((ok_ti ple hq2 hb.2).mono (by omega) (by omega)))
        · rw [List.mem_singleton.mp e]
          exact v2
    · trivial
      rw [hat]
      trivial
      infer_instance
      refine w_bent (n := 0) g4 (by intro e; have := hq2.1; simp at e; rw [e] at this; simp at this; omega) (by simp) (by simp; have := hq2.1; omega) (by simp) (fun x hx => (bnd q.2 hq2.2 (by have := hq2.1; omega) x hx).lay') (by omega) fun d s5 g5 hd => ?_
      have okd := (hd.ok (m := 10) (bnd q.2 hq2.2 (by have := hq2.1; omega)) okos (by simp; have := hq2.1; omega) (by omega)).mono (n' := 128) (k' := 2) (by omega) (by omega)
      trivial
      rw [hat]
      trivial
      infer_instance
      refine w_bent (n := 4) g5 (by simpa using hne) ho0 (by simp; omega) (by omega) (fun x hx => ⟨(okps x hx).lay, Nat.le_trans (okps x hx).dep (by decide)⟩) (by omega) fun d2 s6 g6 hd2 => ?_
      have v2 := bent_vok hd2 (fun x hx => (okps x hx).mono (by omega) (by omega)) hos (by simp; omega)
      trivial
      rw [m_extend (by simp; omega)]
      trivial
      refine ⟨g6, _, _, _, _, _, _, rfl, fun x hx => ?_, by simp; omega⟩
      rcases List.mem_append.mp hx with e | e
      · exact hgs x e
      · rcases List.mem_cons.mp e with e | e
        · rw [e]
          exact goOn _ (pair2 _ _ ((ok_ti ple hq1 ha.2).mono (by omega) (by omega)) okd)
        · rw [List.mem_singleton.mp e]
          exact v2
  · exact ⟨hg, fs, _, _, _, _, _, rfl, hfs, by simp [hfl]⟩
  · cases fl with
    | nx env =>
      rcases hq with ⟨g2, gs, t18, t21, t22, t23, t24, rfl, hgs, hgl⟩ | z
      · exact h s2 gs t18 t21 t22 t23 t24 g2 hgs (by simpa using hgl)
      · exact z.elim
    | rt d => exact hq.elim
    | br env => exact hq.elim
    | ct env => exact hq.elim
/-- the third loop: what is wrong first -/
theorem w_law3 {p : Int} (hp : Pr p) {a b : Nat} (ha : 1 ≤ a ∧ a ≤ 9) (hb : 1 ≤ b ∧ b ≤ 9) {sc c5 c6 c7 t8 t9 t10 t11 t12 t13 t16 t17 t18 t19 t20 t21 t22 t23 t24 : Slot} {xs : List D}
    (hxs : ∀ x ∈ xs, Ok 3100000 6 x) {s : PS} {k : Fl → PS → Prop} (hg : Good s)
    (h : ∀ s' t8 t25 t26 t27, Good s' → k (.nx [sc, .un, .va (.int p), .va (.int a), .va (.int b), c5, c6, c7, t8, t9, t10, t11, t12, t13, .un, .un, t16, t17, t18, t19, t20, t21, t22, t23, t24, t25, t26, t27]) s') :
    (forL (ff (calF cs_law) (.nm 25) b_law_3) xs [sc, .un, .va (.int p), .va (.int a), .va (.int b), c5, c6, c7, t8, t9, t10, t11, t12, t13, .un, .un, t16, t17, t18, t19, t20, t21, t22, t23, t24, .un, .un, .un] s).Wp k fun _ _ _ => False := by
  have pos := hp.pos
  have ple := hp.le
  refine (forL_wp (E := fun _ _ _ => False) (B := fun _ _ => False) (R := fun _ _ => False) (Inv := fun rest env s => Good s ∧ (∀ x ∈ rest, Ok 3100000 6 x) ∧ ∃ t8 t25 t26 t27, env = [sc, .un, .va (.int p), .va (.int a), .va (.int b), c5, c6, c7, t8, t9, t10, t11, t12, t13, .un, .un, t16, t17, t18, t19, t20, t21, t22, t23, t24, t25, t26, t27]) _ _ _ (fun x rest env s2 hi => ?_) ?_).mono (fun fl s2 _ hq => ?_) fun _ _ _ _ z => z.elim
  · obtain ⟨g2, hr, t8, t25, t26, t27, rfl⟩ := hi
    have okx := hr x (List.mem_cons_self ..)
    have ok1 := ok_list1 okx
    have okf := ok_two (faultD_ok p a b x)
    have f1 := e_fault (p := p) (a := a) (b := b) (by omega) (by omega) (by omega) (k := 3) (by omega) okx.lay' s2
    have f2 := e_products_error (p := p) (a := a) (b := b) (by omega) (by omega) (by omega) (d := x) s2
    unfold b_law_3
    trivial
    rw [s_reprL ok1 (by decide) (by decide)]
    trivial
    rw [f1]
    trivial
    rw [f2]
    trivial
    rw [f2]
    trivial
    rw [s_reprL okf (by decide) (by decide)]
    trivial
    rw [s_reprL okf (by decide) (by decide)]
    trivial
    rw [c_neS okf.txt okf.txt]
    trivial
    rw [s_reprL ok1 (by decide) (by decide)]
    trivial
    rw [c_neS ok1.txt ok1.txt]
    trivial
    exact ⟨g2, fun y hy => hr y (List.mem_cons_of_mem _ hy), _, _, _, _, rfl⟩
  · exact ⟨hg, hxs, _, _, _, _, rfl⟩
  · cases fl with
    | nx env =>
      rcases hq with ⟨g2, _, t8, t25, t26, t27, rfl⟩ | z
      · exact h s2 t8 t25 t26 t27 g2
      · exact z.elim
    | rt d => exact hq.elim
    | br env => exact hq.elim
    | ct env => exact hq.elim
theorem law_true {s : PS} (hg : Good s) : (exs (calF cs_law) b_law (.un :: .un :: List.replicate 26 .un) s).Wp (fun fl _ => fl = .rt (.bool true)) fun _ _ _ => False := by
  unfold b_law
  trivial
  infer_instance
  refine w_one hg (by simp) (by simp) fun d s1 g1 hd => ?_
  obtain ⟨p, rfl, hp⟩ : ∃ p, d = .int p ∧ Pr p := by
    simp only [List.mem_cons, List.not_mem_nil, or_false] at hd
    rcases hd with e | e | e | e <;> exact ⟨_, e, by unfold Pr; omega⟩
  have pos := hp.pos
  have ple := hp.le
  have pge := hp.ge
  have side : ∀ d ∈ [PyData.int 3, .int 3, .int 9], ∃ n : Nat, d = .int (n : Int) ∧ 1 ≤ n ∧ n ≤ 9 := fun d hd => by
    simp only [List.mem_cons, List.not_mem_nil, or_false] at hd
    rcases hd with e | e | e
    · exact ⟨3, e, by omega, by omega⟩
    · exact ⟨3, e, by omega, by omega⟩
    · exact ⟨9, e, by omega, by omega⟩
  trivial
  infer_instance
  refine w_one g1 (by simp) (by simp) fun d s2 g2 hd => ?_
  obtain ⟨n, rfl, n1, n2⟩ := side d hd
  trivial
  infer_instance
  refine of_wpN g2 (by omega) (by omega) fun i s3 g3 hi => ?_
  trivial
  infer_instance
  refine w_one g3 (by simp) (by simp) fun d s4 g4 hd => ?_
  obtain ⟨n', rfl, n1', n2'⟩ := side d hd
  trivial
  infer_instance
  refine of_wpN g4 (by omega) (by omega) fun j s5 g5 hj => ?_
  rw [show (1 : Int) + (i : Int) = ((i + 1 : Nat) : Int) by omega]
  trivial
  rw [show (1 : Int) + (j : Int) = ((j + 1 : Nat) : Int) by omega]
  generalize ha : i + 1 = a
  generalize hb : j + 1 = b
  have ha9 : 1 ≤ a ∧ a ≤ 9 := by omega
  have hb9 : 1 ≤ b ∧ b ≤ 9 := by omega
  clear hi hj
  infer_instance
  refine w_one g5 (by simp) (by simp) fun d s6 g6 hd => ?_
  obtain ⟨most, rfl, m1, m2⟩ : ∃ n : Nat, d = .int (n : Int) ∧ 1 ≤ n ∧ n ≤ 24 := by
    simp only [List.mem_cons, List.not_mem_nil, or_false] at hd
    rcases hd with e | e | e
    · exact ⟨6, e, by omega, by omega⟩
    · exact ⟨6, e, by omega, by omega⟩
    · exact ⟨24, e, by omega, by omega⟩
  trivial
  infer_instance
  refine w_products hp ha9 hb9 ⟨m1, m2⟩ g6 fun ps s7 g7 hne hz hps => ?_
  have okps : ∀ x ∈ ps.map pr, Ok 229 2 x := fun x hx => by
    obtain ⟨q, hq, rfl⟩ := List.mem_map.mp hx
    exact ok_pr ple (hps q hq).1 (hps q hq).2.1 ha9.2 hb9.2
  have okP : Ok 5547 3 (.tuple (ps.map pr)) := Ok.tuple (m := 24) okps (by simpa using hz)
  trivial
  rw [s_reprT okP (by decide) (by decide)]
  trivial
  infer_instance
  refine w_law1 hp ha9 hb9 hps hz g7 fun s8 x y t9 t10 t11 t12 t13 t16 g8 hx hy => ?_
  have hpo : ProdOk p a b ps := fun q hq => ⟨(hps q hq).1, (hps q hq).2.1⟩
  have hred : red p ps.length (prodRows p a b ps) ≠ [] := by
    cases ps with
    | nil => exact absurd rfl hne
    | cons q rest =>
      obtain ⟨q1, q2, q3, q4⟩ := hps q (List.mem_cons_self ..)
      obtain ⟨i1, h1, e1⟩ := headed_at q3
      obtain ⟨j1, h2, e2⟩ := headed_at q4
      refine red_ne hp (prodRows_ok pos a b _) (r := prodRow p (q :: rest) i1 j1) (List.mem_flatMap.mpr ⟨i1, List.mem_range.mpr (by have := q1.1; omega), List.mem_map.mpr ⟨j1, List.mem_range.mpr (by have := q2.1; omega), rfl⟩⟩) ?_
      show at0 q.1 i1 * at0 q.2 j1 % p = 1
      rw [e1, e2]
      exact Int.emod_eq_of_lt (by decide) (by omega)
  have right := e_code_right hp hpo (by omega) (by omega) (by omega) hx hy hred s8
  trivial
  obtain ⟨t, ht⟩ : ∃ t, (if ¬(a : Int) * b < 13 then (Out.ok (PyData.bool (decide ((ps.length : Int) < 7))) s8) else Out.ok (PyData.bool (decide ((a : Int) * b < 13))) s8) = .ok (.bool t) s8 := by
    split <;> exact ⟨_, rfl⟩
  rw [ht]
  generalize hO : kBop (calF cs_law) true _ _ (Out.ok (PyData.bool t) s8) = o
  have ho : o = .ok (.bool false) s8 := by
    rw [← hO]
    cases t
    · trivial
    · trivial
      rw [right]
      trivial
  rw [ho]
  trivial
  infer_instance
  refine Out.wp_calm ((compL_wp' (e := pr) (I := Good) (R := fun q d => ∃ w, d = .tuple [ti q.1, ti q.2, w]) ps s8 (fun q hq s9 g9 => ?_) g8).mono (fun ys s9 _ hy => ?_) fun _ _ _ _ z => z)
  · trivial
    infer_instance
    refine w_drawn_row (n := 2) g9 (by omega) (by omega) fun r s10 g10 hr => ?_
    have rl := hr.1
    trivial
    exact ⟨g10, _, rfl, _, rfl⟩
  · obtain ⟨g9, al⟩ := hy
    obtain ⟨ts, rfl, hts⟩ := trip_of al
    have tl : ts.length ≤ 24 := by
      have : (ts.map (·.1)).length ≤ 24 := by rw [hts]; exact hz
      simpa using this
    have po := e_products_of' (ts := ts) (by omega) s9
    rw [hts] at po
    have okPP := ok_two okP
    trivial
    rw [po]
    trivial
    rw [po]
    trivial
    rw [s_reprL okPP (by decide) (by decide)]
    trivial
    rw [s_reprL okPP (by decide) (by decide)]
    trivial
    rw [c_neS okPP.txt okPP.txt]
    trivial
    obtain ⟨q0, m0, hat0⟩ := at_first (e := pr) hne
    obtain ⟨q01, q02, _, _⟩ := hps q0 m0
    iterate 5
      rw [hat0]
      trivial
    rw [rep_two]
    trivial
    rw [hat0]
    trivial
    have ok0 : Ok 229 2 (pr q0) := ok_pr ple q01 q02 ha9.2 hb9.2
    have ok1 := (ok_ti ple q01 ha9.2).mono (n' := 229) (k' := 2) (by omega) (by omega)
    have ok2 := (ok_ti ple q02 hb9.2).mono (n' := 229) (k' := 2) (by omega) (by omega)
    have pr2 : ∀ {u v : D}, Ok 229 2 u → Ok 229 2 v → Ok 465 3 (.tuple [u, v]) ∧ Ok 464 3 (.list [u, v]) := fun {u v} hu hv => by
      have : ∀ x ∈ [u, v], Ok 229 2 x := fun x hx => by
        rcases List.mem_cons.mp hx with e | e
        · rw [e]; exact hu
        · rw [List.mem_singleton.mp e]; exact hv
      exact ⟨(Ok.tuple (m := 2) this (by simp)).mono (by omega) (by omega), (Ok.list (m := 2) this (by simp)).mono (by omega) (by omega)⟩
    have hos : ∀ x ∈ [PyData.none, .int 0, .tuple [], pr q0, .tuple [ti q0.2, ti q0.1], .list [ti q0.1, ti q0.2]], Ok 900 4 x := fun x hx => by
      simp only [List.mem_cons, List.not_mem_nil, or_false] at hx
      rcases hx with e | e | e | e | e | e
      · rw [e]; exact Ok.none.mono (by omega) (by omega)
      · rw [e]; exact (Ok.int9 (by omega) (by omega)).mono (by omega) (by omega)
      · rw [e]; exact (Ok.tuple (n := 0) (k := 0) (m := 0) (fun x hx => by cases hx) (by simp)).mono (by omega) (by omega)
      · rw [e]; exact ok0.mono (by omega) (by omega)
      · rw [e]; exact (pr2 ok2 ok1).1.mono (by omega) (by omega)
      · rw [e]; exact (pr2 ok1 ok2).2.mono (by omega) (by omega)
    have okps5 : ∀ x ∈ ps.map pr, Ok 229 5 x := fun x hx => (okps x hx).mono (by omega) (by omega)
    have psl : (ps.map pr).length ≤ 24 := by simpa using hz
    have hfs : ∀ x ∈ [PyData.tuple (ps.map pr), .tuple [], .none, .tuple (ps.map pr).reverse, .tuple (ps.map pr ++ ps.map pr), .list (ps.map pr), .tuple (List.replicate 25 (pr q0))], VOk x := fun x hx => by
      simp only [List.mem_cons, List.not_mem_nil, or_false] at hx
      rcases hx with e | e | e | e | e | e | e
      · rw [e]; exact VOk.tup okps5 (by omega) (by omega)
      · rw [e]; exact VOk.tup (n := 0) (fun x hx => by cases hx) (by simp) (by omega)
      · rw [e]; exact VOk.non
      · rw [e]; exact VOk.tup (fun x hx => okps5 x (List.mem_reverse.mp hx)) (by simpa using (by omega : ps.length ≤ 60)) (by omega)
      · rw [e]; exact VOk.tup (fun x hx => (List.mem_append.mp hx).elim (okps5 x) (okps5 x)) (by rw [List.length_append]; omega) (by omega)
      · rw [e]; exact VOk.lst okps5 (by omega) (by omega)
      · rw [e]
        refine VOk.tup (n := 229) (fun x hx => ?_) (by simp) (by omega)
        rw [(List.mem_replicate.mp hx).2]
        exact ok0.mono (by omega) (by omega)
    rw [rngL_five]
    infer_instance
    refine w_law2 hp ha9 hb9 hps hne hz hos (by simp) (by simp) hfs rfl g9 fun s10 gs t18 t21 t22 t23 t24 g10 hgs hgl => ?_
    trivial
    rw [rngL_7_13]
    infer_instance
    refine Out.wp_calm ((compL_wp' (e := fun k : Nat => PyData.int ((k + 7 : Nat) : Int)) (I := Good) (R := fun _ d => Ok 3100000 6 d) (List.range 6) s10 (fun k hk s11 g11 => ?_) g10).mono (fun ys s11 _ hy => ?_) fun _ _ _ _ z => z)
    · have hk6 := List.mem_range.mp hk
      have h1 : k + 7 < gs.length := by omega
      have h2 : k + 9 < gs.length := by omega
      have a1 : atI gs ((k + 7 : Nat) : Int) = some gs[k + 7] := atI_ofNat h1
      have a2 : atI gs ((k + 9 : Nat) : Int) = some gs[k + 9] := atI_ofNat h2
      have v1 := hgs _ (List.getElem_mem h1)
      have v2 := hgs _ (List.getElem_mem h2)
      trivial
      rw [a1]
      trivial
      rw [show ((k + 7 : Nat) : Int) + 2 = ((k + 9 : Nat) : Int) by omega, a2]
      trivial
      infer_instance
      refine w_spliced g11 (fun xs e => by have := (v1.its xs e).2; omega) (fun xs e => by have := (v2.its xs e).2; omega) (fun s12 g12 => ?_) fun xs ys i s12 g12 e1 e2 => ?_
      · trivial
        exact ⟨g12, _, rfl, v1.ok.mono (by omega) (by omega)⟩
      · trivial
        exact ⟨g12, _, rfl, spliced_ok (v1.its xs e1) (v2.its ys e2)⟩
    · obtain ⟨g11, al⟩ := hy
      have yl : ys.length = 6 := by rw [al.length]; rfl
      have yo := al.of_all fun _ d h => h
      trivial
      infer_instance
      refine w_law3 hp ha9 hb9 (xs := gs ++ ys) (fun x hx => ?_) g11 fun s12 t8 t25 t26 t27 g12 => ?_
      · rcases List.mem_append.mp hx with e | e
        · exact (hgs x e).ok.mono (by omega) (by omega)
        · exact yo x e
      · trivial
        rw [s_reprT okP (by decide) (by decide)]
        trivial
        rw [c_eqS okP.txt okP.txt]
        trivial
end K76
set_option maxHeartbeats 20000000
namespace K76
open Ev PySem PySem.Spec PyProof.Rows L2
def top (i : Nat) : Stmt := PySem.Challenge.pw_fewproducts_k76_whole_product_lists.main.body.getD i (.Pass ⟨0, 0, 0, 0⟩)
abbrev FnP (K : PySem.W.Frag) (x : Str) (st : Stmt) (f : Addr) (fd : FuncData) : Prop := FunD K x x (defArgs st) (defBody st) (defScope st) [] [] f fd
section
variable {P : Program} {w : World} {K : PySem.W.Frag} {mg : Str → Option Value} {base : Heap}
/-! ### undoing: 0 p 1 number 2 own -/
abbrev s_undoing : Stmt := top 2
theorem sc_undoing : FnScope N_undoing ["p", "number"] (defScope s_undoing) := ⟨rfl, rfl, rfl, by decide +kernel, rfl, by decide +kernel, by decide +kernel⟩
theorem is_undoing : isSs (mkJ N_undoing 1000 false cs_undoing ks0) (defScope s_undoing) b_undoing (defBody s_undoing) = true := by decide +kernel
theorem sh_undoing {K : PySem.W.Frag} {f : Addr} {fd : FuncData} (F : FnP K "undoing" s_undoing f fd) : ∀ q ∈ c_undoing.shapes, Shape K fd ["p", "number"] q.1 q.2.1 q.2.2 :=
  List.forall_mem_cons.mpr ⟨shape_of F fun _ _ _ _ _ _ us ws as h1 h2 h3 => match us, ws, h1, h2, h3 with
    | [a0, a1], [], _, _, h3 => (by cases h3; exact ⟨rfl, rfl⟩), List.forall_mem_nil _⟩
theorem ok_undoing {f : Addr} {fd : FuncData} (T : TopOk mg base ks0) (F : FnP K "undoing" s_undoing f fd) (hg : mg "undoing" = some (.ref f))  : DefOk P w K mg base 1 c_undoing :=
  defOk_N (k := 0) (c := c_undoing) (N := N_undoing) (ps := ["p", "number"]) (cs := cs_undoing) (ks := ks0) (pi := 1000) (ir := b_undoing) T F hg sc_undoing (List.forall_mem_nil _) rfl rfl is_undoing (sh_undoing F)
/-! ### stepped: 0 p 1 rows 2 left 3 done 4 row 5 place 6 some 7 by 8 lead 9 item 10 a 11 b -/
abbrev s_stepped : Stmt := top 4
theorem sc_stepped : FnScope N_stepped ["p", "rows"] (defScope s_stepped) := ⟨rfl, rfl, rfl, by decide +kernel, rfl, by decide +kernel, by decide +kernel⟩
theorem is_stepped : isSs (mkJ N_stepped 1000 false cs_stepped ks0) (defScope s_stepped) b_stepped (defBody s_stepped) = true := by decide +kernel
theorem sh_stepped {K : PySem.W.Frag} {f : Addr} {fd : FuncData} (F : FnP K "stepped" s_stepped f fd) : ∀ q ∈ c_stepped.shapes, Shape K fd ["p", "rows"] q.1 q.2.1 q.2.2 :=
  List.forall_mem_cons.mpr ⟨shape_of F fun _ _ _ _ _ _ us ws as h1 h2 h3 => match us, ws, h1, h2, h3 with
    | [a0, a1], [], _, _, h3 => (by cases h3; exact ⟨rfl, rfl⟩), List.forall_mem_nil _⟩
theorem ok_stepped {f : Addr} {fd : FuncData} (T : TopOk mg base ks0) (F : FnP K "stepped" s_stepped f fd) (hg : mg "stepped" = some (.ref f)) (h_undoing : DefOk P w K mg base 1 c_undoing) : DefOk P w K mg base 2 c_stepped :=
  defOk_N (k := 1) (c := c_stepped) (N := N_stepped) (ps := ["p", "rows"]) (cs := cs_stepped) (ks := ks0) (pi := 1000) (ir := b_stepped) T F hg sc_stepped (List.forall_mem_cons.mpr ⟨h_undoing.mono (by decide), List.forall_mem_nil _⟩) rfl rfl is_stepped (sh_stepped F)
/-! ### plain_code: 0 p 1 code -/
abbrev s_plain_code : Stmt := top 5
theorem sc_plain_code : FnScope N_plain_code ["p", "code"] (defScope s_plain_code) := ⟨rfl, rfl, rfl, by decide +kernel, rfl, by decide +kernel, by decide +kernel⟩
theorem is_plain_code : isSs (mkJ N_plain_code 1000 false cs_plain_code ks0) (defScope s_plain_code) b_plain_code (defBody s_plain_code) = true := by decide +kernel
theorem sh_plain_code {K : PySem.W.Frag} {f : Addr} {fd : FuncData} (F : FnP K "plain_code" s_plain_code f fd) : ∀ q ∈ c_plain_code.shapes, Shape K fd ["p", "code"] q.1 q.2.1 q.2.2 :=
  List.forall_mem_cons.mpr ⟨shape_of F fun _ _ _ _ _ _ us ws as h1 h2 h3 => match us, ws, h1, h2, h3 with
    | [a0, a1], [], _, _, h3 => (by cases h3; exact ⟨rfl, rfl⟩), List.forall_mem_nil _⟩
theorem ok_plain_code {f : Addr} {fd : FuncData} (T : TopOk mg base ks0) (F : FnP K "plain_code" s_plain_code f fd) (hg : mg "plain_code" = some (.ref f)) (h_stepped : DefOk P w K mg base 2 c_stepped) : DefOk P w K mg base 3 c_plain_code :=
  defOk_N (k := 2) (c := c_plain_code) (N := N_plain_code) (ps := ["p", "code"]) (cs := cs_plain_code) (ks := ks0) (pi := 1000) (ir := b_plain_code) T F hg sc_plain_code (List.forall_mem_cons.mpr ⟨h_stepped.mono (by decide), List.forall_mem_nil _⟩) rfl rfl is_plain_code (sh_plain_code F)
/-! ### other_code: 0 p 1 code 2 plain 3 n 4 heads 5 spot 6 item 7 maker 8 found 9 free 10 row 11 place 12 head -/
abbrev s_other_code : Stmt := top 6
theorem sc_other_code : FnScope N_other_code ["p", "code"] (defScope s_other_code) := ⟨rfl, rfl, rfl, by decide +kernel, rfl, by decide +kernel, by decide +kernel⟩
theorem is_other_code : isSs (mkJ N_other_code 1000 false cs_other_code ks0) (defScope s_other_code) b_other_code (defBody s_other_code) = true := by decide +kernel
theorem sh_other_code {K : PySem.W.Frag} {f : Addr} {fd : FuncData} (F : FnP K "other_code" s_other_code f fd) : ∀ q ∈ c_other_code.shapes, Shape K fd ["p", "code"] q.1 q.2.1 q.2.2 :=
  List.forall_mem_cons.mpr ⟨shape_of F fun _ _ _ _ _ _ us ws as h1 h2 h3 => match us, ws, h1, h2, h3 with
    | [a0, a1], [], _, _, h3 => (by cases h3; exact ⟨rfl, rfl⟩), List.forall_mem_nil _⟩
theorem ok_other_code {f : Addr} {fd : FuncData} (T : TopOk mg base ks0) (F : FnP K "other_code" s_other_code f fd) (hg : mg "other_code" = some (.ref f)) (h_stepped : DefOk P w K mg base 2 c_stepped) : DefOk P w K mg base 3 c_other_code :=
  defOk_N (k := 2) (c := c_other_code) (N := N_other_code) (ps := ["p", "code"]) (cs := cs_other_code) (ks := ks0) (pi := 1000) (ir := b_other_code) T F hg sc_other_code (List.forall_mem_cons.mpr ⟨h_stepped.mono (by decide), List.forall_mem_nil _⟩) rfl rfl is_other_code (sh_other_code F)
/-! ### is_row: 0 p 1 many 2 value 3 item -/
abbrev s_is_row : Stmt := top 8
theorem sc_is_row : FnScope N_is_row ["p", "many", "value"] (defScope s_is_row) := ⟨rfl, rfl, rfl, by decide +kernel, rfl, by decide +kernel, by decide +kernel⟩
theorem is_is_row : isSs (mkJ N_is_row 1000 false cs_is_row ks0) (defScope s_is_row) b_is_row (defBody s_is_row) = true := by decide +kernel
theorem sh_is_row {K : PySem.W.Frag} {f : Addr} {fd : FuncData} (F : FnP K "is_row" s_is_row f fd) : ∀ q ∈ c_is_row.shapes, Shape K fd ["p", "many", "value"] q.1 q.2.1 q.2.2 :=
  List.forall_mem_cons.mpr ⟨shape_of F fun _ _ _ _ _ _ us ws as h1 h2 h3 => match us, ws, h1, h2, h3 with
    | [a0, a1, a2], [], _, _, h3 => (by cases h3; exact ⟨rfl, rfl⟩), List.forall_mem_nil _⟩
theorem ok_is_row {f : Addr} {fd : FuncData} (T : TopOk mg base ks0) (F : FnP K "is_row" s_is_row f fd) (hg : mg "is_row" = some (.ref f))  : DefOk P w K mg base 1 c_is_row :=
  defOk_N (k := 0) (c := c_is_row) (N := N_is_row) (ps := ["p", "many", "value"]) (cs := cs_is_row) (ks := ks0) (pi := 1000) (ir := b_is_row) T F hg sc_is_row (List.forall_mem_nil _) rfl rfl is_is_row (sh_is_row F)
/-! ### first_item: 0 row 1 item -/
abbrev s_first_item : Stmt := top 9
theorem sc_first_item : FnScope N_first_item ["row"] (defScope s_first_item) := ⟨rfl, rfl, rfl, by decide +kernel, rfl, by decide +kernel, by decide +kernel⟩
theorem is_first_item : isSs (mkJ N_first_item 1000 false cs_first_item ks0) (defScope s_first_item) b_first_item (defBody s_first_item) = true := by decide +kernel
theorem sh_first_item {K : PySem.W.Frag} {f : Addr} {fd : FuncData} (F : FnP K "first_item" s_first_item f fd) : ∀ q ∈ c_first_item.shapes, Shape K fd ["row"] q.1 q.2.1 q.2.2 :=
  List.forall_mem_cons.mpr ⟨shape_of F fun _ _ _ _ _ _ us ws as h1 h2 h3 => match us, ws, h1, h2, h3 with
    | [a0], [], _, _, h3 => (by cases h3; exact ⟨rfl, rfl⟩), List.forall_mem_nil _⟩
theorem ok_first_item {f : Addr} {fd : FuncData} (T : TopOk mg base ks0) (F : FnP K "first_item" s_first_item f fd) (hg : mg "first_item" = some (.ref f))  : DefOk P w K mg base 1 c_first_item :=
  defOk_N (k := 0) (c := c_first_item) (N := N_first_item) (ps := ["row"]) (cs := cs_first_item) (ks := ks0) (pi := 1000) (ir := b_first_item) T F hg sc_first_item (List.forall_mem_nil _) rfl rfl is_first_item (sh_first_item F)
/-! ### is_pair: 0 p 1 sides 2 value -/
abbrev s_is_pair : Stmt := top 11
theorem sc_is_pair : FnScope N_is_pair ["p", "sides", "value"] (defScope s_is_pair) := ⟨rfl, rfl, rfl, by decide +kernel, rfl, by decide +kernel, by decide +kernel⟩
theorem is_is_pair : isSs (mkJ N_is_pair 1000 false cs_is_pair ks0) (defScope s_is_pair) b_is_pair (defBody s_is_pair) = true := by decide +kernel
theorem sh_is_pair {K : PySem.W.Frag} {f : Addr} {fd : FuncData} (F : FnP K "is_pair" s_is_pair f fd) : ∀ q ∈ c_is_pair.shapes, Shape K fd ["p", "sides", "value"] q.1 q.2.1 q.2.2 :=
  List.forall_mem_cons.mpr ⟨shape_of F fun _ _ _ _ _ _ us ws as h1 h2 h3 => match us, ws, h1, h2, h3 with
    | [a0, a1, a2], [], _, _, h3 => (by cases h3; exact ⟨rfl, rfl⟩), List.forall_mem_nil _⟩
theorem ok_is_pair {f : Addr} {fd : FuncData} (T : TopOk mg base ks0) (F : FnP K "is_pair" s_is_pair f fd) (hg : mg "is_pair" = some (.ref f)) (h_is_row : DefOk P w K mg base 1 c_is_row) (h_first_item : DefOk P w K mg base 1 c_first_item) : DefOk P w K mg base 2 c_is_pair :=
  defOk_N (k := 1) (c := c_is_pair) (N := N_is_pair) (ps := ["p", "sides", "value"]) (cs := cs_is_pair) (ks := ks0) (pi := 1000) (ir := b_is_pair) T F hg sc_is_pair (List.forall_mem_cons.mpr ⟨h_is_row.mono (by decide), List.forall_mem_cons.mpr ⟨h_first_item.mono (by decide), List.forall_mem_nil _⟩⟩) rfl rfl is_is_pair (sh_is_pair F)
/-! ### products_error: 0 p 1 sides 2 value 3 place 4 pair -/
abbrev s_products_error : Stmt := top 12
theorem sc_products_error : FnScope N_products_error ["p", "sides", "value"] (defScope s_products_error) := ⟨rfl, rfl, rfl, by decide +kernel, rfl, by decide +kernel, by decide +kernel⟩
theorem is_products_error : isSs (mkJ N_products_error 1000 false cs_products_error ks0) (defScope s_products_error) b_products_error (defBody s_products_error) = true := by decide +kernel
theorem sh_products_error {K : PySem.W.Frag} {f : Addr} {fd : FuncData} (F : FnP K "products_error" s_products_error f fd) : ∀ q ∈ c_products_error.shapes, Shape K fd ["p", "sides", "value"] q.1 q.2.1 q.2.2 :=
  List.forall_mem_cons.mpr ⟨shape_of F fun _ _ _ _ _ _ us ws as h1 h2 h3 => match us, ws, h1, h2, h3 with
    | [a0, a1, a2], [], _, _, h3 => (by cases h3; exact ⟨rfl, rfl⟩), List.forall_mem_cons.mpr ⟨shape_of F fun _ _ _ _ _ _ us ws as h1 h2 h3 => match us, ws, h1, h2, h3 with
    | [], [b0, b1, b2], _, _, h3 => (by cases h3; exact ⟨rfl, rfl⟩), List.forall_mem_nil _⟩⟩
theorem ok_products_error {f : Addr} {fd : FuncData} (T : TopOk mg base ks0) (F : FnP K "products_error" s_products_error f fd) (hg : mg "products_error" = some (.ref f)) (h_is_pair : DefOk P w K mg base 2 c_is_pair) : DefOk P w K mg base 3 c_products_error :=
  defOk_N (k := 2) (c := c_products_error) (N := N_products_error) (ps := ["p", "sides", "value"]) (cs := cs_products_error) (ks := ks0) (pi := 1000) (ir := b_products_error) T F hg sc_products_error (List.forall_mem_cons.mpr ⟨h_is_pair.mono (by decide), List.forall_mem_nil _⟩) rfl rfl is_products_error (sh_products_error F)
/-! ### products_of: 0 scheme 1 u 2 v 3 w -/
abbrev s_products_of : Stmt := top 13
theorem sc_products_of : FnScope N_products_of ["scheme"] (defScope s_products_of) := ⟨rfl, rfl, rfl, by decide +kernel, rfl, by decide +kernel, by decide +kernel⟩
theorem is_products_of : isSs (mkJ N_products_of 1000 false cs_products_of ks0) (defScope s_products_of) b_products_of (defBody s_products_of) = true := by decide +kernel
theorem sh_products_of {K : PySem.W.Frag} {f : Addr} {fd : FuncData} (F : FnP K "products_of" s_products_of f fd) : ∀ q ∈ c_products_of.shapes, Shape K fd ["scheme"] q.1 q.2.1 q.2.2 :=
  List.forall_mem_cons.mpr ⟨shape_of F fun _ _ _ _ _ _ us ws as h1 h2 h3 => match us, ws, h1, h2, h3 with
    | [a0], [], _, _, h3 => (by cases h3; exact ⟨rfl, rfl⟩), List.forall_mem_cons.mpr ⟨shape_of F fun _ _ _ _ _ _ us ws as h1 h2 h3 => match us, ws, h1, h2, h3 with
    | [], [b0], _, _, h3 => (by cases h3; exact ⟨rfl, rfl⟩), List.forall_mem_nil _⟩⟩
theorem ok_products_of {f : Addr} {fd : FuncData} (T : TopOk mg base ks0) (F : FnP K "products_of" s_products_of f fd) (hg : mg "products_of" = some (.ref f))  : DefOk P w K mg base 1 c_products_of :=
  defOk_N (k := 0) (c := c_products_of) (N := N_products_of) (ps := ["scheme"]) (cs := cs_products_of) (ks := ks0) (pi := 1000) (ir := b_products_of) T F hg sc_products_of (List.forall_mem_nil _) rfl rfl is_products_of (sh_products_of F)
/-! ### sum_by: 0 row 1 letters 2 item 3 own -/
abbrev s_sum_by : Stmt := top 14
theorem sc_sum_by : FnScope N_sum_by ["row", "letters"] (defScope s_sum_by) := ⟨rfl, rfl, rfl, by decide +kernel, rfl, by decide +kernel, by decide +kernel⟩
theorem is_sum_by : isSs (mkJ N_sum_by 1000 false cs_sum_by ks0) (defScope s_sum_by) b_sum_by (defBody s_sum_by) = true := by decide +kernel
theorem sh_sum_by {K : PySem.W.Frag} {f : Addr} {fd : FuncData} (F : FnP K "sum_by" s_sum_by f fd) : ∀ q ∈ c_sum_by.shapes, Shape K fd ["row", "letters"] q.1 q.2.1 q.2.2 :=
  List.forall_mem_cons.mpr ⟨shape_of F fun _ _ _ _ _ _ us ws as h1 h2 h3 => match us, ws, h1, h2, h3 with
    | [a0, a1], [], _, _, h3 => (by cases h3; exact ⟨rfl, rfl⟩), List.forall_mem_nil _⟩
theorem ok_sum_by {f : Addr} {fd : FuncData} (T : TopOk mg base ks0) (F : FnP K "sum_by" s_sum_by f fd) (hg : mg "sum_by" = some (.ref f))  : DefOk P w K mg base 1 c_sum_by :=
  defOk_N (k := 0) (c := c_sum_by) (N := N_sum_by) (ps := ["row", "letters"]) (cs := cs_sum_by) (ks := ks0) (pi := 1000) (ir := b_sum_by) T F hg sc_sum_by (List.forall_mem_nil _) rfl rfl is_sum_by (sh_sum_by F)
/-! ### values_at: 0 p 1 products 2 x 3 y 4 u 5 v -/
abbrev s_values_at : Stmt := top 15
theorem sc_values_at : FnScope N_values_at ["p", "products", "x", "y"] (defScope s_values_at) := ⟨rfl, rfl, rfl, by decide +kernel, rfl, by decide +kernel, by decide +kernel⟩
theorem is_values_at : isSs (mkJ N_values_at 1000 false cs_values_at ks0) (defScope s_values_at) b_values_at (defBody s_values_at) = true := by decide +kernel
theorem sh_values_at {K : PySem.W.Frag} {f : Addr} {fd : FuncData} (F : FnP K "values_at" s_values_at f fd) : ∀ q ∈ c_values_at.shapes, Shape K fd ["p", "products", "x", "y"] q.1 q.2.1 q.2.2 :=
  List.forall_mem_cons.mpr ⟨shape_of F fun _ _ _ _ _ _ us ws as h1 h2 h3 => match us, ws, h1, h2, h3 with
    | [a0, a1, a2, a3], [], _, _, h3 => (by cases h3; exact ⟨rfl, rfl⟩), List.forall_mem_cons.mpr ⟨shape_of F fun _ _ _ _ _ _ us ws as h1 h2 h3 => match us, ws, h1, h2, h3 with
    | [], [b0, b1, b2, b3], _, _, h3 => (by cases h3; exact ⟨rfl, rfl⟩), List.forall_mem_nil _⟩⟩
theorem ok_values_at {f : Addr} {fd : FuncData} (T : TopOk mg base ks0) (F : FnP K "values_at" s_values_at f fd) (hg : mg "values_at" = some (.ref f)) (h_sum_by : DefOk P w K mg base 1 c_sum_by) : DefOk P w K mg base 2 c_values_at :=
  defOk_N (k := 1) (c := c_values_at) (N := N_values_at) (ps := ["p", "products", "x", "y"]) (cs := cs_values_at) (ks := ks0) (pi := 1000) (ir := b_values_at) T F hg sc_values_at (List.forall_mem_cons.mpr ⟨h_sum_by.mono (by decide), List.forall_mem_nil _⟩) rfl rfl is_values_at (sh_values_at F)
/-! ### product_code: 0 p 1 sides 2 products 3 makers 4 i 5 u 6 v 7 j -/
abbrev s_product_code : Stmt := top 16
theorem sc_product_code : FnScope N_product_code ["p", "sides", "products"] (defScope s_product_code) := ⟨rfl, rfl, rfl, by decide +kernel, rfl, by decide +kernel, by decide +kernel⟩
theorem is_product_code : isSs (mkJ N_product_code 1000 false cs_product_code ks0) (defScope s_product_code) b_product_code (defBody s_product_code) = true := by decide +kernel
theorem sh_product_code {K : PySem.W.Frag} {f : Addr} {fd : FuncData} (F : FnP K "product_code" s_product_code f fd) : ∀ q ∈ c_product_code.shapes, Shape K fd ["p", "sides", "products"] q.1 q.2.1 q.2.2 :=
  List.forall_mem_cons.mpr ⟨shape_of F fun _ _ _ _ _ _ us ws as h1 h2 h3 => match us, ws, h1, h2, h3 with
    | [a0, a1, a2], [], _, _, h3 => (by cases h3; exact ⟨rfl, rfl⟩), List.forall_mem_cons.mpr ⟨shape_of F fun _ _ _ _ _ _ us ws as h1 h2 h3 => match us, ws, h1, h2, h3 with
    | [], [b0, b1, b2], _, _, h3 => (by cases h3; exact ⟨rfl, rfl⟩), List.forall_mem_nil _⟩⟩
theorem ok_product_code {f : Addr} {fd : FuncData} (T : TopOk mg base ks0) (F : FnP K "product_code" s_product_code f fd) (hg : mg "product_code" = some (.ref f)) (h_plain_code : DefOk P w K mg base 3 c_plain_code) : DefOk P w K mg base 4 c_product_code :=
  defOk_N (k := 3) (c := c_product_code) (N := N_product_code) (ps := ["p", "sides", "products"]) (cs := cs_product_code) (ks := ks0) (pi := 1000) (ir := b_product_code) T F hg sc_product_code (List.forall_mem_cons.mpr ⟨h_plain_code.mono (by decide), List.forall_mem_nil _⟩) rfl rfl is_product_code (sh_product_code F)
/-! ### checks_of: 0 p 1 sides 2 products -/
abbrev s_checks_of : Stmt := top 17
theorem sc_checks_of : FnScope N_checks_of ["p", "sides", "products"] (defScope s_checks_of) := ⟨rfl, rfl, rfl, by decide +kernel, rfl, by decide +kernel, by decide +kernel⟩
theorem is_checks_of : isSs (mkJ N_checks_of 1000 false cs_checks_of ks0) (defScope s_checks_of) b_checks_of (defBody s_checks_of) = true := by decide +kernel
theorem sh_checks_of {K : PySem.W.Frag} {f : Addr} {fd : FuncData} (F : FnP K "checks_of" s_checks_of f fd) : ∀ q ∈ c_checks_of.shapes, Shape K fd ["p", "sides", "products"] q.1 q.2.1 q.2.2 :=
  List.forall_mem_cons.mpr ⟨shape_of F fun _ _ _ _ _ _ us ws as h1 h2 h3 => match us, ws, h1, h2, h3 with
    | [a0, a1, a2], [], _, _, h3 => (by cases h3; exact ⟨rfl, rfl⟩), List.forall_mem_cons.mpr ⟨shape_of F fun _ _ _ _ _ _ us ws as h1 h2 h3 => match us, ws, h1, h2, h3 with
    | [], [b0, b1, b2], _, _, h3 => (by cases h3; exact ⟨rfl, rfl⟩), List.forall_mem_nil _⟩⟩
theorem ok_checks_of {f : Addr} {fd : FuncData} (T : TopOk mg base ks0) (F : FnP K "checks_of" s_checks_of f fd) (hg : mg "checks_of" = some (.ref f)) (h_other_code : DefOk P w K mg base 3 c_other_code) (h_product_code : DefOk P w K mg base 4 c_product_code) : DefOk P w K mg base 5 c_checks_of :=
  defOk_N (k := 4) (c := c_checks_of) (N := N_checks_of) (ps := ["p", "sides", "products"]) (cs := cs_checks_of) (ks := ks0) (pi := 1000) (ir := b_checks_of) T F hg sc_checks_of (List.forall_mem_cons.mpr ⟨h_other_code.mono (by decide), List.forall_mem_cons.mpr ⟨h_product_code.mono (by decide), List.forall_mem_nil _⟩⟩) rfl rfl is_checks_of (sh_checks_of F)
/-! ### _law_one: 0 pot 1 items -/
abbrev s__law_one : Stmt := top 21
theorem sc__law_one : FnScope N__law_one ["pot", "items"] (defScope s__law_one) := ⟨rfl, rfl, rfl, by decide +kernel, rfl, by decide +kernel, by decide +kernel⟩
theorem is__law_one : isSs (mkJ N__law_one 0 true cs__law_one ks0) (defScope s__law_one) b__law_one (defBody s__law_one) = true := by decide +kernel
theorem sh__law_one {K : PySem.W.Frag} {f : Addr} {fd : FuncData} (F : FnP K "_law_one" s__law_one f fd) : ∀ q ∈ c__law_one.shapes, Shape K fd ["pot", "items"] q.1 q.2.1 q.2.2 :=
  List.forall_mem_cons.mpr ⟨shape_of F fun _ _ _ _ _ _ us ws as h1 h2 h3 => match us, ws, h1, h2, h3 with
    | [a0, a1], [], _, _, h3 => (by cases h3; exact ⟨rfl, rfl⟩), List.forall_mem_nil _⟩
theorem ok__law_one {f : Addr} {fd : FuncData} (T : TopOk mg base ks0) (F : FnP K "_law_one" s__law_one f fd) (hg : mg "_law_one" = some (.ref f)) (h__law_of : DefOk P w K mg base 1 c__law_of) : DefOk P w K mg base 2 c__law_one :=
  defOk_P (k := 1) (c := c__law_one) (N := N__law_one) (ps := ["pot", "items"]) (cs := cs__law_one) (ks := ks0) (ir := b__law_one) T F hg sc__law_one (by decide) (List.forall_mem_cons.mpr ⟨h__law_of.mono (by decide), List.forall_mem_nil _⟩) rfl rfl is__law_one (sh__law_one F)
/-! ### _law_is_number: 0 value 1 low 2 high -/
abbrev s__law_is_number : Stmt := top 22
theorem sc__law_is_number : FnScope N__law_is_number ["value", "low", "high"] (defScope s__law_is_number) := ⟨rfl, rfl, rfl, by decide +kernel, rfl, by decide +kernel, by decide +kernel⟩
theorem is__law_is_number : isSs (mkJ N__law_is_number 1000 false cs__law_is_number ks0) (defScope s__law_is_number) b__law_is_number (defBody s__law_is_number) = true := by decide +kernel
theorem sh__law_is_number {K : PySem.W.Frag} {f : Addr} {fd : FuncData} (F : FnP K "_law_is_number" s__law_is_number f fd) : ∀ q ∈ c__law_is_number.shapes, Shape K fd ["value", "low", "high"] q.1 q.2.1 q.2.2 :=
  List.forall_mem_cons.mpr ⟨shape_of F fun _ _ _ _ _ _ us ws as h1 h2 h3 => match us, ws, h1, h2, h3 with
    | [a0, a1, a2], [], _, _, h3 => (by cases h3; exact ⟨rfl, rfl⟩), List.forall_mem_nil _⟩
theorem ok__law_is_number {f : Addr} {fd : FuncData} (T : TopOk mg base ks0) (F : FnP K "_law_is_number" s__law_is_number f fd) (hg : mg "_law_is_number" = some (.ref f))  : DefOk P w K mg base 1 c__law_is_number :=
  defOk_N (k := 0) (c := c__law_is_number) (N := N__law_is_number) (ps := ["value", "low", "high"]) (cs := cs__law_is_number) (ks := ks0) (pi := 1000) (ir := b__law_is_number) T F hg sc__law_is_number (List.forall_mem_nil _) rfl rfl is__law_is_number (sh__law_is_number F)
/-! ### _law_flat: 0 rows 1 found 2 row -/
abbrev s__law_flat : Stmt := top 23
theorem sc__law_flat : FnScope N__law_flat ["rows"] (defScope s__law_flat) := ⟨rfl, rfl, rfl, by decide +kernel, rfl, by decide +kernel, by decide +kernel⟩
theorem is__law_flat : isSs (mkJ N__law_flat 1000 false cs__law_flat ks0) (defScope s__law_flat) b__law_flat (defBody s__law_flat) = true := by decide +kernel
theorem sh__law_flat {K : PySem.W.Frag} {f : Addr} {fd : FuncData} (F : FnP K "_law_flat" s__law_flat f fd) : ∀ q ∈ c__law_flat.shapes, Shape K fd ["rows"] q.1 q.2.1 q.2.2 :=
  List.forall_mem_cons.mpr ⟨shape_of F fun _ _ _ _ _ _ us ws as h1 h2 h3 => match us, ws, h1, h2, h3 with
    | [a0], [], _, _, h3 => (by cases h3; exact ⟨rfl, rfl⟩), List.forall_mem_nil _⟩
theorem ok__law_flat {f : Addr} {fd : FuncData} (T : TopOk mg base ks0) (F : FnP K "_law_flat" s__law_flat f fd) (hg : mg "_law_flat" = some (.ref f))  : DefOk P w K mg base 1 c__law_flat :=
  defOk_N (k := 0) (c := c__law_flat) (N := N__law_flat) (ps := ["rows"]) (cs := cs__law_flat) (ks := ks0) (pi := 1000) (ir := b__law_flat) T F hg sc__law_flat (List.forall_mem_nil _) rfl rfl is__law_flat (sh__law_flat F)
/-! ### _law_spliced: 0 pot 1 one 2 other 3 k -/
abbrev s__law_spliced : Stmt := top 24
theorem sc__law_spliced : FnScope N__law_spliced ["pot", "one", "other"] (defScope s__law_spliced) := ⟨rfl, rfl, rfl, by decide +kernel, rfl, by decide +kernel, by decide +kernel⟩
theorem is__law_spliced : isSs (mkJ N__law_spliced 0 true cs__law_spliced ks0) (defScope s__law_spliced) b__law_spliced (defBody s__law_spliced) = true := by decide +kernel
theorem sh__law_spliced {K : PySem.W.Frag} {f : Addr} {fd : FuncData} (F : FnP K "_law_spliced" s__law_spliced f fd) : ∀ q ∈ c__law_spliced.shapes, Shape K fd ["pot", "one", "other"] q.1 q.2.1 q.2.2 :=
  List.forall_mem_cons.mpr ⟨shape_of F fun _ _ _ _ _ _ us ws as h1 h2 h3 => match us, ws, h1, h2, h3 with
    | [a0, a1, a2], [], _, _, h3 => (by cases h3; exact ⟨rfl, rfl⟩), List.forall_mem_nil _⟩
theorem ok__law_spliced {f : Addr} {fd : FuncData} (T : TopOk mg base ks0) (F : FnP K "_law_spliced" s__law_spliced f fd) (hg : mg "_law_spliced" = some (.ref f)) (h__law_of : DefOk P w K mg base 1 c__law_of) : DefOk P w K mg base 2 c__law_spliced :=
  defOk_P (k := 1) (c := c__law_spliced) (N := N__law_spliced) (ps := ["pot", "one", "other"]) (cs := cs__law_spliced) (ks := ks0) (ir := b__law_spliced) T F hg sc__law_spliced (by decide) (List.forall_mem_cons.mpr ⟨h__law_of.mono (by decide), List.forall_mem_nil _⟩) rfl rfl is__law_spliced (sh__law_spliced F)
/-! ### _law_bent: 0 pot 1 row 2 odd 3 own 4 k 5 some 6 turn -/
abbrev s__law_bent : Stmt := top 25
theorem sc__law_bent : FnScope N__law_bent ["pot", "row", "odd"] (defScope s__law_bent) := ⟨rfl, rfl, rfl, by decide +kernel, rfl, by decide +kernel, by decide +kernel⟩
theorem is__law_bent : isSs (mkJ N__law_bent 0 true cs__law_bent ks0) (defScope s__law_bent) b__law_bent (defBody s__law_bent) = true := by decide +kernel
theorem sh__law_bent {K : PySem.W.Frag} {f : Addr} {fd : FuncData} (F : FnP K "_law_bent" s__law_bent f fd) : ∀ q ∈ c__law_bent.shapes, Shape K fd ["pot", "row", "odd"] q.1 q.2.1 q.2.2 :=
  List.forall_mem_cons.mpr ⟨shape_of F fun _ _ _ _ _ _ us ws as h1 h2 h3 => match us, ws, h1, h2, h3 with
    | [a0, a1, a2], [], _, _, h3 => (by cases h3; exact ⟨rfl, rfl⟩), List.forall_mem_nil _⟩
theorem ok__law_bent {f : Addr} {fd : FuncData} (T : TopOk mg base ks0) (F : FnP K "_law_bent" s__law_bent f fd) (hg : mg "_law_bent" = some (.ref f)) (h__law_one : DefOk P w K mg base 2 c__law_one) (h__law_of : DefOk P w K mg base 1 c__law_of) : DefOk P w K mg base 3 c__law_bent :=
  defOk_P (k := 2) (c := c__law_bent) (N := N__law_bent) (ps := ["pot", "row", "odd"]) (cs := cs__law_bent) (ks := ks0) (ir := b__law_bent) T F hg sc__law_bent (by decide) (List.forall_mem_cons.mpr ⟨h__law_one.mono (by decide), List.forall_mem_cons.mpr ⟨h__law_of.mono (by decide), List.forall_mem_nil _⟩⟩) rfl rfl is__law_bent (sh__law_bent F)
/-! ### _law_power: 0 x 1 k 2 q 3 found -/
abbrev s__law_power : Stmt := top 26
theorem sc__law_power : FnScope N__law_power ["x", "k", "q"] (defScope s__law_power) := ⟨rfl, rfl, rfl, by decide +kernel, rfl, by decide +kernel, by decide +kernel⟩
theorem is__law_power : isSs (mkJ N__law_power 1000 false cs__law_power ks0) (defScope s__law_power) b__law_power (defBody s__law_power) = true := by decide +kernel
theorem sh__law_power {K : PySem.W.Frag} {f : Addr} {fd : FuncData} (F : FnP K "_law_power" s__law_power f fd) : ∀ q ∈ c__law_power.shapes, Shape K fd ["x", "k", "q"] q.1 q.2.1 q.2.2 :=
  List.forall_mem_cons.mpr ⟨shape_of F fun _ _ _ _ _ _ us ws as h1 h2 h3 => match us, ws, h1, h2, h3 with
    | [a0, a1, a2], [], _, _, h3 => (by cases h3; exact ⟨rfl, rfl⟩), List.forall_mem_nil _⟩
theorem ok__law_power {f : Addr} {fd : FuncData} (T : TopOk mg base ks0) (F : FnP K "_law_power" s__law_power f fd) (hg : mg "_law_power" = some (.ref f))  : DefOk P w K mg base 1 c__law_power :=
  defOk_N (k := 0) (c := c__law_power) (N := N__law_power) (ps := ["x", "k", "q"]) (cs := cs__law_power) (ks := ks0) (pi := 1000) (ir := b__law_power) T F hg sc__law_power (List.forall_mem_nil _) rfl rfl is__law_power (sh__law_power F)
/-! ### _law_drawn_row: 0 pot 1 q 2 n 3 way 4 k -/
abbrev s__law_drawn_row : Stmt := top 27
theorem sc__law_drawn_row : FnScope N__law_drawn_row ["pot", "q", "n"] (defScope s__law_drawn_row) := ⟨rfl, rfl, rfl, by decide +kernel, rfl, by decide +kernel, by decide +kernel⟩
theorem is__law_drawn_row : isSs (mkJ N__law_drawn_row 0 true cs__law_drawn_row ks0) (defScope s__law_drawn_row) b__law_drawn_row (defBody s__law_drawn_row) = true := by decide +kernel
theorem sh__law_drawn_row {K : PySem.W.Frag} {f : Addr} {fd : FuncData} (F : FnP K "_law_drawn_row" s__law_drawn_row f fd) : ∀ q ∈ c__law_drawn_row.shapes, Shape K fd ["pot", "q", "n"] q.1 q.2.1 q.2.2 :=
  List.forall_mem_cons.mpr ⟨shape_of F fun _ _ _ _ _ _ us ws as h1 h2 h3 => match us, ws, h1, h2, h3 with
    | [a0, a1, a2], [], _, _, h3 => (by cases h3; exact ⟨rfl, rfl⟩), List.forall_mem_nil _⟩
theorem ok__law_drawn_row {f : Addr} {fd : FuncData} (T : TopOk mg base ks0) (F : FnP K "_law_drawn_row" s__law_drawn_row f fd) (hg : mg "_law_drawn_row" = some (.ref f)) (h__law_of : DefOk P w K mg base 1 c__law_of) : DefOk P w K mg base 2 c__law_drawn_row :=
  defOk_P (k := 1) (c := c__law_drawn_row) (N := N__law_drawn_row) (ps := ["pot", "q", "n"]) (cs := cs__law_drawn_row) (ks := ks0) (ir := b__law_drawn_row) T F hg sc__law_drawn_row (by decide) (List.forall_mem_cons.mpr ⟨h__law_of.mono (by decide), List.forall_mem_nil _⟩) rfl rfl is__law_drawn_row (sh__law_drawn_row F)
/-! ### _law_is_row: 0 value 1 p 2 n 3 x -/
abbrev s__law_is_row : Stmt := top 28
theorem sc__law_is_row : FnScope N__law_is_row ["value", "p", "n"] (defScope s__law_is_row) := ⟨rfl, rfl, rfl, by decide +kernel, rfl, by decide +kernel, by decide +kernel⟩
theorem is__law_is_row : isSs (mkJ N__law_is_row 1000 false cs__law_is_row ks0) (defScope s__law_is_row) b__law_is_row (defBody s__law_is_row) = true := by decide +kernel
theorem sh__law_is_row {K : PySem.W.Frag} {f : Addr} {fd : FuncData} (F : FnP K "_law_is_row" s__law_is_row f fd) : ∀ q ∈ c__law_is_row.shapes, Shape K fd ["value", "p", "n"] q.1 q.2.1 q.2.2 :=
  List.forall_mem_cons.mpr ⟨shape_of F fun _ _ _ _ _ _ us ws as h1 h2 h3 => match us, ws, h1, h2, h3 with
    | [a0, a1, a2], [], _, _, h3 => (by cases h3; exact ⟨rfl, rfl⟩), List.forall_mem_nil _⟩
theorem ok__law_is_row {f : Addr} {fd : FuncData} (T : TopOk mg base ks0) (F : FnP K "_law_is_row" s__law_is_row f fd) (hg : mg "_law_is_row" = some (.ref f)) (h__law_is_number : DefOk P w K mg base 1 c__law_is_number) : DefOk P w K mg base 2 c__law_is_row :=
  defOk_N (k := 1) (c := c__law_is_row) (N := N__law_is_row) (ps := ["value", "p", "n"]) (cs := cs__law_is_row) (ks := ks0) (pi := 1000) (ir := b__law_is_row) T F hg sc__law_is_row (List.forall_mem_cons.mpr ⟨h__law_is_number.mono (by decide), List.forall_mem_nil _⟩) rfl rfl is__law_is_row (sh__law_is_row F)
/-! ### _law_is_headed: 0 row 1 some 2 x -/
abbrev s__law_is_headed : Stmt := top 29
theorem sc__law_is_headed : FnScope N__law_is_headed ["row"] (defScope s__law_is_headed) := ⟨rfl, rfl, rfl, by decide +kernel, rfl, by decide +kernel, by decide +kernel⟩
theorem is__law_is_headed : isSs (mkJ N__law_is_headed 1000 false cs__law_is_headed ks0) (defScope s__law_is_headed) b__law_is_headed (defBody s__law_is_headed) = true := by decide +kernel
theorem sh__law_is_headed {K : PySem.W.Frag} {f : Addr} {fd : FuncData} (F : FnP K "_law_is_headed" s__law_is_headed f fd) : ∀ q ∈ c__law_is_headed.shapes, Shape K fd ["row"] q.1 q.2.1 q.2.2 :=
  List.forall_mem_cons.mpr ⟨shape_of F fun _ _ _ _ _ _ us ws as h1 h2 h3 => match us, ws, h1, h2, h3 with
    | [a0], [], _, _, h3 => (by cases h3; exact ⟨rfl, rfl⟩), List.forall_mem_nil _⟩
theorem ok__law_is_headed {f : Addr} {fd : FuncData} (T : TopOk mg base ks0) (F : FnP K "_law_is_headed" s__law_is_headed f fd) (hg : mg "_law_is_headed" = some (.ref f))  : DefOk P w K mg base 1 c__law_is_headed :=
  defOk_N (k := 0) (c := c__law_is_headed) (N := N__law_is_headed) (ps := ["row"]) (cs := cs__law_is_headed) (ks := ks0) (pi := 1000) (ir := b__law_is_headed) T F hg sc__law_is_headed (List.forall_mem_nil _) rfl rfl is__law_is_headed (sh__law_is_headed F)
/-! ### _law_plain_triple: 0 p 1 triple 2 u 3 v 4 w 5 a 6 b 7 x 8 c 9 d -/
abbrev s__law_plain_triple : Stmt := top 30
theorem sc__law_plain_triple : FnScope N__law_plain_triple ["p", "triple"] (defScope s__law_plain_triple) := ⟨rfl, rfl, rfl, by decide +kernel, rfl, by decide +kernel, by decide +kernel⟩
theorem is__law_plain_triple : isSs (mkJ N__law_plain_triple 1000 false cs__law_plain_triple ks0) (defScope s__law_plain_triple) b__law_plain_triple (defBody s__law_plain_triple) = true := by decide +kernel
theorem sh__law_plain_triple {K : PySem.W.Frag} {f : Addr} {fd : FuncData} (F : FnP K "_law_plain_triple" s__law_plain_triple f fd) : ∀ q ∈ c__law_plain_triple.shapes, Shape K fd ["p", "triple"] q.1 q.2.1 q.2.2 :=
  List.forall_mem_cons.mpr ⟨shape_of F fun _ _ _ _ _ _ us ws as h1 h2 h3 => match us, ws, h1, h2, h3 with
    | [a0, a1], [], _, _, h3 => (by cases h3; exact ⟨rfl, rfl⟩), List.forall_mem_nil _⟩
theorem ok__law_plain_triple {f : Addr} {fd : FuncData} (T : TopOk mg base ks0) (F : FnP K "_law_plain_triple" s__law_plain_triple f fd) (hg : mg "_law_plain_triple" = some (.ref f)) (h__law_power : DefOk P w K mg base 1 c__law_power) : DefOk P w K mg base 2 c__law_plain_triple :=
  defOk_N (k := 1) (c := c__law_plain_triple) (N := N__law_plain_triple) (ps := ["p", "triple"]) (cs := cs__law_plain_triple) (ks := ks0) (pi := 1000) (ir := b__law_plain_triple) T F hg sc__law_plain_triple (List.forall_mem_cons.mpr ⟨h__law_power.mono (by decide), List.forall_mem_nil _⟩) rfl rfl is__law_plain_triple (sh__law_plain_triple F)
/-! ### _law_less: 0 p 1 row 2 head 3 times 4 x 5 y -/
abbrev s__law_less : Stmt := top 32
theorem sc__law_less : FnScope N__law_less ["p", "row", "head", "times"] (defScope s__law_less) := ⟨rfl, rfl, rfl, by decide +kernel, rfl, by decide +kernel, by decide +kernel⟩
theorem is__law_less : isSs (mkJ N__law_less 1000 false cs__law_less ks0) (defScope s__law_less) b__law_less (defBody s__law_less) = true := by decide +kernel
theorem sh__law_less {K : PySem.W.Frag} {f : Addr} {fd : FuncData} (F : FnP K "_law_less" s__law_less f fd) : ∀ q ∈ c__law_less.shapes, Shape K fd ["p", "row", "head", "times"] q.1 q.2.1 q.2.2 :=
  List.forall_mem_cons.mpr ⟨shape_of F fun _ _ _ _ _ _ us ws as h1 h2 h3 => match us, ws, h1, h2, h3 with
    | [a0, a1, a2, a3], [], _, _, h3 => (by cases h3; exact ⟨rfl, rfl⟩), List.forall_mem_nil _⟩
theorem ok__law_less {f : Addr} {fd : FuncData} (T : TopOk mg base ks0) (F : FnP K "_law_less" s__law_less f fd) (hg : mg "_law_less" = some (.ref f))  : DefOk P w K mg base 1 c__law_less :=
  defOk_N (k := 0) (c := c__law_less) (N := N__law_less) (ps := ["p", "row", "head", "times"]) (cs := cs__law_less) (ks := ks0) (pi := 1000) (ir := b__law_less) T F hg sc__law_less (List.forall_mem_nil _) rfl rfl is__law_less (sh__law_less F)
/-! ### _law_reduced: 0 p 1 rows 2 left 3 found 4 n 5 row 6 c 7 some 8 k 9 head 10 less 11 x -/
abbrev s__law_reduced : Stmt := top 31
theorem sc__law_reduced : FnScope N__law_reduced ["p", "rows"] (defScope s__law_reduced) := ⟨rfl, rfl, rfl, by decide +kernel, rfl, by decide +kernel, by decide +kernel⟩
theorem is__law_reduced : isSs (mkJ N__law_reduced 1000 false cs__law_reduced ks0) (defScope s__law_reduced) b__law_reduced (defBody s__law_reduced) = true := by decide +kernel
theorem sh__law_reduced {K : PySem.W.Frag} {f : Addr} {fd : FuncData} (F : FnP K "_law_reduced" s__law_reduced f fd) : ∀ q ∈ c__law_reduced.shapes, Shape K fd ["p", "rows"] q.1 q.2.1 q.2.2 :=
  List.forall_mem_cons.mpr ⟨shape_of F fun _ _ _ _ _ _ us ws as h1 h2 h3 => match us, ws, h1, h2, h3 with
    | [a0, a1], [], _, _, h3 => (by cases h3; exact ⟨rfl, rfl⟩), List.forall_mem_nil _⟩
theorem ok__law_reduced {f : Addr} {fd : FuncData} (T : TopOk mg base ks0) (F : FnP K "_law_reduced" s__law_reduced f fd) (hg : mg "_law_reduced" = some (.ref f)) (h__law_power : DefOk P w K mg base 1 c__law_power) (h__law_less : DefOk P w K mg base 1 c__law_less) : DefOk P w K mg base 2 c__law_reduced :=
  defOk_N (k := 1) (c := c__law_reduced) (N := N__law_reduced) (ps := ["p", "rows"]) (cs := cs__law_reduced) (ks := ks0) (pi := 1000) (ir := b__law_reduced) T F hg sc__law_reduced (List.forall_mem_cons.mpr ⟨h__law_power.mono (by decide), List.forall_mem_cons.mpr ⟨h__law_less.mono (by decide), List.forall_mem_nil _⟩⟩) rfl rfl is__law_reduced (sh__law_reduced F)
/-! ### _law_plain_code: 0 p 1 rows 2 row -/
abbrev s__law_plain_code : Stmt := top 33
theorem sc__law_plain_code : FnScope N__law_plain_code ["p", "rows"] (defScope s__law_plain_code) := ⟨rfl, rfl, rfl, by decide +kernel, rfl, by decide +kernel, by decide +kernel⟩
theorem is__law_plain_code : isSs (mkJ N__law_plain_code 1000 false cs__law_plain_code ks0) (defScope s__law_plain_code) b__law_plain_code (defBody s__law_plain_code) = true := by decide +kernel
theorem sh__law_plain_code {K : PySem.W.Frag} {f : Addr} {fd : FuncData} (F : FnP K "_law_plain_code" s__law_plain_code f fd) : ∀ q ∈ c__law_plain_code.shapes, Shape K fd ["p", "rows"] q.1 q.2.1 q.2.2 :=
  List.forall_mem_cons.mpr ⟨shape_of F fun _ _ _ _ _ _ us ws as h1 h2 h3 => match us, ws, h1, h2, h3 with
    | [a0, a1], [], _, _, h3 => (by cases h3; exact ⟨rfl, rfl⟩), List.forall_mem_nil _⟩
theorem ok__law_plain_code {f : Addr} {fd : FuncData} (T : TopOk mg base ks0) (F : FnP K "_law_plain_code" s__law_plain_code f fd) (hg : mg "_law_plain_code" = some (.ref f)) (h__law_reduced : DefOk P w K mg base 2 c__law_reduced) : DefOk P w K mg base 3 c__law_plain_code :=
  defOk_N (k := 2) (c := c__law_plain_code) (N := N__law_plain_code) (ps := ["p", "rows"]) (cs := cs__law_plain_code) (ks := ks0) (pi := 1000) (ir := b__law_plain_code) T F hg sc__law_plain_code (List.forall_mem_cons.mpr ⟨h__law_reduced.mono (by decide), List.forall_mem_nil _⟩) rfl rfl is__law_plain_code (sh__law_plain_code F)
/-! ### _law_nought_rows: 0 p 1 rows 2 n 3 steps 4 heads 5 k 6 x 7 row 8 found 9 free 10 own 11 head -/
abbrev s__law_nought_rows : Stmt := top 34
theorem sc__law_nought_rows : FnScope N__law_nought_rows ["p", "rows", "n"] (defScope s__law_nought_rows) := ⟨rfl, rfl, rfl, by decide +kernel, rfl, by decide +kernel, by decide +kernel⟩
theorem is__law_nought_rows : isSs (mkJ N__law_nought_rows 1000 false cs__law_nought_rows ks0) (defScope s__law_nought_rows) b__law_nought_rows (defBody s__law_nought_rows) = true := by decide +kernel
theorem sh__law_nought_rows {K : PySem.W.Frag} {f : Addr} {fd : FuncData} (F : FnP K "_law_nought_rows" s__law_nought_rows f fd) : ∀ q ∈ c__law_nought_rows.shapes, Shape K fd ["p", "rows", "n"] q.1 q.2.1 q.2.2 :=
  List.forall_mem_cons.mpr ⟨shape_of F fun _ _ _ _ _ _ us ws as h1 h2 h3 => match us, ws, h1, h2, h3 with
    | [a0, a1, a2], [], _, _, h3 => (by cases h3; exact ⟨rfl, rfl⟩), List.forall_mem_nil _⟩
theorem ok__law_nought_rows {f : Addr} {fd : FuncData} (T : TopOk mg base ks0) (F : FnP K "_law_nought_rows" s__law_nought_rows f fd) (hg : mg "_law_nought_rows" = some (.ref f)) (h__law_reduced : DefOk P w K mg base 2 c__law_reduced) (h__law_plain_code : DefOk P w K mg base 3 c__law_plain_code) : DefOk P w K mg base 4 c__law_nought_rows :=
  defOk_N (k := 3) (c := c__law_nought_rows) (N := N__law_nought_rows) (ps := ["p", "rows", "n"]) (cs := cs__law_nought_rows) (ks := ks0) (pi := 1000) (ir := b__law_nought_rows) T F hg sc__law_nought_rows (List.forall_mem_cons.mpr ⟨h__law_reduced.mono (by decide), List.forall_mem_cons.mpr ⟨h__law_plain_code.mono (by decide), List.forall_mem_nil _⟩⟩) rfl rfl is__law_nought_rows (sh__law_nought_rows F)
/-! ### _law_products: 0 pot 1 p 2 a 3 b 4 most 5 found 6 turn 7 u 8 v 9 k 10 own 11 row -/
abbrev s__law_products : Stmt := top 35
theorem sc__law_products : FnScope N__law_products ["pot", "p", "a", "b", "most"] (defScope s__law_products) := ⟨rfl, rfl, rfl, by decide +kernel, rfl, by decide +kernel, by decide +kernel⟩
theorem is__law_products : isSs (mkJ N__law_products 0 true cs__law_products ks0) (defScope s__law_products) b__law_products (defBody s__law_products) = true := by decide +kernel
theorem sh__law_products {K : PySem.W.Frag} {f : Addr} {fd : FuncData} (F : FnP K "_law_products" s__law_products f fd) : ∀ q ∈ c__law_products.shapes, Shape K fd ["pot", "p", "a", "b", "most"] q.1 q.2.1 q.2.2 :=
  List.forall_mem_cons.mpr ⟨shape_of F fun _ _ _ _ _ _ us ws as h1 h2 h3 => match us, ws, h1, h2, h3 with
    | [a0, a1, a2, a3, a4], [], _, _, h3 => (by cases h3; exact ⟨rfl, rfl⟩), List.forall_mem_nil _⟩
theorem ok__law_products {f : Addr} {fd : FuncData} (T : TopOk mg base ks0) (F : FnP K "_law_products" s__law_products f fd) (hg : mg "_law_products" = some (.ref f)) (h__law_of : DefOk P w K mg base 1 c__law_of) (h__law_drawn_row : DefOk P w K mg base 2 c__law_drawn_row) (h__law_plain_triple : DefOk P w K mg base 2 c__law_plain_triple) : DefOk P w K mg base 3 c__law_products :=
  defOk_P (k := 2) (c := c__law_products) (N := N__law_products) (ps := ["pot", "p", "a", "b", "most"]) (cs := cs__law_products) (ks := ks0) (ir := b__law_products) T F hg sc__law_products (by decide) (List.forall_mem_cons.mpr ⟨h__law_of.mono (by decide), List.forall_mem_cons.mpr ⟨h__law_drawn_row.mono (by decide), List.forall_mem_cons.mpr ⟨h__law_plain_triple.mono (by decide), List.forall_mem_nil _⟩⟩⟩) rfl rfl is__law_products (sh__law_products F)
/-! ### _law_cells: 0 a 1 b 2 j 3 i -/
abbrev s__law_cells : Stmt := top 36
theorem sc__law_cells : FnScope N__law_cells ["a", "b"] (defScope s__law_cells) := ⟨rfl, rfl, rfl, by decide +kernel, rfl, by decide +kernel, by decide +kernel⟩
theorem is__law_cells : isSs (mkJ N__law_cells 1000 false cs__law_cells ks0) (defScope s__law_cells) b__law_cells (defBody s__law_cells) = true := by decide +kernel
theorem sh__law_cells {K : PySem.W.Frag} {f : Addr} {fd : FuncData} (F : FnP K "_law_cells" s__law_cells f fd) : ∀ q ∈ c__law_cells.shapes, Shape K fd ["a", "b"] q.1 q.2.1 q.2.2 :=
  List.forall_mem_cons.mpr ⟨shape_of F fun _ _ _ _ _ _ us ws as h1 h2 h3 => match us, ws, h1, h2, h3 with
    | [a0, a1], [], _, _, h3 => (by cases h3; exact ⟨rfl, rfl⟩), List.forall_mem_nil _⟩
theorem ok__law_cells {f : Addr} {fd : FuncData} (T : TopOk mg base ks0) (F : FnP K "_law_cells" s__law_cells f fd) (hg : mg "_law_cells" = some (.ref f)) (h__law_flat : DefOk P w K mg base 1 c__law_flat) : DefOk P w K mg base 2 c__law_cells :=
  defOk_N (k := 1) (c := c__law_cells) (N := N__law_cells) (ps := ["a", "b"]) (cs := cs__law_cells) (ks := ks0) (pi := 1000) (ir := b__law_cells) T F hg sc__law_cells (List.forall_mem_cons.mpr ⟨h__law_flat.mono (by decide), List.forall_mem_nil _⟩) rfl rfl is__law_cells (sh__law_cells F)
/-! ### _law_values: 0 p 1 products 2 x 3 y 4 found 5 u 6 v 7 one 8 own 9 item -/
abbrev s__law_values : Stmt := top 37
theorem sc__law_values : FnScope N__law_values ["p", "products", "x", "y"] (defScope s__law_values) := ⟨rfl, rfl, rfl, by decide +kernel, rfl, by decide +kernel, by decide +kernel⟩
theorem is__law_values : isSs (mkJ N__law_values 1000 false cs__law_values ks0) (defScope s__law_values) b__law_values (defBody s__law_values) = true := by decide +kernel
theorem sh__law_values {K : PySem.W.Frag} {f : Addr} {fd : FuncData} (F : FnP K "_law_values" s__law_values f fd) : ∀ q ∈ c__law_values.shapes, Shape K fd ["p", "products", "x", "y"] q.1 q.2.1 q.2.2 :=
  List.forall_mem_cons.mpr ⟨shape_of F fun _ _ _ _ _ _ us ws as h1 h2 h3 => match us, ws, h1, h2, h3 with
    | [a0, a1, a2, a3], [], _, _, h3 => (by cases h3; exact ⟨rfl, rfl⟩), List.forall_mem_nil _⟩
theorem ok__law_values {f : Addr} {fd : FuncData} (T : TopOk mg base ks0) (F : FnP K "_law_values" s__law_values f fd) (hg : mg "_law_values" = some (.ref f))  : DefOk P w K mg base 1 c__law_values :=
  defOk_N (k := 0) (c := c__law_values) (N := N__law_values) (ps := ["p", "products", "x", "y"]) (cs := cs__law_values) (ks := ks0) (pi := 1000) (ir := b__law_values) T F hg sc__law_values (List.forall_mem_nil _) rfl rfl is__law_values (sh__law_values F)
/-! ### _law_fault: 0 p 1 sides 2 value 3 k 4 own 5 bad 6 m -/
abbrev s__law_fault : Stmt := top 38
theorem sc__law_fault : FnScope N__law_fault ["p", "sides", "value"] (defScope s__law_fault) := ⟨rfl, rfl, rfl, by decide +kernel, rfl, by decide +kernel, by decide +kernel⟩
theorem is__law_fault : isSs (mkJ N__law_fault 1000 false cs__law_fault ks0) (defScope s__law_fault) b__law_fault (defBody s__law_fault) = true := by decide +kernel
theorem sh__law_fault {K : PySem.W.Frag} {f : Addr} {fd : FuncData} (F : FnP K "_law_fault" s__law_fault f fd) : ∀ q ∈ c__law_fault.shapes, Shape K fd ["p", "sides", "value"] q.1 q.2.1 q.2.2 :=
  List.forall_mem_cons.mpr ⟨shape_of F fun _ _ _ _ _ _ us ws as h1 h2 h3 => match us, ws, h1, h2, h3 with
    | [a0, a1, a2], [], _, _, h3 => (by cases h3; exact ⟨rfl, rfl⟩), List.forall_mem_nil _⟩
theorem ok__law_fault {f : Addr} {fd : FuncData} (T : TopOk mg base ks0) (F : FnP K "_law_fault" s__law_fault f fd) (hg : mg "_law_fault" = some (.ref f)) (h__law_is_row : DefOk P w K mg base 2 c__law_is_row) (h__law_is_headed : DefOk P w K mg base 1 c__law_is_headed) : DefOk P w K mg base 3 c__law_fault :=
  defOk_N (k := 2) (c := c__law_fault) (N := N__law_fault) (ps := ["p", "sides", "value"]) (cs := cs__law_fault) (ks := ks0) (pi := 1000) (ir := b__law_fault) T F hg sc__law_fault (List.forall_mem_cons.mpr ⟨h__law_is_row.mono (by decide), List.forall_mem_cons.mpr ⟨h__law_is_headed.mono (by decide), List.forall_mem_nil _⟩⟩) rfl rfl is__law_fault (sh__law_fault F)
/-! ### _law_is_code_right: 0 p 1 sides 2 products 3 values 4 rows 5 u 6 v 7 i 8 j 9 code 10 told 11 checks 12 own 13 m 14 n -/
abbrev s__law_is_code_right : Stmt := top 39
theorem sc__law_is_code_right : FnScope N__law_is_code_right ["p", "sides", "products", "values"] (defScope s__law_is_code_right) := ⟨rfl, rfl, rfl, by decide +kernel, rfl, by decide +kernel, by decide +kernel⟩
theorem is__law_is_code_right : isSs (mkJ N__law_is_code_right 1000 false cs__law_is_code_right ks0) (defScope s__law_is_code_right) b__law_is_code_right (defBody s__law_is_code_right) = true := by decide +kernel
theorem sh__law_is_code_right {K : PySem.W.Frag} {f : Addr} {fd : FuncData} (F : FnP K "_law_is_code_right" s__law_is_code_right f fd) : ∀ q ∈ c__law_is_code_right.shapes, Shape K fd ["p", "sides", "products", "values"] q.1 q.2.1 q.2.2 :=
  List.forall_mem_cons.mpr ⟨shape_of F fun _ _ _ _ _ _ us ws as h1 h2 h3 => match us, ws, h1, h2, h3 with
    | [a0, a1, a2, a3], [], _, _, h3 => (by cases h3; exact ⟨rfl, rfl⟩), List.forall_mem_nil _⟩
theorem ok__law_is_code_right {f : Addr} {fd : FuncData} (T : TopOk mg base ks0) (F : FnP K "_law_is_code_right" s__law_is_code_right f fd) (hg : mg "_law_is_code_right" = some (.ref f)) (h__law_cells : DefOk P w K mg base 2 c__law_cells) (h__law_plain_code : DefOk P w K mg base 3 c__law_plain_code) (h_product_code : DefOk P w K mg base 4 c_product_code) (h__law_nought_rows : DefOk P w K mg base 4 c__law_nought_rows) (h_checks_of : DefOk P w K mg base 5 c_checks_of) : DefOk P w K mg base 6 c__law_is_code_right :=
  defOk_N (k := 5) (c := c__law_is_code_right) (N := N__law_is_code_right) (ps := ["p", "sides", "products", "values"]) (cs := cs__law_is_code_right) (ks := ks0) (pi := 1000) (ir := b__law_is_code_right) T F hg sc__law_is_code_right (List.forall_mem_cons.mpr ⟨h__law_cells.mono (by decide), List.forall_mem_cons.mpr ⟨h__law_plain_code.mono (by decide), List.forall_mem_cons.mpr ⟨h_product_code.mono (by decide), List.forall_mem_cons.mpr ⟨h__law_nought_rows.mono (by decide), List.forall_mem_cons.mpr ⟨h_checks_of.mono (by decide), List.forall_mem_nil _⟩⟩⟩⟩⟩) rfl rfl is__law_is_code_right (sh__law_is_code_right F)
/-! ### law: 0 script 1 pot 2 p 3 a 4 b 5 products 6 kept 7 many 8 due 9 turn 10 x 11 y 12 z 13 both 14 own 15 item 16 more 17 scheme 18 pair 19 odd 20 found 21 again 22 k 23 m 24 row 25 value 26 shown 27 told -/
abbrev s_law : Stmt := top 40
theorem sc_law : FnScope N_law ["script"] (defScope s_law) := ⟨rfl, rfl, rfl, by decide +kernel, rfl, by decide +kernel, by decide +kernel⟩
theorem is_law : isSs (mkJ N_law 1 true cs_law ks0) (defScope s_law) b_law ((defBody s_law).drop 1) = true := by decide +kernel
end
-- heights: undoing 1 stepped 2 plain_code 3 other_code 3 is_row 1 first_item 1 is_pair 2 products_error 3 products_of 1 sum_by 1 values_at 2 product_code 4 checks_of 5 _law_one 2 _law_is_number 1 _law_flat 1 _law_spliced 2 _law_bent 3 _law_power 1 _law_drawn_row 2 _law_is_row 2 _law_is_headed 1 _law_plain_triple 2 _law_less 1 _law_reduced 2 _law_plain_code 3 _law_nought_rows 4 _law_products 3 _law_cells 2 _law_values 1 _law_fault 3 _law_is_code_right 6 law 7
end K76
set_option maxHeartbeats 20000000
namespace K76
open Ev PySem PySem.Spec PyProof.Rows L2
abbrev s__law_pot : Stmt := top 19
abbrev s__law_of : Stmt := top 20
def d__law_pot : He.DefD := ⟨("_law_pot", none), "_law_pot", "_law_pot", defArgs s__law_pot, defBody s__law_pot, defScope s__law_pot, [], []⟩
def d__law_of : He.DefD := ⟨("_law_of", none), "_law_of", "_law_of", defArgs s__law_of, defBody s__law_of, defScope s__law_of, [], []⟩
def d_undoing : He.DefD := ⟨("undoing", none), "undoing", "undoing", defArgs s_undoing, defBody s_undoing, defScope s_undoing, [], []⟩
def d_stepped : He.DefD := ⟨("stepped", none), "stepped", "stepped", defArgs s_stepped, defBody s_stepped, defScope s_stepped, [], []⟩
def d_plain_code : He.DefD := ⟨("plain_code", none), "plain_code", "plain_code", defArgs s_plain_code, defBody s_plain_code, defScope s_plain_code, [], []⟩
def d_other_code : He.DefD := ⟨("other_code", none), "other_code", "other_code", defArgs s_other_code, defBody s_other_code, defScope s_other_code, [], []⟩
def d_is_row : He.DefD := ⟨("is_row", none), "is_row", "is_row", defArgs s_is_row, defBody s_is_row, defScope s_is_row, [], []⟩
def d_first_item : He.DefD := ⟨("first_item", none), "first_item", "first_item", defArgs s_first_item, defBody s_first_item, defScope s_first_item, [], []⟩
def d_is_pair : He.DefD := ⟨("is_pair", none), "is_pair", "is_pair", defArgs s_is_pair, defBody s_is_pair, defScope s_is_pair, [], []⟩
def d_products_error : He.DefD := ⟨("products_error", none), "products_error", "products_error", defArgs s_products_error, defBody s_products_error, defScope s_products_error, [], []⟩
def d_products_of : He.DefD := ⟨("products_of", none), "products_of", "products_of", defArgs s_products_of, defBody s_products_of, defScope s_products_of, [], []⟩
def d_sum_by : He.DefD := ⟨("sum_by", none), "sum_by", "sum_by", defArgs s_sum_by, defBody s_sum_by, defScope s_sum_by, [], []⟩
def d_values_at : He.DefD := ⟨("values_at", none), "values_at", "values_at", defArgs s_values_at, defBody s_values_at, defScope s_values_at, [], []⟩
def d_product_code : He.DefD := ⟨("product_code", none), "product_code", "product_code", defArgs s_product_code, defBody s_product_code, defScope s_product_code, [], []⟩
def d_checks_of : He.DefD := ⟨("checks_of", none), "checks_of", "checks_of", defArgs s_checks_of, defBody s_checks_of, defScope s_checks_of, [], []⟩
def d__law_one : He.DefD := ⟨("_law_one", none), "_law_one", "_law_one", defArgs s__law_one, defBody s__law_one, defScope s__law_one, [], []⟩
def d__law_is_number : He.DefD := ⟨("_law_is_number", none), "_law_is_number", "_law_is_number", defArgs s__law_is_number, defBody s__law_is_number, defScope s__law_is_number, [], []⟩
def d__law_flat : He.DefD := ⟨("_law_flat", none), "_law_flat", "_law_flat", defArgs s__law_flat, defBody s__law_flat, defScope s__law_flat, [], []⟩
def d__law_spliced : He.DefD := ⟨("_law_spliced", none), "_law_spliced", "_law_spliced", defArgs s__law_spliced, defBody s__law_spliced, defScope s__law_spliced, [], []⟩
def d__law_bent : He.DefD := ⟨("_law_bent", none), "_law_bent", "_law_bent", defArgs s__law_bent, defBody s__law_bent, defScope s__law_bent, [], []⟩
def d__law_power : He.DefD := ⟨("_law_power", none), "_law_power", "_law_power", defArgs s__law_power, defBody s__law_power, defScope s__law_power, [], []⟩
def d__law_drawn_row : He.DefD := ⟨("_law_drawn_row", none), "_law_drawn_row", "_law_drawn_row", defArgs s__law_drawn_row, defBody s__law_drawn_row, defScope s__law_drawn_row, [], []⟩
def d__law_is_row : He.DefD := ⟨("_law_is_row", none), "_law_is_row", "_law_is_row", defArgs s__law_is_row, defBody s__law_is_row, defScope s__law_is_row, [], []⟩
def d__law_is_headed : He.DefD := ⟨("_law_is_headed", none), "_law_is_headed", "_law_is_headed", defArgs s__law_is_headed, defBody s__law_is_headed, defScope s__law_is_headed, [], []⟩
def d__law_plain_triple : He.DefD := ⟨("_law_plain_triple", none), "_law_plain_triple", "_law_plain_triple", defArgs s__law_plain_triple, defBody s__law_plain_triple, defScope s__law_plain_triple, [], []⟩
def d__law_less : He.DefD := ⟨("_law_less", none), "_law_less", "_law_less", defArgs s__law_less, defBody s__law_less, defScope s__law_less, [], []⟩
def d__law_reduced : He.DefD := ⟨("_law_reduced", none), "_law_reduced", "_law_reduced", defArgs s__law_reduced, defBody s__law_reduced, defScope s__law_reduced, [], []⟩
def d__law_plain_code : He.DefD := ⟨("_law_plain_code", none), "_law_plain_code", "_law_plain_code", defArgs s__law_plain_code, defBody s__law_plain_code, defScope s__law_plain_code, [], []⟩
def d__law_nought_rows : He.DefD := ⟨("_law_nought_rows", none), "_law_nought_rows", "_law_nought_rows", defArgs s__law_nought_rows, defBody s__law_nought_rows, defScope s__law_nought_rows, [], []⟩
def d__law_products : He.DefD := ⟨("_law_products", none), "_law_products", "_law_products", defArgs s__law_products, defBody s__law_products, defScope s__law_products, [], []⟩
def d__law_cells : He.DefD := ⟨("_law_cells", none), "_law_cells", "_law_cells", defArgs s__law_cells, defBody s__law_cells, defScope s__law_cells, [], []⟩
def d__law_values : He.DefD := ⟨("_law_values", none), "_law_values", "_law_values", defArgs s__law_values, defBody s__law_values, defScope s__law_values, [], []⟩
def d__law_fault : He.DefD := ⟨("_law_fault", none), "_law_fault", "_law_fault", defArgs s__law_fault, defBody s__law_fault, defScope s__law_fault, [], []⟩
def d__law_is_code_right : He.DefD := ⟨("_law_is_code_right", none), "_law_is_code_right", "_law_is_code_right", defArgs s__law_is_code_right, defBody s__law_is_code_right, defScope s__law_is_code_right, [], []⟩
def d_law : He.DefD := ⟨("law", none), "law", "law", defArgs s_law, defBody s_law, defScope s_law, [], []⟩
def hfn : List He.DefD := [d__law_pot, d__law_of, d_undoing, d_stepped, d_plain_code, d_other_code, d_is_row, d_first_item, d_is_pair, d_products_error, d_products_of, d_sum_by, d_values_at, d_product_code, d_checks_of, d__law_one, d__law_is_number, d__law_flat, d__law_spliced, d__law_bent, d__law_power, d__law_drawn_row, d__law_is_row, d__law_is_headed, d__law_plain_triple, d__law_less, d__law_reduced, d__law_plain_code, d__law_nought_rows, d__law_products, d__law_cells, d__law_values, d__law_fault, d__law_is_code_right, d_law]
def hglo : List He.Fa := [.glo "_law_pot", .glo "_law_of", .glo "undoing", .glo "stepped", .glo "plain_code", .glo "other_code", .glo "is_row", .glo "first_item", .glo "is_pair", .glo "products_error", .glo "products_of", .glo "sum_by", .glo "values_at", .glo "product_code", .glo "checks_of", .glo "_law_one", .glo "_law_is_number", .glo "_law_flat", .glo "_law_spliced", .glo "_law_bent", .glo "_law_power", .glo "_law_drawn_row", .glo "_law_is_row", .glo "_law_is_headed", .glo "_law_plain_triple", .glo "_law_less", .glo "_law_reduced", .glo "_law_plain_code", .glo "_law_nought_rows", .glo "_law_products", .glo "_law_cells", .glo "_law_values", .glo "_law_fault", .glo "_law_is_code_right", .glo "law"]
def hint : List He.Fa := ks0.map fun q => .int q.1 q.2
def hfa : List He.Fa := hglo ++ (hint ++ blNames.map He.Fa.free)
def loose_0 : List Str := ["MAX_CHECKED", "undoing", "stepped", "plain_code", "other_code", "is_row", "first_item", "is_pair", "products_error", "products_of", "sum_by", "values_at", "product_code", "checks_of", "_law_pot", "_law_of", "_law_one", "_law_is_number", "_law_flat", "_law_spliced", "_law_bent", "_law_power", "_law_drawn_row", "_law_is_row", "_law_is_headed", "_law_plain_triple", "_law_reduced", "_law_less", "_law_plain_code", "_law_nought_rows"]
def loose_1 : List Str := ["_law_products", "_law_cells", "_law_values", "_law_fault", "_law_is_code_right"]
abbrev loose : List Str := loose_0 ++ loose_1
abbrev R : PySem.W.OpenRow := PySem.W.OpenLaw.row PySem.Challenge.rw_fewproducts_k76_whole_product_lists
abbrev hk : PySem.W.Hook := hookM 4 hfa hfn
def ob (s : PySem.W.SharedT) : Bool × He.AlD := obsM 4 hfa hfn (HandSHeadRun.getT s)
theorem ob_eq (s : PySem.W.SharedT) : ob s = hk.obs s.abs := obsM_eq (HandSHeadRun.getT_eq s)
theorem run (w : World) : HandSHeadRun.RunEq R (PySem.W.view R.prog [40]) hk ob 4000 loose w := by
  intro os
  kernel_rfl
section
variable {P : Program} {w : World} {K : PySem.W.Frag} {mg : Str → Option Value} {base : Heap}
abbrev N__law_pot : List Str := ["script", "cells", "mixed", "cell"]
theorem sc__law_pot : FnScope N__law_pot ["script"] (defScope s__law_pot) := ⟨rfl, rfl, rfl, by decide +kernel, rfl, by decide +kernel, by decide +kernel⟩
theorem ok__law_pot {ks : List (Str × Int)} {f : Addr} {fd : FuncData} (T : TopOk mg base ks) (F : FnP K "_law_pot" s__law_pot f fd) : FnG P w K mg base 1 f fd ["script"] (SpPot K) := by
  obtain ⟨oc, od, dV, kV, doc, pm, an, cdv, ct, osl, rfl, lk, hcd, _, _⟩ := F.ex
  refine fnG_of lk hcd sc__law_pot fun A outer s H vs Q E hr hgu hl hsp => ?_
  refine ⟨_, pss_cons (ps_par (i := 1) (j := 2) rfl sc__law_pot.nd rfl rfl (by decide) rfl rfl
      (pa_cons (pe_lc (own := [("cell", 3)]) rfl sc__law_pot.nd (pi_list (pe_slice sl_list (pv 0) po_none (po_some pe_int))) (blkOk_by (by rfl)) (fun s H C cl fp => pg_name (i := 3) sc__law_pot.nd rfl (.inl rfl)) (fun s H C cl fp => pts_nil)
          (fun s H C cl fp => pe_op op_add (pe_op op_mul pe_int (pe_callB call_abs rfl (T.bl _ (by decide +kernel)) (by decide +kernel) (pa_cons (pv 3) pa_nil))) (pe_callTy (bi_int (hf := hfW w)) rfl (T.bl _ (by decide +kernel)) (by decide +kernel) (pa_cons (pe_cmpR op_lt (pv 3) pe_int (nomark _)) pa_nil))))
        (pa_cons (pe_op op_add pe_int (pe_op op_mul pe_int (pe_callB call_len_seq (by rfl) (T.bl _ (by decide +kernel)) PySem.boot_len (pa_cons (pv 0) pa_nil)))) pa_nil)) (by rfl))
    (pss_cons (ps_for (L2.passes_of rfl) rfl (pi_list (pv 1)) (pg_name (i := 3) sc__law_pot.nd rfl (.inl rfl)) (pss_one (ps_set (i := 2) sc__law_pot.nd rfl (.inl rfl) (pe_op op_mod (pe_op op_add (pe_op op_add (pe_op op_mul (pv 2) pe_int) (pv 3)) pe_int) pe_int))))
    (pss_one (ps_ret (pe_lst (pa_cons (pe_lc (own := [("cell", 3)]) rfl sc__law_pot.nd (pi_list (pv 1)) (blkOk_by (by rfl)) (fun s H C cl fp => pg_name (i := 3) sc__law_pot.nd rfl (.inl rfl)) (fun s H C cl fp => pts_one (pt_cmpR op_gt (pv 3) (pe_op op_pow pe_int pe_int) (nomark _))) (fun s H C cl fp => pv 3)) (pa_cons (pv 2) (pa_cons pe_int pa_nil))))))), ?_⟩
  exact pot_run hsp
abbrev N__law_of : List Str := ["pot", "many", "cell", "number"]
theorem sc__law_of : FnScope N__law_of ["pot", "many"] (defScope s__law_of) := ⟨rfl, rfl, rfl, by decide +kernel, rfl, by decide +kernel, by decide +kernel⟩
theorem ok__law_of {f : Addr} {fd : FuncData} (F : FnP K "_law_of" s__law_of f fd) (hg : mg "_law_of" = some (.ref f)) : DefOk P w K mg base 1 c__law_of := by
  refine ⟨⟨f, fd, ["pot", "many"], hg, F.kp, ?_, List.forall_mem_cons.mpr ⟨shape_of F fun _ _ _ _ _ _ us ws as h1 h2 h3 => match us, ws, h1, h2, h3 with
    | [a0, a1], [], _, _, h3 => (by cases h3; exact ⟨rfl, rfl⟩), List.forall_mem_nil _⟩⟩, fun z => by cases z⟩
  obtain ⟨oc, od, dV, kV, doc, pm, an, cdv, ct, osl, rfl, lk, hcd, _, _⟩ := F.ex
  refine fnG_of lk hcd sc__law_of fun A outer s H vs Q E hr hgu hl hsp => ?_
  have hu : (A.deeper (envOfC "_law_of" (defScope s__law_of) s.heap.objs.size f cdv)).units + 66 < cLine := by have := hr.un; omega
  refine ⟨_, pss_cons (ps_if (pt_cmpR op_lt (pv 1) pe_int (nomark _)) (pss_one (ps_ret pe_int)) pss_nil)
    (pss_cons (ps_if (pt_cmpR (opCmp (hf := hfW w) hu .ne) (pe_ix ix_list (pv 0) pe_int (fun _ _ => rfl)) (pe_lst pa_nil) (nomark _))
      (pss_cons (ps_set (i := 2) sc__law_of.nd rfl (.inl rfl) (pe_bm0 PySem.F.plainAttrs_list PySem.F.slot_list_pop PySem.F.type_list_pop mt_pop (pe_ix ix_list (pv 0) pe_int (fun _ _ => rfl)) rfl rfl))
        (pss_cons (ps_if (pt_cmpR op_ge (pv 2) (pv 1) (nomark _)) (pss_one (ps_expr (pe_bm PySem.F.plainAttrs_list PySem.F.slot_list_append PySem.F.type_list_append mt_append (pe_ix ix_list (pv 0) pe_int (fun _ _ => rfl)) (pa_cons (pe_op op_fdiv (pv 2) (pv 1)) pa_nil)))) pss_nil)
          (pss_one (ps_ret (pe_op op_mod (pv 2) (pv 1)))))) pss_nil)
    (pss_cons (ps_asg (pe_op op_add (pe_ix ix_list (pv 0) pe_int (fun _ _ => rfl)) pe_int) (pg_sub (pv 0) pe_int set_list (fun _ => rfl)) swaps_sub stores_sub rfl)
    (pss_cons (ps_set (i := 3) sc__law_of.nd rfl (.inl rfl) (pe_op op_mod (pe_op op_add (pe_ix ix_list (pv 0) pe_int (fun _ _ => rfl)) (pe_op op_mul (pe_ix ix_list (pv 0) pe_int (fun _ _ => rfl)) pe_int)) pe_int))
    (pss_cons (ps_set (i := 3) sc__law_of.nd rfl (.inl rfl) (pe_op op_mod (pe_op op_add (pe_op op_add (pe_op op_mul (pv 3) (pv 3)) (pe_op op_mul (pe_ix ix_list (pv 0) pe_int (fun _ _ => rfl)) pe_int)) pe_int) pe_int))
    (pss_cons (ps_set (i := 3) sc__law_of.nd rfl (.inl rfl) (pe_op op_mod (pe_op op_add (pe_op op_mul (pv 3) (pv 3)) (pe_ix ix_list (pv 0) pe_int (fun _ _ => rfl))) pe_int))
    (pss_one (ps_ret (pe_op op_mod (pe_op op_fdiv (pv 3) pe_int) (pv 1))))))))), ?_⟩
  exact of_run hsp
theorem ok_law {f fP : Addr} {fd fdP : FuncData} (T : TopOk mg base ks0) (F : FnP K "law" s_law f fd) (FP : FnP K "_law_pot" s__law_pot fP fdP) (gP : mg "_law_pot" = some (.ref fP)) (h__law_one : DefOk P w K mg base 2 c__law_one) (h__law_of : DefOk P w K mg base 1 c__law_of) (h__law_products : DefOk P w K mg base 3 c__law_products) (h__law_drawn_row : DefOk P w K mg base 2 c__law_drawn_row) (h__law_values : DefOk P w K mg base 1 c__law_values) (h_values_at : DefOk P w K mg base 2 c_values_at) (h__law_is_code_right : DefOk P w K mg base 6 c__law_is_code_right) (h_products_of : DefOk P w K mg base 1 c_products_of) (h__law_bent : DefOk P w K mg base 3 c__law_bent) (h__law_spliced : DefOk P w K mg base 2 c__law_spliced) (h__law_fault : DefOk P w K mg base 3 c__law_fault) (h_products_error : DefOk P w K mg base 3 c_products_error) : FnG P w K mg base 7 f fd ["script"] (SpLaw K) := by
  obtain ⟨oc, od, dV, kV, doc, pm, an, cdv, ct, osl, rfl, lk, hcd, _, _⟩ := F.ex
  have GP : FnG P w K mg base 1 fP fdP ["script"] (SpPot K) := ok__law_pot T FP
  have shP : Shape K fdP ["script"] 1 [] [0] := shape_of FP fun _ _ _ _ _ _ us ws as h1 h2 h3 => match us, ws, h1, h2, h3 with
    | [a0], [], _, _, h3 => (by cases h3; exact ⟨rfl, rfl⟩)
  refine fnG_of (k := 6) lk hcd sc_law fun A outer s H vs Q E hr hgu hl hsp => ?_
  have ok := bodyOk (N := N_law) (pi := 1) (hp := true) (cs := cs_law) (ks := ks0) (P := P) (w := w) (k := 6) T sc_law.kind (List.forall_mem_cons.mpr ⟨h__law_one.mono (by decide), List.forall_mem_cons.mpr ⟨h__law_of.mono (by decide), List.forall_mem_cons.mpr ⟨h__law_products.mono (by decide), List.forall_mem_cons.mpr ⟨h__law_drawn_row.mono (by decide), List.forall_mem_cons.mpr ⟨h__law_values.mono (by decide), List.forall_mem_cons.mpr ⟨h_values_at.mono (by decide), List.forall_mem_cons.mpr ⟨h__law_is_code_right.mono (by decide), List.forall_mem_cons.mpr ⟨h_products_of.mono (by decide), List.forall_mem_cons.mpr ⟨h__law_bent.mono (by decide), List.forall_mem_cons.mpr ⟨h__law_spliced.mono (by decide), List.forall_mem_cons.mpr ⟨h__law_fault.mono (by decide), List.forall_mem_cons.mpr ⟨h_products_error.mono (by decide), List.forall_mem_nil _⟩⟩⟩⟩⟩⟩⟩⟩⟩⟩⟩⟩) (cxOf cx0 P w K mg base N_law "law" (defScope s_law) f cdv A outer s H E) rfl rfl rfl rfl rfl rfl sc_law.nd rfl rfl hr hgu (fun _ => rfl) (L2.passes_of rfl)
  exact ⟨_, pss_cons (ps_set (i := 1) sc_law.nd rfl (by first | exact .inl rfl | exact .inr rfl) (pe_callG1 GP (hr.mono (by decide)) hgu (by rfl) gP FP.kp shP (pv 0))) (sndSs ok b_law _ is_law), law_body rfl rfl rfl (fun s hs => law_true hs) hsp⟩
end
theorem facts {P : Program} {w : World} {K : PySem.W.Frag} {h : Heap} {mg : Str → Option Value} {f : Addr} (X : K.In h) (G : h.Ns mainGlobals mg) (hfl : mg ("law" : Str) = some (.ref f)) (c : SaysM hfa hfn K) :
    ∃ fd : FuncData, (∀ (s : Shared) (v : Value), BindsTo s fd ⟨[v], []⟩ [("script", v)]) ∧ ∀ base : Heap, K.In base → base.Ns mainGlobals mg → FnG P w K mg base 7 f fd ["script"] (SpLaw K) := by
  have glo : ∀ x : Str, He.Fa.glo x ∈ hglo → mg x = some (.ref (He.ga K x)) := fun x hx => He.glo_ok X G (fact_mem c.2 (List.mem_append_left _ hx))
  obtain ⟨fd__law_pot, F__law_pot⟩ := c.2.def_ 0 (d := d__law_pot) rfl
  have g__law_pot := glo "_law_pot" (List.mem_of_getElem? (i := 0) rfl)
  obtain ⟨fd__law_of, F__law_of⟩ := c.2.def_ 1 (d := d__law_of) rfl
  have g__law_of := glo "_law_of" (List.mem_of_getElem? (i := 1) rfl)
  obtain ⟨fd_undoing, F_undoing⟩ := c.2.def_ 2 (d := d_undoing) rfl
  have g_undoing := glo "undoing" (List.mem_of_getElem? (i := 2) rfl)
  obtain ⟨fd_stepped, F_stepped⟩ := c.2.def_ 3 (d := d_stepped) rfl
  have g_stepped := glo "stepped" (List.mem_of_getElem? (i := 3) rfl)
  obtain ⟨fd_plain_code, F_plain_code⟩ := c.2.def_ 4 (d := d_plain_code) rfl
  have g_plain_code := glo "plain_code" (List.mem_of_getElem? (i := 4) rfl)
  obtain ⟨fd_other_code, F_other_code⟩ := c.2.def_ 5 (d := d_other_code) rfl
  have g_other_code := glo "other_code" (List.mem_of_getElem? (i := 5) rfl)
  obtain ⟨fd_is_row, F_is_row⟩ := c.2.def_ 6 (d := d_is_row) rfl
  have g_is_row := glo "is_row" (List.mem_of_getElem? (i := 6) rfl)
  obtain ⟨fd_first_item, F_first_item⟩ := c.2.def_ 7 (d := d_first_item) rfl
  have g_first_item := glo "first_item" (List.mem_of_getElem? (i := 7) rfl)
  obtain ⟨fd_is_pair, F_is_pair⟩ := c.2.def_ 8 (d := d_is_pair) rfl
  have g_is_pair := glo "is_pair" (List.mem_of_getElem? (i := 8) rfl)
  obtain ⟨fd_products_error, F_products_error⟩ := c.2.def_ 9 (d := d_products_error) rfl
  have g_products_error := glo "products_error" (List.mem_of_getElem? (i := 9) rfl)
  obtain ⟨fd_products_of, F_products_of⟩ := c.2.def_ 10 (d := d_products_of) rfl
  have g_products_of := glo "products_of" (List.mem_of_getElem? (i := 10) rfl)
  obtain ⟨fd_sum_by, F_sum_by⟩ := c.2.def_ 11 (d := d_sum_by) rfl
  have g_sum_by := glo "sum_by" (List.mem_of_getElem? (i := 11) rfl)
  obtain ⟨fd_values_at, F_values_at⟩ := c.2.def_ 12 (d := d_values_at) rfl
  have g_values_at := glo "values_at" (List.mem_of_getElem? (i := 12) rfl)
  obtain ⟨fd_product_code, F_product_code⟩ := c.2.def_ 13 (d := d_product_code) rfl
  have g_product_code := glo "product_code" (List.mem_of_getElem? (i := 13) rfl)
  obtain ⟨fd_checks_of, F_checks_of⟩ := c.2.def_ 14 (d := d_checks_of) rfl
  have g_checks_of := glo "checks_of" (List.mem_of_getElem? (i := 14) rfl)
  obtain ⟨fd__law_one, F__law_one⟩ := c.2.def_ 15 (d := d__law_one) rfl
  have g__law_one := glo "_law_one" (List.mem_of_getElem? (i := 15) rfl)
  obtain ⟨fd__law_is_number, F__law_is_number⟩ := c.2.def_ 16 (d := d__law_is_number) rfl
  have g__law_is_number := glo "_law_is_number" (List.mem_of_getElem? (i := 16) rfl)
  obtain ⟨fd__law_flat, F__law_flat⟩ := c.2.def_ 17 (d := d__law_flat) rfl
  have g__law_flat := glo "_law_flat" (List.mem_of_getElem? (i := 17) rfl)
  obtain ⟨fd__law_spliced, F__law_spliced⟩ := c.2.def_ 18 (d := d__law_spliced) rfl
  have g__law_spliced := glo "_law_spliced" (List.mem_of_getElem? (i := 18) rfl)
  obtain ⟨fd__law_bent, F__law_bent⟩ := c.2.def_ 19 (d := d__law_bent) rfl
  have g__law_bent := glo "_law_bent" (List.mem_of_getElem? (i := 19) rfl)
  obtain ⟨fd__law_power, F__law_power⟩ := c.2.def_ 20 (d := d__law_power) rfl
  have g__law_power := glo "_law_power" (List.mem_of_getElem? (i := 20) rfl)
  obtain ⟨fd__law_drawn_row, F__law_drawn_row⟩ := c.2.def_ 21 (d := d__law_drawn_row) rfl
  have g__law_drawn_row := glo "_law_drawn_row" (List.mem_of_getElem? (i := 21) rfl)
  obtain ⟨fd__law_is_row, F__law_is_row⟩ := c.2.def_ 22 (d := d__law_is_row) rfl
  have g__law_is_row := glo "_law_is_row" (List.mem_of_getElem? (i := 22) rfl)
  obtain ⟨fd__law_is_headed, F__law_is_headed⟩ := c.2.def_ 23 (d := d__law_is_headed) rfl
  have g__law_is_headed := glo "_law_is_headed" (List.mem_of_getElem? (i := 23) rfl)
  obtain ⟨fd__law_plain_triple, F__law_plain_triple⟩ := c.2.def_ 24 (d := d__law_plain_triple) rfl
  have g__law_plain_triple := glo "_law_plain_triple" (List.mem_of_getElem? (i := 24) rfl)
  obtain ⟨fd__law_less, F__law_less⟩ := c.2.def_ 25 (d := d__law_less) rfl
  have g__law_less := glo "_law_less" (List.mem_of_getElem? (i := 25) rfl)
  obtain ⟨fd__law_reduced, F__law_reduced⟩ := c.2.def_ 26 (d := d__law_reduced) rfl
  have g__law_reduced := glo "_law_reduced" (List.mem_of_getElem? (i := 26) rfl)
  obtain ⟨fd__law_plain_code, F__law_plain_code⟩ := c.2.def_ 27 (d := d__law_plain_code) rfl
  have g__law_plain_code := glo "_law_plain_code" (List.mem_of_getElem? (i := 27) rfl)
  obtain ⟨fd__law_nought_rows, F__law_nought_rows⟩ := c.2.def_ 28 (d := d__law_nought_rows) rfl
  have g__law_nought_rows := glo "_law_nought_rows" (List.mem_of_getElem? (i := 28) rfl)
  obtain ⟨fd__law_products, F__law_products⟩ := c.2.def_ 29 (d := d__law_products) rfl
  have g__law_products := glo "_law_products" (List.mem_of_getElem? (i := 29) rfl)
  obtain ⟨fd__law_cells, F__law_cells⟩ := c.2.def_ 30 (d := d__law_cells) rfl
  have g__law_cells := glo "_law_cells" (List.mem_of_getElem? (i := 30) rfl)
  obtain ⟨fd__law_values, F__law_values⟩ := c.2.def_ 31 (d := d__law_values) rfl
  have g__law_values := glo "_law_values" (List.mem_of_getElem? (i := 31) rfl)
  obtain ⟨fd__law_fault, F__law_fault⟩ := c.2.def_ 32 (d := d__law_fault) rfl
  have g__law_fault := glo "_law_fault" (List.mem_of_getElem? (i := 32) rfl)
  obtain ⟨fd__law_is_code_right, F__law_is_code_right⟩ := c.2.def_ 33 (d := d__law_is_code_right) rfl
  have g__law_is_code_right := glo "_law_is_code_right" (List.mem_of_getElem? (i := 33) rfl)
  obtain ⟨fd_law, F_law⟩ := c.2.def_ 34 (d := d_law) rfl
  have g_law := glo "law" (List.mem_of_getElem? (i := 34) rfl)
  have e := hfl.symm.trans g_law
  cases e
  have b := FunD.bindsA (ps := ["script"]) F_law fun _ _ _ _ _ _ us hl => match us, hl with | [_], _ => rfl
  refine ⟨fd_law, fun s v => b s [v] rfl, fun base B _ => ?_⟩
  have T : TopOk mg base ks0 := top_ok X G c B (fun x hx => List.mem_append_right _ (List.mem_append_right _ (List.mem_map.mpr ⟨x, hx, rfl⟩))) fun q hq => List.mem_append_right _ (List.mem_append_left _ (List.mem_map.mpr ⟨q, hq, rfl⟩))
  have h__law_of : DefOk P w K mg base 1 c__law_of := ok__law_of F__law_of g__law_of
  have h_undoing : DefOk P w K mg base 1 c_undoing := ok_undoing T F_undoing g_undoing 
  have h_stepped : DefOk P w K mg base 2 c_stepped := ok_stepped T F_stepped g_stepped h_undoing
  have h_plain_code : DefOk P w K mg base 3 c_plain_code := ok_plain_code T F_plain_code g_plain_code h_stepped
  have h_other_code : DefOk P w K mg base 3 c_other_code := ok_other_code T F_other_code g_other_code h_stepped
  have h_is_row : DefOk P w K mg base 1 c_is_row := ok_is_row T F_is_row g_is_row 
  have h_first_item : DefOk P w K mg base 1 c_first_item := ok_first_item T F_first_item g_first_item 
  have h_is_pair : DefOk P w K mg base 2 c_is_pair := ok_is_pair T F_is_pair g_is_pair h_is_row h_first_item
  have h_products_error : DefOk P w K mg base 3 c_products_error := ok_products_error T F_products_error g_products_error h_is_pair
  have h_products_of : DefOk P w K mg base 1 c_products_of := ok_products_of T F_products_of g_products_of 
  have h_sum_by : DefOk P w K mg base 1 c_sum_by := ok_sum_by T F_sum_by g_sum_by 
  have h_values_at : DefOk P w K mg base 2 c_values_at := ok_values_at T F_values_at g_values_at h_sum_by
  have h_product_code : DefOk P w K mg base 4 c_product_code := ok_product_code T F_product_code g_product_code h_plain_code
  have h_checks_of : DefOk P w K mg base 5 c_checks_of := ok_checks_of T F_checks_of g_checks_of h_other_code h_product_code
  have h__law_one : DefOk P w K mg base 2 c__law_one := ok__law_one T F__law_one g__law_one h__law_of
  have h__law_is_number : DefOk P w K mg base 1 c__law_is_number := ok__law_is_number T F__law_is_number g__law_is_number 
  have h__law_flat : DefOk P w K mg base 1 c__law_flat := ok__law_flat T F__law_flat g__law_flat 
  have h__law_spliced : DefOk P w K mg base 2 c__law_spliced := ok__law_spliced T F__law_spliced g__law_spliced h__law_of
  have h__law_bent : DefOk P w K mg base 3 c__law_bent := ok__law_bent T F__law_bent g__law_bent h__law_one h__law_of
  have h__law_power : DefOk P w K mg base 1 c__law_power := ok__law_power T F__law_power g__law_power 
  have h__law_drawn_row : DefOk P w K mg base 2 c__law_drawn_row := ok__law_drawn_row T F__law_drawn_row g__law_drawn_row h__law_of
  have h__law_is_row : DefOk P w K mg base 2 c__law_is_row := ok__law_is_row T F__law_is_row g__law_is_row h__law_is_number
  have h__law_is_headed : DefOk P w K mg base 1 c__law_is_headed := ok__law_is_headed T F__law_is_headed g__law_is_headed 
  have h__law_plain_triple : DefOk P w K mg base 2 c__law_plain_triple := ok__law_plain_triple T F__law_plain_triple g__law_plain_triple h__law_power
  have h__law_less : DefOk P w K mg base 1 c__law_less := ok__law_less T F__law_less g__law_less 
  have h__law_reduced : DefOk P w K mg base 2 c__law_reduced := ok__law_reduced T F__law_reduced g__law_reduced h__law_power h__law_less
  have h__law_plain_code : DefOk P w K mg base 3 c__law_plain_code := ok__law_plain_code T F__law_plain_code g__law_plain_code h__law_reduced
  have h__law_nought_rows : DefOk P w K mg base 4 c__law_nought_rows := ok__law_nought_rows T F__law_nought_rows g__law_nought_rows h__law_reduced h__law_plain_code
  have h__law_products : DefOk P w K mg base 3 c__law_products := ok__law_products T F__law_products g__law_products h__law_of h__law_drawn_row h__law_plain_triple
  have h__law_cells : DefOk P w K mg base 2 c__law_cells := ok__law_cells T F__law_cells g__law_cells h__law_flat
  have h__law_values : DefOk P w K mg base 1 c__law_values := ok__law_values T F__law_values g__law_values 
  have h__law_fault : DefOk P w K mg base 3 c__law_fault := ok__law_fault T F__law_fault g__law_fault h__law_is_row h__law_is_headed
  have h__law_is_code_right : DefOk P w K mg base 6 c__law_is_code_right := ok__law_is_code_right T F__law_is_code_right g__law_is_code_right h__law_cells h__law_plain_code h_product_code h__law_nought_rows h_checks_of
  exact ok_law T F_law F__law_pot g__law_pot h__law_one h__law_of h__law_products h__law_drawn_row h__law_values h_values_at h__law_is_code_right h_products_of h__law_bent h__law_spliced h__law_fault h_products_error
end K76
open PySem PySem.W PySem.Calls PyProof.Rows
set_option maxHeartbeats 0 in
theorem PySem.Challenge.cw_fewproducts_k76_whole_product_lists_holds : PySem.Challenge.rw_fewproducts_k76_whole_product_lists.Holds := by
  w_on; o_law
  refine HandSHeadRun.head_any (r := OpenLaw.row PySem.Challenge.rw_fewproducts_k76_whole_product_lists) (q := view (OpenLaw.row PySem.Challenge.rw_fewproducts_k76_whole_product_lists).prog [40]) (H := K76.hk) (ob := K76.ob) (M := 4000) (loose := K76.loose) (d := HandSHeadRun.topDef (OpenLaw.row PySem.Challenge.rw_fewproducts_k76_whole_product_lists).prog 40) (kwd := []) K76.ob_eq
    (by kernel_rfl) (fun s => by kernel_rfl) K76.run (by kernel_rfl) (by kernel_rfl) (by kernel_rfl) (by rfl) (by first | assumption | decide +kernel) (by decide +kernel) ⟨rfl, rfl, rfl, rfl, rfl, by decide +kernel⟩ ?hw ?hc
  case hw => w_witness2
  case hc =>
    refine Ev.walk_ofG (l := PySem.Challenge.rw_fewproducts_k76_whole_product_lists) (k := 7) (x := "script") rfl (by kernel_rfl) ⟨rfl, by decide, by decide⟩ ?F
    intro w mg fa h Y G hmg0
    obtain ⟨K, KX, c⟩ := Y
    have hmg : mg ("law" : PySem.Str) = some (.ref fa) := by
      have e : (HandSHeadRun.topDef (OpenLaw.row PySem.Challenge.rw_fewproducts_k76_whole_product_lists).prog 40).name = ("law" : PySem.Str) := by kernel_rfl
      rw [← e]
      exact hmg0
    obtain ⟨fd, hb, hF⟩ := K76.facts (P := (PySem.Challenge.rw_fewproducts_k76_whole_product_lists).prog) (w := w) KX G hmg c
    exact ⟨K, fd, Ev.SpLaw K, KX, hb, fun H a ns hl hS => ⟨a, ns, rfl, hS, hl, fun _ => rfl⟩, hF⟩
