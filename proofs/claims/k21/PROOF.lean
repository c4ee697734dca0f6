import PyProof.Rows.All
import Wide.All
import OpenK.AllK
import Wide.FinOn
import HandS.ForMost
import KE.SortKeyHeap
import HandS.DictComp
import HandS.Lambda
import KE.KDictCopyH
import HandS.ForExc
import HandS.TupAny
import HandS.TupLe
import HandS.Deep
import HandS.SortInts
import HandS.IsInst
import HandS.TupMul
import HandS.Text
import KE.DataMinMax
import HandS.More
import KE.KDictPairs
import HandS.SortRule
import KE.KSortTup
import PyProof.Rows.SortKeyStr
import PyProof.Rows.StrMeet
import HandS.Conv
import HandS.Strs
import HandS.SetFor
import PyProof.Rows.SetFrom
import KE.SortData
import HandS.Flow
import HandS.Iter
import HandS.Zip
import PyProof.Draws
import PyProof.EnumMake
import HandS.Style
import HandS.Small
import HandS.WordsExc
import HandS.ExcOwn
import KE.KDictSum
import HandS.Keys
import HandS.ExcInit
import HandS.ExcField
import HandS.TryMany
import KE.KExcSuper
import KE.KSuper
import HandS.EndTab
import PyProof.ReprLen
import PyProof.P3Eq
import KE.KNestM
import KE.KExcLine
import PySem.Challenge.RW_listworlds_k21_whole_classes_of_names
set_option Elab.async false
set_option linter.all false
set_option maxRecDepth 100000
/-! Lw0: data, the small language, its evaluator. -/
namespace Lw
open PySem PySem.Spec

/-- what a program's value is worth: frozen lists and dicts are values, mutable ones are places of the store -/
inductive T where
  | non | bl (b : Bool) | int (i : Int) | str (s : Str)
  | tup (ts : List T) | lst (ts : List T) | dct (kvs : List (T × T))
  | loc (l : Nat) | fn (f : Nat) | act | scr (ns : List Int)
deriving Inhabited

mutual
def T.beq : T → T → Bool
  | .non, .non => true
  | .bl a, .bl b => a == b
  | .int a, .int b => decide (a = b)
  | .str a, .str b => decide (a = b)
  | .tup a, .tup b => T.beqL a b
  | .lst a, .lst b => T.beqL a b
  | .dct a, .dct b => T.beqP a b
  | .loc a, .loc b => Nat.beq a b
  | .fn a, .fn b => Nat.beq a b
  | .act, .act => true
  | .scr a, .scr b => decide (a = b)
  | _, _ => false
def T.beqL : List T → List T → Bool
  | [], [] => true
  | x :: xs, y :: ys => T.beq x y && T.beqL xs ys
  | _, _ => false
def T.beqP : List (T × T) → List (T × T) → Bool
  | [], [] => true
  | (k, v) :: xs, (l, w) :: ys => (T.beq k l && T.beq v w) && T.beqP xs ys
  | _, _ => false
end
mutual
theorem T.beq_iff : ∀ (a b : T), T.beq a b = true ↔ a = b
  | .non, b => by cases b <;> simp [T.beq]
  | .bl a, b => by cases b <;> simp [T.beq]
  | .int a, b => by cases b <;> simp [T.beq]
  | .str a, b => by cases b <;> simp [T.beq]
  | .tup a, b => by cases b <;> simp [T.beq, T.beqL_iff a]
  | .lst a, b => by cases b <;> simp [T.beq, T.beqL_iff a]
  | .dct a, b => by cases b <;> simp [T.beq, T.beqP_iff a]
  | .loc a, b => by cases b <;> simp [T.beq]
  | .fn a, b => by cases b <;> simp [T.beq]
  | .act, b => by cases b <;> simp [T.beq]
  | .scr a, b => by cases b <;> simp [T.beq]
theorem T.beqL_iff : ∀ (a b : List T), T.beqL a b = true ↔ a = b
  | [], b => by cases b <;> simp [T.beqL]
  | x :: xs, b => by cases b <;> simp [T.beqL, T.beq_iff x, T.beqL_iff xs]
theorem T.beqP_iff : ∀ (a b : List (T × T)), T.beqP a b = true ↔ a = b
  | [], b => by cases b <;> simp [T.beqP]
  | (k, v) :: xs, b => by
    cases b with
    | nil => simp [T.beqP]
    | cons y ys => obtain ⟨l, w⟩ := y; simp [T.beqP, T.beq_iff k, T.beq_iff v, T.beqP_iff xs]
end
instance : DecidableEq T := fun a b => if h : T.beq a b = true then isTrue ((T.beq_iff a b).mp h) else isFalse fun e => h ((T.beq_iff a b).mpr e)

/-- what stands at a place of the store; lck: a dict while a loop walks it; ldc: a dict whose keys are None and texts -/
inductive Cell where
  | lst (ts : List T) | dct (kvs : List (T × T)) | lck (kvs : List (T × T)) | ldc (kvs : List (T × T))
deriving Inhabited, DecidableEq
abbrev Store := List Cell
abbrev Env := List (Option T)

inductive Bop where | add | sub | mul | fdiv | mod | pow
deriving DecidableEq
inductive Cop where | eq | ne | lt | le | gt | ge | is | isnt | isin | notin
deriving DecidableEq
/-- the classes that isinstance is asked for -/
inductive Ty where | int | bool | str | tuple | list | dict
deriving DecidableEq
/-- built-in functions -/
inductive Bi where
  | abs | all | any | dict (fz : Bool) | int | isi (t : Ty) | len | list (fz : Bool) | max1 | max2 | min1 | min2 | repr | sorted (fz : Bool) | sortset (fz : Bool) | lenset | str | sum | tuple | rev | cat | tupr | lstr (fz : Bool)
deriving DecidableEq
/-- methods of built-in classes -/
inductive Mt where
  | append | extend | get1 | get2 | index | insert | pop0 | pop1 | update | join | split | startswith | count | values | items
deriving DecidableEq
/-- what a loop walks -/
inductive Ik where | val | rng1 | rng2 | enum | zip2 | items | values
deriving DecidableEq
/-- targets -/
inductive G where | name (i : Nat) | tup (gs : List G)

/-- what a def makes of the lambda that it hears: told: (t, answer) or (r,); nothing: whether the error came -/
inductive Hk where | told (t r : Str) (cs : List Nat) | nothing (cs : List Nat) | many (t : Str) (hs : List (List Nat × List Nat × Str × Bool))
deriving DecidableEq
inductive E where
  | lit (t : T) | var (i : Nat)
  | tup (es : List E) | lst (fz : Bool) (es : List E) | dct (fz : Bool) (kvs : List (E × E))
  | bin (o : Bop) (a b : E) | neg (a : E) | not (a : E) | and (a b : E) | or (a b : E)
  | cmp (o : Cop) (a b : E) | chain (o p : Cop) (a b c : E) | ite (c a b : E)
  | call (f : Nat) (iso : Bool) (es : List E) | hear (hk : Hk) (u : E) | callv (i : Nat) (iso : Bool) (es : List E)
  | bi (b : Bi) (es : List E) | mt (m : Mt) (o : E) (es : List E)
  | idx (a i : E) | sli (a : E) (lo hi : Option E)
  | comp (fz : Bool) (elt : E) (tg : G) (k : Ik) (its : List E) (ifs : List E) (own : List Nat)
  | dcomp (fz : Bool) (key val : E) (tg : G) (k : Ik) (its : List E) (ifs : List E) (own : List Nat)
  | ldd (kvs : List (E × E)) | lpu (o : E) (kvs : List (E × E)) | lup (o key val : E) (tg : G) (k : Ik) (its : List E) (ifs : List E) (own : List Nat)
  | lsrt (fz : Bool) (o u : E)

inductive S where
  | expr (e : E) | set (i : Nat) (e : E) | asg (g : G) (e : E) | par (is : List Nat) (es : List E)
  | aug (i : Nat) (o : Bop) (e : E) | seti (o i v : E) | augi (o i : E) (op : Bop) (v : E)
  | ret (e : Option E) | ite (c : E) (a b : List S) | whl (c : E) (b : List S) | fr (g : G) (k : Ik) (its : List E) (b : List S)
  | pass | brk | cont | raise (c : Nat) (es : List E)
  | try1 (b : List S) (cs ns : List Nat) (h : List S)

structure Exc where
  cls : Nat
  fs : List T
deriving DecidableEq
inductive Res (α : Type) where
  | ok (a : α) (st : Store) | exc (x : Exc) (st : Store) | no
def Res.bind {α β : Type} (r : Res α) (f : α → Store → Res β) : Res β :=
  match r with
  | .ok a st => f a st
  | .exc x st => .exc x st
  | .no => .no
def Res.of {α : Type} (o : Option α) (st : Store) : Res α :=
  match o with
  | some a => .ok a st
  | none => .no
@[simp] theorem Res.bind_ok {α β : Type} (a : α) (st : Store) (f : α → Store → Res β) : (Res.ok a st).bind f = f a st := rfl
@[simp] theorem Res.bind_exc {α β : Type} (x : Exc) (st : Store) (f : α → Store → Res β) : (Res.exc x st : Res α).bind f = .exc x st := rfl
@[simp] theorem Res.bind_no {α β : Type} (f : α → Store → Res β) : (Res.no : Res α).bind f = .no := rfl
@[simp] theorem Res.of_some {α : Type} (a : α) (st : Store) : Res.of (some a) st = .ok a st := rfl
@[simp] theorem Res.of_none {α : Type} (st : Store) : Res.of (none : Option α) st = .no := rfl

inductive Fl where | nx | rt (v : T) | bk | ct
inductive SRes where
  | ok (f : Fl) (env : Env) (st : Store) | exc (x : Exc) (env : Env) (st : Store) | no
def SRes.of {α : Type} (r : Res α) (env : Env) (f : α → Store → SRes) : SRes :=
  match r with
  | .ok a st => f a st
  | .exc x st => .exc x env st
  | .no => .no
@[simp] theorem SRes.of_ok {α : Type} (a : α) (st : Store) (env : Env) (f : α → Store → SRes) : SRes.of (.ok a st) env f = f a st := rfl
@[simp] theorem SRes.of_exc {α : Type} (x : Exc) (st : Store) (env : Env) (f : α → Store → SRes) : SRes.of (.exc x st : Res α) env f = .exc x env st := rfl
@[simp] theorem SRes.of_no {α : Type} (env : Env) (f : α → Store → SRes) : SRes.of (.no : Res α) env f = .no := rfl

/-- the longest list, text, dict that is made -/
def big : Nat := 16777216

/-! ### values -/
mutual
def noLoc : T → Bool
  | .non | .bl _ | .int _ | .str _ | .fn _ | .scr _ => true
  | .tup ts => noLocL ts
  | .lst ts => noLocL ts
  | .dct kvs => noLocP kvs
  | .loc _ | .act => false
def noLocL : List T → Bool
  | [] => true
  | t :: ts => noLoc t && noLocL ts
def noLocP : List (T × T) → Bool
  | [] => true
  | (k, v) :: r => noLoc k && noLoc v && noLocP r
end
mutual
def flat : T → Bool
  | .non | .bl _ | .int _ | .str _ | .fn _ => true
  | .tup ts => flatL ts
  | .lst _ | .dct _ | .loc _ | .act | .scr _ => false
def flatL : List T → Bool
  | [] => true
  | t :: ts => flat t && flatL ts
end
mutual
def res (st : Store) : T → Option T
  | .non => some .non
  | .bl b => some (.bl b)
  | .int i => some (.int i)
  | .str s => some (.str s)
  | .fn f => some (.fn f)
  | .tup ts => (resL st ts).map .tup
  | .lst ts => (resL st ts).map .lst
  | .dct kvs => if noLocP kvs then some (.dct kvs) else none
  | .loc l => match st[l]? with
    | some (.lst ts) => if noLocL ts then some (.lst ts) else none
    | some (.dct kvs) => if noLocP kvs then some (.dct kvs) else none
    | _ => none
  | .act => none
  | .scr ns => some (.scr ns)
def resL (st : Store) : List T → Option (List T)
  | [] => some []
  | t :: ts => match res st t, resL st ts with
    | some u, some us => some (u :: us)
    | _, _ => none
end
mutual
def toPy : T → Option PyData
  | .non => some .none
  | .bl b => some (.bool b)
  | .int i => some (.int i)
  | .str s => some (.str s)
  | .tup ts => (toPyL ts).map .tuple
  | .lst ts => (toPyL ts).map .list
  | .dct _ | .loc _ | .fn _ | .act | .scr _ => none
def toPyL : List T → Option (List PyData)
  | [] => some []
  | t :: ts => match toPy t, toPyL ts with
    | some u, some us => some (u :: us)
    | _, _ => none
end
def pyOf (st : Store) (t : T) : Option PyData := (res st t).bind toPy
/-- == of data -/
def eqT (st : Store) (a b : T) : Option Bool :=
  match pyOf st a, pyOf st b with
  | some x, some y => if SeqAt.shaped x && SeqAt.shaped y then some (PyData.eqv x y) else none
  | _, _ => none
def showT (st : Store) (a : T) : Option Str :=
  match pyOf st a with
  | some d => if d.showable && !d.hasDict && decide (d.depth ≤ 60) && decide (d.shown.length ≤ big) then some d.shown else none
  | _ => none
/-- < of lists by < of items; every pair is asked -/
def ltL (lt : T → T → Option Bool) : List T → List T → Option Bool
  | [], [] => some false
  | [], _ :: _ => some true
  | _ :: _, [] => some false
  | x :: xs, y :: ys => match eqT [] x y, ltL lt xs ys with
    | some true, some b => some b
    | some false, some _ => lt x y
    | _, _ => none
/-- < of ints, texts, tuples of such, so deep -/
def ltT : Nat → T → T → Option Bool
  | n, x, y => match x, y with
    | .int a, .int b => some (decide (a < b))
    | .str a, .str b => some (decide (a.cps.toList < b.cps.toList))
    | .tup a, .tup b => match n with
      | 0 => none
      | n + 1 => ltL (ltT n) a b
    | _, _ => none
def isort (lt : T → T → Bool) : List T → List T
  | [] => []
  | x :: xs => go x (isort lt xs)
where go (x : T) : List T → List T
  | [] => [x]
  | y :: ys => if lt y x then y :: go x ys else x :: y :: ys
def ltB (x y : T) : Bool := match ltT 40 x y with | some b => b | none => false
/-- data that Python's < compares: the order of such data -/
def dOf (t : T) : PyData := (toPy t).getD .none
def ltDat (x y : PyData) : Bool := PySem.W.dataLt x y
def likeAll (ds : List PyData) : Bool := ds.all fun d => ds.all fun e => PySem.W.alike d e
def tupD : PyData → Bool
  | .tuple (_ :: _) => true
  | _ => false
def noneD : PyData → Bool
  | .none => true
  | _ => false
def plainD : PyData → Bool
  | .none | .tuple _ => false
  | _ => true
def sortD (ts : List T) : Option (List T) := match toPyL ts with
  | some ds => if likeAll ds = true ∧ (ds.all tupD = true ∨ ds.all plainD = true) ∧ ds.all (fun d => decide (d.depth ≤ 40)) = true then some (isort (fun x y => ltDat (dOf x) (dOf y)) ts) else none
  | none => none
/-- < of lists and of tuples that may hold lists -/
def ltD (st : Store) (x y : T) : Option Bool := match pyOf st x, pyOf st y with
  | some d, some e => if PySem.W.alike d e = true ∧ noneD d = false ∧ d.depth ≤ 40 then some (ltDat d e) else none
  | _, _ => none
/-- keys that stand beside things: the things by their keys -/
def insKD (p : T × T) : List (T × T) → List (T × T)
  | [] => [p]
  | q :: r => if ltDat (dOf q.1) (dOf p.1) then q :: insKD p r else p :: q :: r
def sortKD : List (T × T) → List (T × T)
  | [] => []
  | p :: r => insKD p (sortKD r)
def sortBy (ks ts : List T) : Option (List T) := match toPyL ks with
  | some ds => if likeAll ds = true ∧ (ds.all tupD = true ∨ ds.all plainD = true) ∧ ds.all (fun d => decide (d.depth ≤ 40)) = true then some ((sortKD (ks.zip ts)).map (·.2)) else none
  | none => none
def insI (x : Int) :
      List Int → List Int
  | [] => [x]
  | y :: ys => if x ≤ y then x :: y :: ys else y :: insI x ys
def sortI : List Int → List Int
  | [] => []
  | x :: xs => insI x (sortI xs)
/-- into a rising list -/
def insU (x : Int) : List Int → List Int
  | [] => [x]
  | y :: ys => if x < y then x :: y :: ys else if x = y then y :: ys else y :: insU x ys
def sortU : List Int → List Int
  | [] => []
  | x :: xs => insU x (sortU xs)
def intsOf : List T → Option (List Int)
  | [] => some []
  | .int b :: r => (intsOf r).map (b :: ·)
  | _ :: _ => none
/-- pairs of a key and an int -/
def keyT : T → Option L2.Key
  | .int i => some (.inl i)
  | .str s => some (.inr s)
  | _ => none
def tKey : L2.Key → T
  | .inl i => .int i
  | .inr s => .str s
def prsOf : List T → Option (List (L2.Key × Int))
  | [] => some []
  | .tup [k, .int v] :: r => match keyT k, prsOf r with
    | some q, some ps => some ((q, v) :: ps)
    | _, _ => none
  | _ :: _ => none
def prT (p : L2.Key × Int) : T := .tup [tKey p.1, .int p.2]
def kindK : L2.Key → Bool
  | .inl _ => true
  | .inr _ => false
def sameK (ps : List (L2.Key × Int)) : Bool := (ps.all fun p => kindK p.1) || ps.all fun p => !kindK p.1
def ltKey : L2.Key → L2.Key → Bool
  | .inl a, .inl b
        => decide (a < b)
  | .inr a, .inr b => decide (a.cps.toList < b.cps.toList)
  | .inl _, .inr _ => true
  | .inr _, .inl _ => false
def ltKP (p q : L2.Key × Int) : Bool := if p.1 = q.1 then decide (p.2 < q.2) else ltKey p.1 q.1
def insP (p : L2.Key × Int) : List (L2.Key × Int) → List (L2.Key × Int)
  | [] => [p]
  | q :: r => if ltKP q p then q :: insP p r else p :: q :: r
def sortP : List (L2.Key × Int) → List (L2.Key × Int)
  | [] => []
  | p :: r => insP p (sortP r)
/-- texts -/
def insS (x : Str) : List Str → List Str
  | [] => [x]
  | y :: ys => if decide (y.cps.toList < x.cps.toList) then y :: insS x ys else x :: y :: ys
def sortS : List Str → List Str
  | [] => []
  | x :: xs => insS x (sortS xs)
/-- each text once -/
def dedS : List Str → List Str
  | [] => []
  | x :: xs => if x ∈ xs then dedS xs else x :: dedS xs
def sortT (ts : List T) : Option (List T) :=
  match intsOf ts with
  | some ns => some ((sortI ns).map .int)
  | none => match prsOf ts with
    | some ps => if sameK ps = true then some ((sortP ps).map prT) else none
    | none => sortD ts
/-- keys of dicts -/
def keyOk : T → Bool
  | .int _ | .str _ => true
  | _ => false
def dget (kvs : List (T × T)) (k : T) : Option T := (kvs.find? fun p => decide (p.1 = k)).map (·.2)
def dput (kvs : List (T × T)) (k v : T) : List (T × T) :=
  if kvs.any fun p => decide (p.1 = k) then kvs.map fun p => if p.1 = k then (p.1, v) else p else kvs ++ [(k, v)]
def ddrop (kvs : List (T × T)) (k : T) : List (T × T) := kvs.filter fun p => decide (p.1 ≠ k)
def dmerge (kvs more : List (T × T)) : List (T × T) := more.foldl (fun acc p => dput acc p.1 p.2) kvs
def pairsOf : List T → Option (List (T × T))
  | [] => some []
  | .tup [k, v] :: r => if keyOk k then (pairsOf r).map ((k, v) :: ·) else none
  | _ :: _ => none
/-- lists and tuples by their items -/
def seqOf (st : Store) : T → Option (List T)
  | .scr ns => some (ns.map .int)
  | .lst ts => some ts
  | .tup ts => some ts
  | .loc l => match st[l]? with
    | some (.lst ts) => some ts
    | _ => none
  | _ => none
def lstOf (st : Store) : T → Option (List T)
  | .lst ts => some ts
  | .loc l => match st[l]? with
    | some (.lst ts) => some ts
    | _ => none
  | _ => none
def dctOf (st : Store) : T → Option (List (T × T))
  | .dct kvs => some kvs
  | .loc l => match st[l]? with
    | some (.dct kvs) => some kvs
    | some (.lck kvs) => some kvs
    | _ => none
  | _ => none
def mkL (fz : Bool) (ts : List T) (st : Store) : Res T := if fz then .ok (.lst ts) st else .ok (.loc st.length) (st ++ [.lst ts])
def mkD (fz : Bool) (kvs : List (T × T)) (st : Store) : Res T := if fz then .ok (.dct kvs) st else .ok (.loc st.length) (st ++ [.dct kvs])
/-- the place of an index -/
def atT (ts : List T) (i : Int) : Option T := L2.atI ts i
def boolsOf : List T → Option (List Bool)
  | [] => some []
  | .bl b :: r => (boolsOf r).map (b :: ·)
  | _ :: _ => none
def strsOf : List T → Option (List Str)
  | [] => some []
  | .str b :: r => (strsOf r).map (b :: ·)
  | _ :: _ => none
def inStr (a b : Str) : Bool := !(Builtin.Str.occurrences b a 0 b.length 1).isEmpty

/-! ### operators -/
def binE (o : Bop) (x y : T) (st : Store) : Res T :=
  match o, x, y with
  | .add, .int i, .int j => .ok (.int (i + j)) st
  | .sub, .int i, .int j => .ok (.int (i - j)) st
  | .mul, .int i, .int j => if (-(2 ^ 64) < i ∧ i < 2 ^ 64) ∨ (-(2 ^ 64) < j ∧ j < 2 ^ 64) then .ok (.int (i * j)) st else .no
  | .fdiv, .int i, .int j => if 0 < j ∧ j < 1073741824 then .ok (.int (i / j)) st else .no
  | .mod, .int i, .int j => if 0 < j then .ok (.int (i % j)) st else .no
  | .pow, .int i, .int j => if 0 ≤ j ∧ j ≤ 1000000 ∧ i.natAbs < 2 ^ 64 then .ok (.int (i ^ j.toNat)) st else .no
  | .add, .str a, .str b => if a.length + b.length ≤ big then .ok (.str (a ++ b)) st else .no
  | .add, .tup a, .tup b => if a.length + b.length ≤ big then .ok (.tup (a ++ b)) st else .no
  | .add, x, y => match lstOf st x, lstOf st y with
    | some a, some b => if a.length + b.length ≤ big then .ok (.lst (a ++ b)) st else .no
    | _, _ => .no
  | .mul, .tup a, .int k => if a ≠ [] ∧ 1 ≤ k ∧ k ≤ 1000 ∧ a.length ≤ 1000 then .ok (.tup (List.replicate k.toNat a).flatten) st else .no
  | .mul, x, .int k => match lstOf st x with
    | some a => if 0 ≤ k ∧ k < 1000 ∧ a.length * k.toNat ≤ big then .ok (.lst (List.replicate k.toNat a).flatten) st else .no
    | none => .no
  | _, _, _ => .no
def pyL (st : Store) (ts : List T) : Option (List PyData) := (resL st ts).bind toPyL
def inSeq (st : Store) (x : T) (ts : List T) : Option Bool :=
  match pyL st ts, pyOf st x with
  | some ds, some d => if SeqAt.shaped (.list ds) && SeqAt.shaped d then some (ds.any fun y => PyData.eqv y d) else none
  | _, _ => none
def inE (st : Store) (x y : T) : Option Bool :=
  match y with
  | .str b => match x with
    | .str a => some (inStr a b)
    | _ => none
  | .dct kvs => if keyOk x then some (dget kvs x).isSome else none
  | .tup ts => inSeq st x ts
  | .lst ts => inSeq st x ts
  | .loc l => match st[l]? with
    | some (.lst ts) => inSeq st x ts
    | some (.dct kvs) => if keyOk x then some (dget kvs x).isSome else none
    | some (.lck kvs) => if keyOk x then some (dget kvs x).isSome else none
    | _ => none
  | _ => none
def cmpE (o : Cop) (x y : T) (st : Store) : Option Bool :=
  match o with
  | .eq => eqT st x y
  | .ne => (eqT st x y).map not
  | .lt => match ltT 40 x y with
    | some b => some b
    | none => ltD st x y
  | .le => match x, y with
    | .int i, .int j => some (decide (i ≤ j))
    | .str a, .str b => some (!decide (b.cps.toList < a.cps.toList))
    | _, _ => none
  | .gt => match x, y with
    | .int i, .int j => some (decide (j < i))
    | _, _ => none
  | .ge => match x, y with
    | .int i, .int j => some (decide (j ≤ i))
    | _, _ => none
  | .is => if y = .non then some (decide (x = .non)) else none
  | .isnt => if y = .non then some (!decide (x = .non)) else none
  | .isin => inE st x y
  | .notin => (inE st x y).map not
def isiE (t : Ty) (st : Store) (x : T) : Option Bool :=
  match x with
  | .non => some false
  | .bl _ => some (match t with | .int | .bool => true | _ => false)
  | .int _ => some (match t with | .int => true | _ => false)
  | .str _ => some (match t with | .str => true | _ => false)
  | .tup _ => some (match t with | .tuple => true | _ => false)
  | .lst _ => some (match t with | .list => true | _ => false)
  | .dct _ => some (match t with | .dict => true | _ => false)
  | .loc l => match st[l]? with
    | some (.lst _) => some (match t with | .list => true | _ => false)
    | some (.dct _) => some (match t with | .dict => true | _ => false)
    | _ => none
  | _ => none
def lenE (st : Store) (x : T) : Option Nat :=
  match x with
  | .str s => if s.length ≤ big then some s.length else none
  | .tup ts => some ts.length
  | .lst ts => some ts.length
  | .scr ts => some ts.length
  | .dct kvs => some kvs.length
  | .loc l => match st[l]? with
    | some (.lst ts) => some ts.length
    | some (.dct kvs) => some kvs.length
    | some (.lck kvs) => some kvs.length
    | _ => none
  | _ => none
/-- a list's or a tuple's items -/
def seqI (st : Store) : T → Option (List T)
  | .tup ts => some ts
  | t => lstOf st t
/-- range as a value -/
def rgE (a b : Int) : Option (List T) := if -1000000 ≤ a ∧ a ≤ 1000000 ∧ -1000000 ≤ b ∧ b ≤ 1000000 then some ((List.range (b - a).toNat).map fun i => .int (a + (i : Nat))) else none
def maxL : List Int → Option Int
  | [] => none
  | x :: xs => some (xs.foldl (fun a b => if a < b then b else a) x)
def minL : List Int → Option Int
  | [] => none
  | x :: xs => some (xs.foldl (fun a b => if b < a then b else a) x)
def biE (b : Bi) (vs : List T) (st : Store) : Res T :=
  match b, vs with
  | .abs, [.int i] => .ok (.int (if i < 0 then -i else i)) st
  | .all, [v] => .of (((lstOf st v).bind boolsOf).map fun bs => .bl (bs.all id)) st
  | .any, [v] => .of (((lstOf st v).bind boolsOf).map fun bs => .bl (bs.any id)) st
  | .dict fz, [v] => match (seqOf st v).bind pairsOf with
    | some kvs => mkD fz (dmerge [] kvs) st
    | none => .no
  | .int, [.int i] => .ok (.int i) st
  | .int, [.bl k] => .ok (.int (if k then 1 else 0)) st
  | .isi t, [v] => .of ((isiE t st v).map .bl) st
  | .len, [v] => .of ((lenE st v).map fun n => .int n) st
  | .list fz, [v] => match seqOf st v with
    | some ts => mkL fz ts st
    | none => .no
  | .max1, [v] => .of (((seqI st v).bind intsOf).bind fun ns => (maxL ns).map .int) st
  | .tupr, [.int n] => .of ((rgE 0 n).map .tup) st
  | .tupr, [.int a, .int b] => .of ((rgE a b).map .tup) st
  | .lstr fz, [.int n] => match rgE 0 n with
    | some ts => mkL fz ts st
    | none => .no
  | .lstr fz, [.int a, .int b] => match rgE a b with
    | some ts => mkL fz ts st
    | none => .no
  | .min1, [v] => .of (((lstOf st v).bind intsOf).bind fun ns => (minL ns).map .int) st
  | .max2, [.int i, .int j] => .ok (.int (if j > i then j else i)) st
  | .min2, [.int i, .int j] => .ok (.int (if j < i then j else i)) st
  | .repr, [v] => .of ((showT st v).map .str) st
  | .str, [.int i] => if i.natAbs.log2 < 1920 then .ok (.str (Str.ofString (toString i))) st else .no
  | .rev, [.tup ts] => .ok (.tup ts.reverse) st
  | .cat, [x, y] => match lstOf st x, lstOf st y with
    | some a, some b => if a.length + b.length ≤ big then mkL false (a ++ b) st else .no
    | _, _ => .no
  | .sorted fz, [v] => match lstOf st v with
    | some ts => match sortT ts with
      | some us => mkL fz us st
      | none => .no
    | none => match dctOf st v with
      | some kvs => if kvs.length < 64 then match intsOf (kvs.map (·.1)) with
          | some ns => mkL fz ((sortI ns).map .int) st
          | none => match strsOf (kvs.map (·.1)) with
            | some ss => mkL fz ((sortS ss).map .str) st
            | none => .no
        else .no
      | none => .no
  | .sortset fz, [v] => match (lstOf st v).bind intsOf with
    | some ns => if ns.length < 64 then mkL fz ((sortU ns).map .int) st else .no
    | none => match (lstOf st v).bind strsOf with
      | some ss => if ss.length < 64 then mkL fz ((sortS (dedS ss)).map .str) st else .no
      | none => .no
  | .sum, [v] => .of (((lstOf st v).bind intsOf).map fun ns => .int ns.sum) st
  | .tuple, [v] => match seqOf st v with
    | some ts => .ok (.tup ts) st
    | none => .of ((dctOf st v).map fun kvs => .tup (kvs.map (·.1))) st
  | _, _ => .no
def setC (l : Nat) (c : Cell) (st : Store) : Store := st.set l c
def cutT (ts : List T) (lo hi : Option Int) : List T := (ts.drop (HT.sIx ts.length 0 lo)).take (HT.sIx ts.length ts.length hi - HT.sIx ts.length 0 lo)

/-! ### dicts whose keys are None and texts -/
def lfOk : T → Bool
  | .non | .str _ => true
  | _ => false
def isLd (st : Store) : T → Bool
  | .loc l => match st[l]? with
    | some (.ldc _) => true
    | _ => false
  | _ => false
def lupE (x : T) (more : List (T × T)) (st : Store) : Res T := match x with
  | .loc l => match st[l]? with
    | some (.ldc kvs) => if kvs.length + more.length ≤ big then .ok .non (st.set l (.ldc (dmerge kvs more))) else .no
    | _ => .no
  | _ => .no
/-- the items of what is sorted by a key -/
def keyItems (st : Store) : T → Option (List T)
  | .loc l => match st[l]? with
    | some (.ldc kvs) => some (kvs.map (·.1))
    | some (.lst ts) => some ts
    | _ => none
  | .lst ts => some ts
  | _ => none

/-! ### the evaluator -/
/-- what is around: the defs, the defs as a lambda sees them, how often a while turns -/
structure Cf where
  cf : Nat → List T → Store → Res T
  low : Nat → List T → Store → Res T
  lim : Nat
  nd : Nat
  top : Bool
/-- in a lambda that a def calls -/
def Cf.dn (c : Cf) : Cf := ⟨c.low, c.low, c.lim, c.nd, false⟩
/-- what the clauses tell of an error: which they catch, which not, what they tell, whether with the fields -/
def hearM : List (List Nat × List Nat × Str × Bool) → Exc → Option T
  | [], _ => none
  | (cs, ns, r, w) :: hs, x => if x.cls ∈ cs then (match w with
      | false => some (.tup [.str r])
      | true => (match x.fs with
        | [a, b] => some (.tup [.str r, a, b])
        | _ => none)) else if x.cls ∈ ns then hearM hs x else none
def hearR (hk : Hk) (r : Res T) : Res T :=
  match r with
  | .ok v st => (match hk with
    | .told t _ _ => .ok (.tup [.str t, v]) st
    | .many t _ => .ok (.tup [.str t, v]) st
    | .nothing _ => .ok (.bl false) st)
  | .exc x st => (match hk with
    | .told _ r cs => if x.cls ∈ cs then .ok (.tup [.str r]) st else .no
    | .nothing cs => if x.cls ∈ cs then .ok (.bl true) st else .no
    | .many _ hs => .of (hearM hs x) st)
  | .no => .no

/-- a def called -/
def callE (c : Cf) (f : Nat) (iso : Bool) (ts : List T) (st : Store) : Res T :=
  match iso with
  | false => c.cf f ts st
  | true => match resL st ts with
    | none => .no
    | some us => match c.cf f us [] with
      | .ok v st' => match res st' v with
        | some u => if us = ts ∨ flat u = true then .ok u st else .no
        | none => .no
      | .exc x st' => match resL st' x.fs with
        | some fs => if us = ts ∨ flatL fs = true then .exc ⟨x.cls, fs⟩ st else .no
        | none => .no
      | .no => .no

mutual
def setG : G → T → Env → Option Env
  | .name i, t, env => if i < env.length then some (env.set i (some t)) else none
  | .tup gs, .tup ts, env => setGs gs ts env
  | .tup _, _, _ => none
def setGs : List G → List T → Env → Option Env
  | [], [], env => some env
  | g :: gs, t :: ts, env => match setG g t env with
    | some env' => setGs gs ts env'
    | none => none
  | _, _, _ => none
end
def wipeT (env : Env) : List Nat → Env
  | [] => env
  | v :: vs => (wipeT env vs).set v none

/-- what a loop walks: the items; the place that must stay as it is -/
structure Walk where
  items : List T
  at_ : Option Nat := none
def zipT : List T → List T → List T
  | x :: xs, y :: ys => .tup [x, y] :: zipT xs ys
  | _, _ => []
def enumT : Nat → List T → List T
  | _, [] => []
  | i, x :: xs => .tup [.int i, x] :: enumT (i + 1) xs
def walkOf (st : Store) (k : Ik) (vs : List T) : Option Walk :=
  match k, vs with
  | .val, [.lst ts] => some { items := ts }
  | .val, [.tup ts] => some { items := ts }
  | .val, [.scr ns] => some { items := ns.map .int }
  | .val, [.str s] => some { items := s.cps.toList.map fun c => .str ⟨#[c]⟩ }
  | .val, [.loc l] => match st[l]? with
    | some (.lst ts) => some { items := ts, at_ := some l }
    | _ => none
  | .rng1, [.int j] => if -(2 ^ 62) ≤ j ∧ j < 2 ^ 62 then some { items := (List.range j.toNat).map fun i => .int (0 + (i : Nat)) } else none
  | .rng2, [.int i, .int j] => if -(2 ^ 62) ≤ i ∧ i < 2 ^ 62 ∧ -(2 ^ 62) ≤ j ∧ j < 2 ^ 62 then some { items := (List.range (j - i).toNat).map fun m => .int (i + (m : Nat)) } else none
  | .enum, [v] => match v with
    | .lst ts => some { items := enumT 0 ts }
    | .tup ts => some { items := enumT 0 ts }
    | .loc l => match st[l]? with
      | some (.lst ts) => some { items := enumT 0 ts, at_ := some l }
      | _ => none
    | _ => none
  | .zip2, [v, u] => match v, u with
    | .lst ts, .lst us => some { items := zipT ts us }
    | .tup ts, .tup us => some { items := zipT ts us }
    | _, _ => none
  | _, _ => none
/-- nothing has turned what is walked (enumerate, zip of a list in the store: the plain items are asked for) -/
def Walk.same (w : Walk) (k : Ik) (st : Store) : Bool :=
  match w.at_ with
  | none => true
  | some l => match st[l]? with
    | some (.lst ts) => match k with
      | .enum => decide (enumT 0 ts = w.items)
      | _ => decide (ts = w.items)
    | _ => false

def Res.noexc {α : Type} : Res α → Res α
  | .exc _ _ => .no
  | r => r
@[simp] theorem Res.noexc_ok {α : Type} (a : α) (st : Store) : (Res.ok a st).noexc = .ok a st := rfl
@[simp] theorem Res.noexc_no {α : Type} : (Res.no : Res α).noexc = .no := rfl
@[simp] theorem Res.noexc_exc {α : Type} (x : Exc) (st : Store) : (Res.exc x st : Res α).noexc = .no := rfl

/-- the turns of a comprehension -/
def loopL {α : Type} (el : Env → Store → Res α) (tst : Env → Store → Res Bool) (tg : G) (w : Walk) (k : Ik) (env : Env) : List T → Store → Res (List α)
  | [], st => if w.same k st then .ok [] st else .no
  | x :: xs, st => if w.same k st then match setG tg x env with
      | some env' => (tst env' st).bind fun b st => match b with
        | true => (el env' st).bind fun y st => (loopL el tst tg w k env xs st).bind fun ys st => .ok (y :: ys) st
        | false => loopL el tst tg w k env xs st
      | none => .no
    else .no
/-- the kind of a receiver -/
def kindOf (st : Store) : T → Nat
  | .lst _ => 1
  | .scr _ => 1
  | .tup _ => 2
  | .dct _ => 3
  | .str _ => 4
  | .loc l => match st[l]? with
    | some (.lst _) => 1
    | some (.dct _) => 3
    | some (.lck _) => 3
    | _ => 0
  | _ => 0
/-- the methods that are known, by the receiver's kind -/
def mok : Mt → Nat → Bool
  | .append, 1 | .extend, 1 | .insert, 1 | .pop0, 1 | .pop1, 1 | .pop1, 3 | .update, 3 | .get1, 3 | .get2, 3 | .index, 1 | .index, 2 => true
  | _, _ => false
/-- methods -/
def mtE (m : Mt) (x : T) (ts : List T) (st : Store) : Res T :=
  match m, x, ts with
  | .append, .loc l, [v] => match st[l]? with
    | some (.lst us) => if us.length < big then .ok .non (st.set l (.lst (us ++ [v]))) else .no
    | _ => .no
  | .extend, .loc l, [v] => match st[l]?, lstOf st v with
    | some (.lst us), some vs => if us.length + vs.length ≤ big then .ok .non (st.set l (.lst (us ++ vs))) else .no
    | _, _ => .no
  | .insert, .loc l, [.int i, v] => match st[l]? with
    | some (.lst us) => if us.length < big ∧ 0 ≤ i ∧ i ≤ us.length then .ok .non (st.set l (.lst (us.take i.toNat ++ v :: us.drop i.toNat))) else .no
    | _ => .no
  | .pop0, .loc l, [] => match st[l]? with
    | some (.lst us) => match us.getLast? with
      | some v => .ok v (st.set l (.lst us.dropLast))
      | none => .no
    | _ => .no
  | .pop1, .loc l, [v] => match st[l]?, v with
    | some (.lst us), .int i => if 0 ≤ i then match us[i.toNat]? with
        | some u => .ok u (st.set l (.lst (us.eraseIdx i.toNat)))
        | none => .no
      else .no
    | some (.dct kvs), v => if keyOk v then match dget kvs v with
        | some u => .ok u (st.set l (.dct (ddrop kvs v)))
        | none => .no
      else .no
    | _, _ => .no
  | .update, .loc l, [v] => match st[l]?, v with
    | some (.dct kvs), .dct more => if kvs.length + more.length ≤ big then .ok .non (st.set l (.dct (dmerge kvs more))) else .no
    | _, _ => .no
  | .get1, x, [k] => match dctOf st x with
    | some kvs => if keyOk k then .ok ((dget kvs k).getD .non) st else .no
    | none => .no
  | .get2, x, [k, d] => match dctOf st x with
    | some kvs => if keyOk k then .ok ((dget kvs k).getD d) st else .no
    | none => .no
  | .index, x, [v] => match seqOf st x with
    | some us => match pyL st us, pyOf st v with
      | some ds, some d => if SeqAt.shaped (.list ds) && SeqAt.shaped d then
          match ds.findIdx? (fun z => PyData.eqv z d) with
          | some j => .ok (.int j) st
          | none => .no
        else .no
      | _, _ => .no
    | none => .no
  | _, _, _ => .no
def idxE (x y : T) (st : Store) : Option T :=
  match x, y with
  | .str s, .int i => if s.length ≤ big then (L2.atI s.cps.toList i).map fun c => .str ⟨#[c]⟩ else none
  | .tup ts, .int i => atT ts i
  | .scr ns, .int i => atT (ns.map .int) i
  | .lst ts, .int i => atT ts i
  | .dct kvs, k => if keyOk k then dget kvs k else none
  | .loc l, k => match st[l]? with
    | some (.lst ts) => match k with
      | .int i => atT ts i
      | _ => none
    | some (.dct kvs) => if keyOk k then dget kvs k else none
    | some (.lck kvs) => if keyOk k then dget kvs k else none
    | _ => none
  | _, _ => none
def sliE (x : T) (lo hi : Option Int) (st : Store) : Res T :=
  match x with
  | .tup ts => .ok (.tup (cutT ts lo hi)) st
  | .scr ns => .ok (.lst (cutT (ns.map .int) lo hi)) st
  | x => match lstOf st x with
    | some ts => .ok (.lst (cutT ts lo hi)) st
    | none => .no

/-- what a key function tells of each -/
def keyVals (f : T → Res T) : List T → Option (List T)
  | [] => some []
  | t :: ts => match f t with
    | .ok v _ => if (toPy v).isSome = true then (keyVals f ts).map (v :: ·) else none
    | _ => none
mutual
def evE (c : Cf) : E → Env → Store → Res T
  | .lit t, _, st => .ok t st
  | .var i, env, st => match env[i]? with
    | some (some t) => .ok t st
    | _ => .no
  | .tup es, env, st => (evEs c es env st).bind fun ts st => .ok (.tup ts) st
  | .lst fz es, env, st => (evEs c es env st).bind fun ts st => mkL fz ts st
  | .dct fz kvs, env, st => (evPs c kvs env st).bind fun kvs st => if kvs.all (fun p => keyOk p.1) then mkD fz (dmerge [] kvs) st else .no
  | .bin o a b, env, st => (evE c a env st).bind fun x st => (evE c b env st).bind fun y st => binE o x y st
  | .neg a, env, st => (evE c a env st).bind fun x st => match x with
    | .int i => .ok (.int (-i)) st
    | _ => .no
  | .not a, env, st => (evE c a env st).bind fun x st => match x with
    | .bl b => .ok (.bl (!b)) st
    | _ => .no
  | .and a b, env, st => (evE c a env st).bind fun x st => match x with
    | .bl true => evE c b env st
    | .bl false => .ok (.bl false) st
    | _ => .no
  | .or a b, env, st => (evE c a env st).bind fun x st => match x with
    | .bl true => .ok (.bl true) st
    | .bl false => evE c b env st
    | _ => .no
  | .cmp o a b, env, st => (evE c a env st).bind fun x st => (evE c b env st).bind fun y st => .of ((cmpE o x y st).map .bl) st
  | .chain o p a b d, env, st => (evE c a env st).bind fun x st => (evE c b env st).bind fun y st => match cmpE o x y st with
    | some true => (evE c d env st).bind fun z st => .of ((cmpE p y z st).map .bl) st
    | some false => .ok (.bl false) st
    | none => .no
  | .ite t a b, env, st => (evE c t env st).bind fun x st => match x with
    | .bl true => evE c a env st
    | .bl false => evE c b env st
    | _ => .no
  | .call f iso es, env, st => (evEs c es env st).bind fun ts st => callE c f iso ts st
  | .hear hk u, env, st => if c.top = true then hearR hk (evE c.dn u env st) else .no
  | .callv i iso es, env, st => match env[i]? with
    | some (some (.fn f)) => if f < c.nd then (evEs c es env st).bind fun ts st => callE c f iso ts st else .no
    | _ => .no
  | .bi b es, env, st => (evEs c es env st).bind fun ts st => biE b ts st
  | .mt m o es, env, st => (evE c o env st).bind fun x st => if mok m (kindOf st x) then (evEs c es env st).bind fun ts st' => if kindOf st' x = kindOf st x then mtE m x ts st' else .no else .no
  | .idx a i, env, st => (evE c a env st).bind fun x st => (evE c i env st).bind fun y st => .of (idxE x y st) st
  | .sli a lo hi, env, st => (evE c a env st).bind fun x st => (evO c lo env st).bind fun l st => (evO c hi env st).bind fun h st => sliE x l h st
  | .comp fz elt tg k its ifs own, env, st => (evEs c its env st).bind fun vs st => match walkOf st k vs with
    | some w => if w.items.length ≤ big then (loopL (fun env st => evE c elt env st) (fun env st => evTs c ifs env st) tg w k (wipeT env own) w.items st).noexc.bind fun ts st => mkL fz ts st else .no
    | none => .no
  | .dcomp fz key val tg k its ifs own, env, st => (evEs c its env st).bind fun vs st => match walkOf st k vs with
    | some w => if w.items.length ≤ big then (loopL (fun env st => (evE c key env st).bind fun x st => (evE c val env st).bind fun y st => if keyOk x then .ok (x, y) st else .no) (fun env st => evTs c ifs env st) tg w k (wipeT env own) w.items st).noexc.bind fun ts st => mkD fz (dmerge [] ts) st else .no
    | none => .no
  | .ldd kvs, env, st => (evPs c kvs env st).bind fun kvs st => if kvs.all (fun p => lfOk p.1) then .ok (.loc st.length) (st ++ [.ldc (dmerge [] kvs)]) else .no
  | .lpu o kvs, env, st => (evE c o env st).bind fun x st => if isLd st x then (evPs c kvs env st).bind fun kvs st => if kvs.all (fun p => lfOk p.1) then lupE x (dmerge [] kvs) st else .no else .no
  | .lup o key val tg k its ifs own, env, st => (evE c o env st).bind fun x st => if isLd st x then (evEs c its env st).bind fun vs st => match walkOf st k vs with
    | some w => if w.items.length ≤ big then (loopL (fun env st => (evE c key env st).bind fun x st => (evE c val env st).bind fun y st => if lfOk x then .ok (x, y) st else .no) (fun env st => evTs c ifs env st) tg w k (wipeT env own) w.items st).noexc.bind fun ts st => lupE x (dmerge [] ts) st else .no
    | none => .no else .no
  | .lsrt fz o u, env, st => (evE c o env st).bind fun x st => if c.top = true then (match keyItems st x with
    | some ts => match keyVals (fun t => if resL [] [t] = some [t] then evE c.dn u [some t] [] else .no) ts with
      | some ks => if ts.length ≤ big then (match sortBy ks ts with
        | some us => mkL fz us st
        | none => .no) else .no
      | none => .no
    | none => .no) else .no
def evEs (c : Cf) : List E → Env → Store → Res (List T)
  | [], _, st => .ok [] st
  | e :: es, env, st => (evE c e env st).bind fun t st => (evEs c es env st).bind fun ts st => .ok (t :: ts) st
def evPs (c : Cf) : List (E × E) → Env → Store → Res (List (T × T))
  | [], _, st => .ok [] st
  | (k, v) :: r, env, st => (evE c k env st).bind fun t st => (evE c v env st).bind fun u st => (evPs c r env st).bind fun ts st => .ok ((t, u) :: ts) st
def evTs (c : Cf) : List E → Env → Store → Res Bool
  | [], _, st => .ok true st
  | e :: es, env, st => (evE c e env st).bind fun x st => match x with
    | .bl true => evTs c es env st
    | .bl false => .ok false st
    | _ => .no
def evO (c : Cf) : Option E → Env → Store → Res (Option Int)
  | none, _, st => .ok none st
  | some e, env, st => (evE c e env st).bind fun x st => match x with
    | .int i => .ok (some i) st
    | _ => .no
end

/-- the turns of a for -/
def forL (body : Env → Store → SRes) (g : G) (w : Walk) (k : Ik) : List T → Env → Store → SRes
  | [], env, st => if w.same k st then .ok .nx env st else .no
  | x :: xs, env, st => if w.same k st then match setG g x env with
      | some env' => match body env' st with
        | .ok .nx env st => forL body g w k xs env st
        | .ok .ct env st => forL body g w k xs env st
        | .ok .bk env st => .ok .nx env st
        | .ok (.rt v) env st => .ok (.rt v) env st
        | .exc x env st => .exc x env st
        | .no => .no
      | none => .no
    else .no
/-- the turns of a while -/
def whlL (test : Env → Store → Res T) (body : Env → Store → SRes) : Nat → Env → Store → SRes
  | 0, _, _ => .no
  | n + 1, env, st => SRes.of (test env st) env fun b st => match b with
    | .bl true => match body env st with
      | .ok .nx env st => whlL test body n env st
      | .ok .ct env st => whlL test body n env st
      | .ok .bk env st => .ok .nx env st
      | .ok (.rt v) env st => .ok (.rt v) env st
      | .exc x env st => .exc x env st
      | .no => .no
    | .bl false => .ok .nx env st
    | _ => .no
def setMany : List Nat → List T → Env → Option Env
  | [], [], env => some env
  | i :: is, t :: ts, env => if i < env.length then setMany is ts (env.set i (some t)) else none
  | _, _, _ => none
/-- o[i] = v -/
def setiE (o i v : T) (st : Store) : Option Store :=
  match o with
  | .loc l => match st[l]?, i with
    | some (.lst ts), .int k => match L2.ixN ts.length k with
      | some j => some (st.set l (.lst (ts.set j v)))
      | none => none
    | some (.dct kvs), k => if keyOk k ∧ kvs.length < big then some (st.set l (.dct (dput kvs k v))) else none
    | _, _ => none
  | _ => none

/-- x op= y at a name -/
def augE (o : Bop) (x y : T) (st : Store) : Res T :=
  match o, x, y with
  | .add, .int i, .int j => .ok (.int (i + j)) st
  | .sub, .int i, .int j => .ok (.int (i - j)) st
  | .mul, .int i, .int j => if (-(2 ^ 64) < i ∧ i < 2 ^ 64) ∨ (-(2 ^ 64) < j ∧ j < 2 ^ 64) then .ok (.int (i * j)) st else .no
  | .add, .str a, .str b => if a.length + b.length ≤ big then .ok (.str (a ++ b)) st else .no
  | .add, .loc l, y => match st[l]?, lstOf st y with
    | some (.lst us), some vs => if us.length + vs.length ≤ big then .ok (.loc l) (st.set l (.lst (us ++ vs))) else .no
    | _, _ => .no
  | _, _, _ => .no

/-- o[i] of a place, where it is turned -/
def getiE (o i : T) (st : Store) : Option T :=
  match o with
  | .loc l => match st[l]? with
    | some (.lst ts) => (match i with
      | .int j => if 0 ≤ j then ts[j.toNat]? else none
      | _ => none)
    | some (.dct kvs) => if keyOk i then dget kvs i else none
    | _ => none
  | _ => none
mutual
def evS (c : Cf) : S → Env → Store → SRes
  | .expr e, env, st => SRes.of (evE c e env st) env fun _ st => .ok .nx env st
  | .set i e, env, st => SRes.of (evE c e env st) env fun t st => if i < env.length then .ok .nx (env.set i (some t)) st else .no
  | .asg g e, env, st => SRes.of (evE c e env st) env fun t st => match setG g t env with
    | some env => .ok .nx env st
    | none => .no
  | .par is es, env, st => SRes.of (evEs c es env st) env fun ts st => match setMany is ts env with
    | some env => .ok .nx env st
    | none => .no
  | .aug i o e, env, st => match env[i]? with
    | some (some x) => SRes.of (evE c e env st) env fun y st => SRes.of (augE o x y st) env fun z st => .ok .nx (env.set i (some z)) st
    | _ => .no
  | .seti o i v, env, st => SRes.of (evE c v env st) env fun v st => SRes.of (evE c o env st) env fun o st => SRes.of (evE c i env st) env fun i st => match setiE o i v st with
    | some st => .ok .nx env st
    | none => .no
  | .augi o i op v, env, st => SRes.of (evE c o env st) env fun o st => SRes.of (evE c i env st) env fun i st => match getiE o i st with
    | some x => SRes.of (evE c v env st) env fun y st => SRes.of (augE op x y st) env fun z st => match setiE o i z st with
      | some st => .ok .nx env st
      | none => .no
    | none => .no
  | .ret none, env, st => .ok (.rt .non) env st
  | .ret (some e), env, st => SRes.of (evE c e env st) env fun t st => .ok (.rt t) env st
  | .ite t a b, env, st => SRes.of (evE c t env st) env fun x st => match x with
    | .bl true => evSs c a env st
    | .bl false => evSs c b env st
    | _ => .no
  | .whl t b, env, st => whlL (fun env st => evE c t env st) (fun env st => evSs c b env st) c.lim env st
  | .fr g k its b, env, st => SRes.of (evEs c its env st) env fun vs st => match walkOf st k vs with
    | some w => forL (fun env st => evSs c b env st) g w k w.items env st
    | none => .no
  | .pass, env, st => .ok .nx env st
  | .brk, env, st => .ok .bk env st
  | .cont, env, st => .ok .ct env st
  | .raise x es, env, st => if es.isEmpty || c.top then SRes.of (evEs c es env st) env fun ts st => .exc ⟨x, ts⟩ env st else .no
  | .try1 b cs ns h, env, st => match evSs c b env st with
    | .exc e env st => if e.cls ∈ cs then evSs c h env st else if e.cls ∈ ns then .exc e env st else .no
    | r => r
def evSs (c : Cf) : List S → Env → Store → SRes
  | [], env, st => .ok .nx env st
  | s :: ss, env, st => match evS c s env st with
    | .ok .nx env st => evSs c ss env st
    | r => r
end

/-- a def: its parameters, its slots, its body -/
structure Fd where
  ps : Nat
  sl : Nat
  body : List S
/-- what a body gives -/
def gives : SRes → Res T
  | .ok .nx _ st => .ok .non st
  | .ok (.rt v) _ st => .ok v st
  | .exc x _ st => .exc x st
  | _ => .no
def enter (d : Fd) (args : List T) : Env := args.map some ++ List.replicate (d.sl - d.ps) none
def runFd (c : Cf) (d : Fd) (args : List T) (st : Store) : Res T :=
  if args.length = d.ps then gives (evSs c d.body (enter d args) st) else .no
abbrev Fns := Nat → List T → Store → Res T
/-- the program's defs, called k, k - 1, k - 2 deep -/
def triAt (P : List Fd) (lim : Nat) : Nat → Fns × Fns × Fns
  | 0 => (fun _ _ _ => .no, fun _ _ _ => .no, fun _ _ _ => .no)
  | k + 1 => (fun f args st => match P[f]? with
      | some d => runFd ⟨(triAt P lim k).1, (triAt P lim k).2.2, lim, P.length, decide (2 ≤ k)⟩ d args st
      | none => .no, (triAt P lim k).1, (triAt P lim k).2.1)
def callAt (P : List Fd) (lim k : Nat) : Fns := (triAt P lim k).1
/-- what is around in a def, so deep -/
def cfAt (P : List Fd) (lim k : Nat) : Cf := ⟨callAt P lim k, (triAt P lim k).2.2, lim, P.length, decide (2 ≤ k)⟩
theorem callAt_zero (P : List Fd) (lim f : Nat) (args : List T) (st : Store) : callAt P lim 0 f args st = .no := rfl
theorem callAt_succ (P : List Fd) (lim k f : Nat) (args : List T) (st : Store) : callAt P lim (k + 1) f args st = match P[f]? with
    | some d => runFd (cfAt P lim k) d args st
    | none => .no := rfl
theorem cfAt_two (P : List Fd) (lim k : Nat) : cfAt P lim (k + 2) = ⟨callAt P lim (k + 2), callAt P lim k, lim, P.length, true⟩ := by
  have : decide (2 ≤ k + 2) = true := decide_eq_true (Nat.le_add_left 2 k)
  unfold cfAt
  rw [this]
  rfl
end Lw
set_option Elab.async false
set_option linter.all false
set_option maxRecDepth 100000
/-! LwA: dicts whose keys are None, texts, ints: the heap's side; a comprehension that makes a dict of any kind (statement and proof follow the library's for ints and texts, HandS.DictComp, made ready for any kind). -/
namespace Lw
open PySem PySem.Spec L2 PyProof.Rows
/-! ### the heap's side -/
def lfV : Leaf → V
  | .none => .non
  | .num i => .int i
  | .text x => .str x
def LfR (P : Program) (w : World) (a : Addr) (kvs : List (Leaf × V)) (h : Heap) : Prop := kvs.length ≤ sizeLine ∧ (a == sysModules) = false ∧ ∃ vs : List (Leaf × Value), KV kvs vs ∧ h.DictOf (leafKind P w) a vs
/-- a dict of such keys -/
def LfO (P : Program) (w : World) (a : Addr) (kvs : List (Leaf × V)) : HO := .ext fun h => LfR P w a kvs h
section
variable {P : Program} {w : World} {H : Hp} {h : Heap} {a : Addr} {kvs : List (Leaf × V)}
theorem lf_new (R : LfR P w a kvs h) : ObjOk P w H h a (LfO P w a kvs) := by
  obtain ⟨z, hd, vs, r, o, es, ep, e, c⟩ := R
  refine ⟨⟨z, hd, vs, r, o, es, ep, e, c⟩, ⟨o, e⟩, ?_⟩
  rintro h1 h2 ⟨z, hd, vs, r, o, es, ep, e, c⟩ k
  exact ⟨z, hd, vs, r, o, es, ep, k _ e, c⟩
theorem lf_of (ok : HOk P w H h) (e : H a = some (LfO P w a kvs)) : LfR P w a kvs h := (ok a _ e).1
theorem lf_empty (h : Heap) (hb : sysModules < h.objs.size) : ObjOk P w H (h.push { cls := .type "dict", data := .dict #[] }) h.objs.size (LfO P w h.objs.size []) :=
  lf_new ⟨Nat.zero_le _, beq_eq_false_iff_ne.mpr (Ne.symm (Nat.ne_of_lt hb)), [], .nil, Heap.DictOf.new h⟩
theorem lf_is {k : Leaf} {u : Value} (r : RelV (lfV k) u) : (leafKind P w).is k u = true := by
  cases k with
  | none => cases (show u = Value.none from r); rfl
  | num i => obtain ⟨t, e⟩ := (show ∃ t, u = Value.int i t from r); subst e; exact decide_eq_true rfl
  | text x => obtain ⟨t, e⟩ := (show ∃ t, u = Value.str x t from r); subst e; show (x == x) = true; simp
theorem lf_type {s : Shared} (R : LfR P w a kvs s.heap) : s.TypeIs (.ref a) "dict" ∧ ∀ b, Value.ref a = .ref b → ∃ ob, s.heap.get? b = some ob ∧ ob.dict = none := by
  obtain ⟨_, _, vs, _, dd⟩ := R
  refine ⟨dd.typeIs, fun b e => ?_⟩
  cases e
  obtain ⟨o, es, ep, e, c, _⟩ := dd
  exact ⟨o, e, c.2.1⟩
end
/-- what stands at a leaf dict is no code object -/
theorem lf_nocode {P : Program} {w : World} {a c : Addr} {q : Str} {kvs : List (Leaf × V)} : LfO P w a kvs ≠ LamX.CodeO c q := fun z => by
  have e : (fun h => LfR P w a kvs h) = fun h : Heap => ∃ (oc : Obj) (vs : Array Value) (t : Tok), h.get? c = some oc ∧ oc.data = .fields vs ∧ vs[1]? = some (.str q t) := HO.ext.inj z
  let ob : Obj := { cls := .none, data := .fields #[.none, .str q default] }
  let h : Heap := { (default : Heap) with objs := Array.replicate (a + c + 1) ob }
  have hc : h.get? c = some ob := by
    have e : h.objs[c]? = some ob := by
      show (Array.replicate (a + c + 1) ob)[c]? = some ob
      rw [Array.getElem?_replicate, if_pos (by omega)]
    unfold Heap.get?
    rw [e]
  have ha : h.get? a = some ob := by
    have e : h.objs[a]? = some ob := by
      show (Array.replicate (a + c + 1) ob)[a]? = some ob
      rw [Array.getElem?_replicate, if_pos (by omega)]
    unfold Heap.get?
    rw [e]
  have x : LfR P w a kvs h := by
    have := congrFun e h
    rw [this]
    exact ⟨ob, _, _, hc, rfl, rfl⟩
  obtain ⟨_, _, _, _, o, es, ep, e1, _, e2, _⟩ := x
  rw [ha] at e1
  cases e1
  cases e2
def mergeL (kvs more : List (Leaf × V)) : List (Leaf × V) := more.foldl (fun acc kv => putK acc kv.1 kv.2) kvs
theorem mergeL_len : ∀ (more kvs : List (Leaf × V)), (mergeL kvs more).length ≤ kvs.length + more.length
  | [], kvs => Nat.le_refl _
  | p :: r, kvs => by
    have h1 := mergeL_len r (putK kvs p.1 p.2)
    have h2 :=
          length_putK kvs p.1 p.2
    show (mergeL (putK kvs p.1 p.2) r).length ≤ _
    rw [List.length_cons]
    omega
theorem kv_mergeL : ∀ (more : List (Leaf × V)) {rs : List (Leaf × Value)} {kvs : List (Leaf × V)} {vs : List (Leaf × Value)}, KV more rs → KV kvs vs → KV (mergeL kvs more) (merged vs rs)
  | [], rs, _, _, r, r0 => by
    cases rs with
    | nil => exact r0
    | cons q qs => exact (nomatch r)
  | p :: ps, rs, kvs, vs, r, r0 => by
    cases rs with
    | nil => exact (nomatch r)
    | cons q qs =>
      obtain ⟨h, t⟩ : (p.1 = q.1 ∧ RelV p.2 q.2) ∧ KV ps qs := by
        cases r with
        | cons h t => exact ⟨h, t⟩
      have e : KV (putK kvs p.1 p.2)
            (stored vs q.1 q.2) := by
        have := r0.put p.1 h.2
        rw [← h.1]
        exact this
      show KV (mergeL (putK kvs p.1 p.2) ps) (merged (stored vs q.1 q.2) qs)
      exact kv_mergeL ps t e
theorem lf_update {X : Cx} {pins : List (Addr × Obj)} {σ : L2.St} {H : Hp} {s : Shared} {Q : VK} {a b : Addr} {kvs more : List (Leaf × V)} (I : Inv X pins σ H s) (e : H a = some (LfO X.prog X.w a kvs)) (e2 : H b = some (LfO X.prog X.w b more)) (hne : a ≠ b) (hz : kvs.length + more.length ≤ sizeLine)
    (q : Q .non (upd H a (LfO X.prog X.w a (mergeL kvs more)))) : wpAny (model X.prog X.w) X.A (call (.builtin "dict.update") [.ref a, .ref b]) (EP X pins σ Q) X.xe s := by
  obtain ⟨z, hd, vs, rel, dd⟩ := lf_of I.hok e
  obtain ⟨z2, hd2, vs2, rel2, dd2⟩ := lf_of I.hok e2
  refine call_meetsIn PySem.F.slot_dict_update dd.typeIs PySem.F.entry_dict_update (PySem.F.args_dict_update_2 _ _) (meets_dict_update (leafKind X.prog X.w) a b hne hd2)
    ⟨vs, vs2, dd, dd2, (by rw [← rel.length, ← rel2.length]; exact hz), fun h' dd' _ hs => ?_⟩
  have he : ∃ q, h'.get? a = some q :=
        let ⟨q, _, _, hq, _⟩ := dd'; ⟨q, hq⟩
  exact ⟨.non, _, d_write (t' := s.toks) I (by rw [e]; exact True.intro) hs he (lf_new ⟨by have := mergeL_len more kvs; omega, hd, _, kv_mergeL _ rel2 rel, dd'⟩), rfl, q⟩
/-- a kind of dicts: what is known of one, its keys -/
structure DkG (P : Program) (w : World) (κ : Type) [DecidableEq κ] where
  ob : Addr → List (κ × V) → HO
  kv : κ → V
  new : ∀ (h : Heap), sysModules < h.objs.size → ∀ H : Hp, ObjOk P w H (h.push { cls := .type "dict", data := .dict #[] }) h.objs.size (ob h.objs.size [])
  put : ∀ {X : Cx} {pins : List (Addr × Obj)} {σ : L2.St} {H : Hp} {s : Shared} {E : Value → Shared → Prop} {D : Addr} {kvs : List (κ × V)} {k : κ} {v : V} {u r : Value} {Q : Unit → Shared → Prop}, X.prog = P → X.w = w → Inv X pins σ H s →
    H D = some (ob D kvs) → kvs.length < sizeLine → RelV (kv k) u → RelV v r → (∀ s', Inv X pins σ (upd H D (ob D (putK kvs k v))) s' → Q () s') → wpAny (model X.prog X.w) X.A (dictSet D u r) Q E s
def lfG (P : Program) (w : World) : DkG P w Leaf where
  ob := LfO P w
  kv := lfV
  new := fun h hb _ => lf_empty h hb
  put := fun {X pins σ H s E D kvs k v u r Q} hP hw I hD hz ry rv hq => by
    subst hP hw
    obtain ⟨z, hd, vs, rel, dd⟩ := lf_of I.hok hD
    have hzv :
          vs.length ≤ sizeLine := by rw [← rel.length]; exact z
    have hl : (putK kvs k v).length
          ≤ sizeLine := by have := length_putK kvs k v; omega
    refine wpAny_dictSet_pairs (hsz := hzv) (lf_is ry) dd fun h' dd' hs => hq _ ?_
    have he : ∃ q, h'.get? D = some q
          := let ⟨q, _, _, hq, _⟩ := dd'; ⟨q, hq⟩
    exact d_write I (by rw [hD]; exact True.intro) hs he (lf_new ⟨hl, hd, _, rel.put k rv, dd'⟩)
section
variable {X : Cx} {κ : Type} [DecidableEq κ] (O : DkG X.prog X.w κ)
/-- {k: v for target in iter if ..}, the dict of the kind O: D the new dict -/
def tDcG (wi : TI) (g : TG) (tt : TT) (tk tv : TE) (vs : List Nat) : TE := fun σ H Q => wi σ H fun J H1 => ∀ D, H1 D = none → ∃ W : Nat → Nat → Hp → Prop, (∃ m, W 0 m (upd H1 D (O.ob D []))) ∧ ∀ i m H, W i m H →
  (J.stop i H ∧ Q (.ref D) H) ∨
        (J.go i H ∧ ∃ Nx : Hp → Prop, (∀ H', Nx H' → ∃ m', m' < m ∧ W (i + 1) m' H') ∧ ∀ x H', J.yld i H x H' → g x (wipe σ vs) H' fun σ2 H2 => wipe σ2 vs = wipe σ vs ∧ tt σ2 H2 fun b H3 =>
    if b = true then tk σ2 H3 fun y H4 => tv σ2 H4 fun z H5 => ∃ kvs k, y = O.kv k ∧ H5 D = some (O.ob D kvs) ∧ kvs.length < sizeLine ∧ Nx (upd H5 D (O.ob D (putK kvs k z))) else Nx H3)
theorem dcG_core {pins : List (Addr × Obj)} {s : Shared} {σ : L2.St} {H : Hp} {Q : VK} {kx vx tg iter : Expr} {ifs : List Expr} {scope : Scope} {own : List (Str × Nat)} {pos pos' : Pos} {wi : TI} {g : TG} {tt : TT} {tk tv : TE} {use : Option (Value → Sem Unit)} {Qf : Value → Shared → Prop}
    (hc : X.calm = true) (hN : X.N.Nodup) (I : Inv X pins σ H s)
          (hi : PI X tg iter wi) (ok : BlkOk X.N X.env.scope scope own)
    (hg : ∀ (s : Shared) (H : Hp) (C : Addr) (cl : List (Str × Addr)) (fp : List Addr), PG (X.blk s H scope (compEnvC scope cl C X.env) fp) tg g)
          (ht : ∀ (s : Shared) (H : Hp) (C : Addr) (cl : List (Str × Addr)) (fp : List Addr), PTs (X.blk s H scope (compEnvC scope cl C X.env) fp) ifs tt)
    (hk : ∀ (s : Shared) (H : Hp) (C : Addr) (cl : List (Str × Addr))
          (fp : List Addr), PE (X.blk s H scope (compEnvC scope cl C X.env) fp) kx tk)
    (he : ∀ (s : Shared) (H : Hp) (C : Addr) (cl : List (Str × Addr)) (fp : List Addr), PE (X.blk s H scope (compEnvC scope cl C X.env) fp) vx tv)
          (hs : ∀ x, foldedSetIterable iter X.env x = pure x)
    (h : tDcG O wi g tt tk tv (own.map (·.2)) σ H Q)
    (hRR : ∀ D C s' m H', Inv X pins σ H' s' → Q (.ref D) H' → s'.heap.Ns C m → FpOk X pins H' C → compPost (model X.prog X.w) X.A X.xe use Qf (.ref D) C (.ok .next) s')
          :
    wpAny (model X.prog X.w) X.A
          (comprehension (.DictComp kx vx [⟨tg, iter, ifs, 0⟩] scope pos) scope X.env pos' newDict false (eval iter X.env) use) Qf X.xe s := by
  have hfree : ∀ y ∈ scope.names, y.2 = .free → ∃ c,
        X.env.cells.lookup y.1 = some c := fun y hy e => by
    rcases ok.free
          y hy e with k | k
    · exact I.ok.has _ (.inl k)
    · exact I.ok.has _ (.inr k)
  refine wpAny_comprehension_free (use := use)
        rfl hs (closure_ok hfree) ok.kind (fun y hy e => by rw [ok.uniq y hy, e])
    (thn (hi.run pins s σ H _ I h) fun xv
          s1 hx => thn hx fun itv s2 h2 => ?_)
  obtain
        ⟨it, fp, tn, J, H2, e, I2, T, st2, f2, q⟩ := h2
  subst e
  refine wpAny_newObj_type
        (newEnv_comp ?_)
  generalize hD :
        s2.heap.objs.size = D
  have hDn : H2 D = none :=
        I2.hok.fresh (Nat.le_of_eq hD)
  obtain ⟨W, ⟨m0, w0⟩, turn⟩
        := q D hDn
  -- the new list
  generalize hs3 :
        ({ s2 with heap := s2.heap.push { cls := .type "dict", data := .dict #[] } } : Shared) = s3
  have I3 : Inv X pins σ (upd H2 D (O.ob D [])) s3 := by
    rw [← hs3]
    refine I2.laid (t' := s2.toks)
          (fun b o e => Heap.get?_push_of_some _ e) (Nat.le_of_eq hD) ?_
    rw [← hD]
    exact O.new s2.heap I2.big _
  have h3 : s3.heap = s2.heap.push
        { cls := .type "dict", data := .dict #[] } := by rw [← hs3]
  have sz : ∀ b ∈ fp, b <
        s2.heap.objs.size := fun b hb => by
    obtain ⟨o, e, _⟩
          := T.obj _ _ st2 b hb
    exact Heap.lt_size e
  have f3 : ∀ b ∈ fp, FpOk X pins (upd H2 D (O.ob D [])) b ∧ b < s3.heap.objs.size := fun b hb => by
    have hlt := sz b hb
    refine
          ⟨⟨?_, (f2 b hb).2⟩, by rw [h3, Heap.size_push]; exact Nat.lt_succ_of_lt hlt⟩
    rw [upd_ne
          (by rw [← hD]; exact Nat.ne_of_lt hlt)]
    exact (f2 b hb).1
  have st3 : tn 0 s3.heap :=
        T.keep _ _ _ st2 fun b _ o e => by rw [h3]; exact Heap.get?_push_of_some _ e
  have I4 :=
        block_start I3 ok hN f3
  have pg := hg s3 (upd H2 D (O.ob D [])) s3.heap.objs.size (cellsFrom (s3.heap.objs.size + 1) scope.names (cloFrom X.env.cells scope.names [])) fp
  have pt := ht s3 (upd H2 D (O.ob D [])) s3.heap.objs.size (cellsFrom (s3.heap.objs.size + 1) scope.names (cloFrom X.env.cells scope.names [])) fp
  have pk := hk s3 (upd H2 D (O.ob D [])) s3.heap.objs.size (cellsFrom (s3.heap.objs.size + 1) scope.names (cloFrom X.env.cells scope.names [])) fp
  have pe := he s3 (upd H2 D (O.ob D [])) s3.heap.objs.size (cellsFrom (s3.heap.objs.size + 1) scope.names (cloFrom X.env.cells scope.names [])) fp
  show codeAny _ _ (.compStart (.DictComp kx vx [⟨tg, iter, ifs, 0⟩] scope pos) 0 (.ref it) (.ref D) (compEnvC scope (cellsFrom (s3.heap.objs.size + 1) scope.names (cloFrom X.env.cells scope.names [])) s3.heap.objs.size X.env))
        (compPost (model X.prog X.w) X.A X.xe use Qf (.ref D) s3.heap.objs.size) { s3 with heap := pushCells (s3.heap.push { cls := .type "dict", data := .dict #[] }) scope.names }
  have nfp : ∀ b ∈ fp, (upd H2 D (O.ob D [])) b = none := fun b hb => (f3 b hb).1.1
  generalize hce : compEnvC scope (cellsFrom (s3.heap.objs.size + 1) scope.names (cloFrom X.env.cells scope.names []))
        s3.heap.objs.size X.env = ce at I4 pg pt pk pe ⊢
  have cL : ce.locals
        = s3.heap.objs.size := by subst hce; rfl
  generalize hH3 : upd H2 D (O.ob D []) = H3 at I3 I4 pg pt pk pe w0 nfp f3
  generalize hs4 :
        ({ s3 with heap := pushCells (s3.heap.push { cls := .type "dict", data := .dict #[] }) scope.names } : Shared) = s4 at I4 ⊢
  have st4 : tn 0 s4.heap :=
        T.keep _ _ _ st3 fun b _ o e => by rw [← hs4]; exact pushCells_keeps _ _ _ _ (Heap.get?_push_of_some _ e)
  have stat : ∀ {σ' : L2.St} {H' : Hp} {s' : Shared}, Inv (X.blk s3 H3 scope ce fp) [] σ' H' s' →
        (∀ b ∈ fp, H' b = none) → ∀ b ∈ fp, FpOk (X.blk s3 H3 scope ce fp) [] H' b := fun {σ' H' s'} I' hn b hb =>
    ⟨hn b hb, (I'.ok.exf b hb).1, I'.ok.exfs b hb, .inl hb, fun x c e => (I'.ok.exf b hb).2
          x c e, fun p hp => absurd (show p ∈ ([] : List (Addr × Obj)) ++ [] from hp) (by simp)⟩
  have loop : codeAny (model X.prog X.w) X.A (.compLoop (.DictComp kx vx [⟨tg, iter, ifs, 0⟩] scope pos) 0 (.ref it) (.ref D) ce)
        (compPost (model X.prog X.w) X.A X.xe use Qf (.ref D) s3.heap.objs.size) s4 := by
    refine compLoop_anyD (fun n s' => ∃ i H', Inv (X.blk s3 H3 scope ce fp) [] (wipe σ (own.map (·.2))) H' s' ∧ tn i s'.heap ∧ (∀ b ∈ fp, H' b = none) ∧ W i n H')
          ?_ m0 ⟨0, H3, I4, st4, nfp, w0⟩
    rintro n s5
          ⟨i, H5, I5, st5, n5, w5⟩
    rcases turn i n H5 w5 with
          ⟨stop, qq⟩ | ⟨go, Nx, hNx, step⟩
    · have td := T.done (X.blk s3 H3 scope ce fp) rfl rfl rfl
            hc i [] s5 _ H5 (fun _ _ => False) I5 (stat I5 n5) st5 stop
      refine thnF td
            fun r s6 ⟨hr, I6⟩ => ?_
      subst hr
      -- back in the def's context
      have I7 : Inv X pins σ H5 s6 := I3.call' (ch := fp) I6.os I6.base I6.hok I6.bare fun b
            hb => ⟨(f3 b hb).1.2.2.2.1, (f3 b hb).1.2.1, (f3 b hb).1.2.2.2.2.1, (f3 b hb).1.2.2.2.2.2⟩
      have nC : H5
            s3.heap.objs.size = none := by
        have z : H5
              ce.locals = none := I6.free
        rw [cL] at z
        exact z
      obtain ⟨m, hn, _⟩ := I6.loc
      have hn : s6.heap.Ns
            ce.locals m := hn
      rw [cL] at hn
      exact hRR D s3.heap.objs.size s6 m
            H5 I7 qq hn (I3.fpOk (Nat.le_refl _) nC)
    · have ti := T.item (X.blk s3 H3 scope ce fp) rfl rfl rfl
            hc i [] s5 _ H5 (fun _ _ => False) I5 (stat I5 n5) st5 go
      refine thnF ti fun r
            s6 ⟨u, hr, h6⟩ => ?_
      subst hr
      refine thnF h6 fun _ s7
            ⟨x, H7, I7, r7, y7, st7, n7⟩ => ?_
      have I7' := I7.pinned
            (stat I7 n7) (T.obj _ _ st7)
      refine thnF (pg.run _ s7 _ H7 x u _ I7' r7 (step x H7 y7))
            fun _ s8 ⟨σ8, H8, I8, hw8, q8⟩ => ?_
      refine thnF (pt.run _ s8 σ8 H8 _ I8 q8)
            fun b s9 ⟨H9, I9, q9⟩ => ?_
      -- the turn's end
      have fin : ∀ {s' : Shared} {H' : Hp}, Inv (X.blk s3 H3 scope ce fp) ([] ++ pinsAt fp s7.heap) σ8 H' s' → Nx H' → ∃ m, m < n ∧ ∃ i H',
            Inv (X.blk s3 H3 scope ce fp) [] (wipe σ (own.map (·.2))) H' s' ∧ tn i s'.heap ∧ (∀ b ∈ fp, H' b = none) ∧ W i m H' := fun {s' H'} I' nx => by
        obtain
              ⟨m', hm, w'⟩ := hNx H' nx
        have pin' : ∀ b ∈ fp, ∀ o, s7.heap.get? b = some o
              → s'.heap.get? b = some o ∧ H' b = none := fun b hb o e =>
          let z := I'.pin (b, o)
                (List.mem_append_right _ (List.mem_append_right _ (mem_pinsAt hb e)))
          ⟨z.1, z.2.1⟩
        have hl :
              (wipe σ (own.map (·.2))).length = σ8.length := by rw [← hw8, wipe_length]
        refine
              ⟨m', hm, i + 1, H', (I'.unpinned (pins := [])).weak hl (fun j v e => ?_), T.keep _ _ _ st7 fun b hb o e => (pin' b hb o e).1, fun b hb => ?_, w'⟩
        · rw [← hw8] at e
          exact (wipe_some e).1
        · obtain ⟨o, e, _⟩
                := T.obj _ _ st7 b hb
          exact (pin' b hb o e).2
      cases b with
      | false =>
        simp only
              [Bool.false_eq_true, if_false] at q9 ⊢
        exact fin I9 q9
      | true =>
        simp only [if_true] at q9 ⊢
        refine thnF (pk.run _ s9 σ8 H9 _ I9 q9)
              fun z s10 ⟨yk, H10, I10, r10, q10⟩ => ?_
        refine thnF (pe.run _ s10 σ8 H10 _ I10 q10) fun z2
              s11 ⟨yv, H11, I11, r11, kvs, k, ek, hD11, hz11, nx⟩ => ?_
        subst ek
        exact O.put (X := X.blk s3 H3 scope ce fp) rfl rfl I11 hD11 hz11 r10 r11 fun s12 I12 => fin I12 nx
  exact codeAny_compStart_dict
        loop (T.self X.A 0 _ _ _ st4 loop)
/-- as a value -/
theorem peG_dc {kx vx tg iter : Expr} {ifs : List Expr} {scope : Scope} {own : List (Str × Nat)} {pos : Pos} {wi : TI} {g : TG} {tt : TT} {tk tv : TE} (hc : X.calm = true) (hN : X.N.Nodup) (hi : PI X tg iter wi) (ok : BlkOk X.N X.env.scope scope own)
    (hg : ∀ (s : Shared) (H : Hp) (C : Addr) (cl : List (Str × Addr)) (fp : List Addr), PG (X.blk s H scope (compEnvC scope cl C X.env) fp) tg g)
          (ht : ∀ (s : Shared) (H : Hp) (C : Addr) (cl : List (Str × Addr)) (fp : List Addr), PTs (X.blk s H scope (compEnvC scope cl C X.env) fp) ifs tt)
    (hk : ∀ (s : Shared) (H : Hp) (C : Addr) (cl : List (Str × Addr))
          (fp : List Addr), PE (X.blk s H scope (compEnvC scope cl C X.env) fp) kx tk)
    (he : ∀ (s : Shared) (H : Hp) (C : Addr) (cl : List (Str × Addr)) (fp : List Addr), PE (X.blk s H scope (compEnvC scope cl C X.env) fp) vx tv)
          (hs : ∀ x, foldedSetIterable iter X.env x = pure x := by intro _; rfl) :
    PE X (.DictComp kx vx [⟨tg, iter, ifs, 0⟩] scope pos) (tDcG O wi g tt tk tv (own.map (·.2))) := by
  refine
        ⟨fun pins s σ H Q I h => ?_⟩
  rw [arm_eval_DictComp]
  refine dcG_core O hc hN I hi ok hg ht hk he hs h fun D C s' m H' I' q hn f => ⟨m, hn, fun h'' sb => ?_⟩
  obtain
        ⟨f0, f1, f2, f3, f4, f5⟩ := f
  exact
        ⟨.ref D, H', I'.turned (t' := s'.toks) (fun b o hb e => (sb.2 b hb).trans e) f0 f1 f3 f4 f5, rfl, q⟩
end
end Lw
set_option Elab.async false
set_option linter.all false
set_option maxRecDepth 100000
/-! Lw1: how values lie in the heap; what is kept. -/
namespace Lw
open PySem PySem.Spec L2 PyProof.Rows

/-- where the defs and the classes of the text stand; the fields that an exception's class tells -/
structure At where
  fa : Nat → Addr
  ca : Nat → Addr
  xf : Nat → List Str
  tb : List (Addr × Str)
  pg : Program
  wd : World

/-- where the places of the store stand; what is being built and not yet seen -/
structure Pl where
  pl : List Addr
  hd : List Addr
instance : Membership Addr Pl := ⟨fun ρ a => a ∈ ρ.pl ∨ a ∈ ρ.hd⟩
def Pl.add (ρ : Pl) (m : List Addr) : Pl := ⟨ρ.pl ++ m, ρ.hd⟩
theorem Pl.at_in {ρ : Pl} {l : Nat} {a : Addr} (h : ρ.pl[l]? = some a) : a ∈ ρ := .inl (List.mem_of_getElem? h)
theorem Pl.add_nil (ρ : Pl) : ρ.add [] = ρ := by cases ρ; simp [Pl.add]
theorem Pl.add_add (ρ : Pl) (m n : List Addr) : (ρ.add m).add n = ρ.add (m ++ n) := by simp [Pl.add]
theorem Pl.mem_add {ρ : Pl} {m : List Addr} {a : Addr} : a ∈ ρ.add m ↔ a ∈ ρ ∨ a ∈ m := by
  show (a ∈ ρ.pl ++ m ∨ a ∈ ρ.hd) ↔ ((a ∈ ρ.pl ∨ a ∈ ρ.hd) ∨ a ∈ m)
  rw [List.mem_append, or_assoc, or_assoc, or_comm (a := a ∈ m)]
def KeyIs : T → Key → Prop
  | .int i, q => q = .inl i
  | .str s, q => q = .inr s
  | _, _ => False
/-- a key of a dict of None and texts -/
def LeafIs : T → Leaf → Prop
  | .non, q => q = .none
  | .str s, q => q = .text s
  | _, _ => False
/-- a list that nobody turns: tracked, and no place of the store -/
def FzL (ρ : Pl) (H : Hp) (a : Addr) (vs : List V) : Prop := H a = some (.lst vs) ∧ a ∉ ρ
/-- a tuple that bears no dict of its own: locked, or an object of the module -/
def PlT (K : PySem.W.Frag) (H : Hp) (a : Addr) (vs : List V) : Prop :=
  (∃ o, H a = some (.frz o (.tup vs)) ∧ o.dict = none) ∨ ∃ (o : Obj) (its : Array Value) (n : Nat), K.lookup a = some o ∧ o.cls = .type "tuple" ∧ o.dict = none ∧ o.data = .seq its n ∧ its.size ≤ sizeLine ∧ Vals vs its.toList
theorem PlT.seq {K : PySem.W.Frag} {H : Hp} {a : Addr} {vs : List V} (h : PlT K H a vs) : SqT K H a vs := by
  rcases h with ⟨o, h, _⟩ | ⟨o, its, n, h1, h2, _, h3⟩
  · exact .inl (.inr ⟨o, h⟩)
  · exact .inr ⟨o, its, n, h1, h2, h3⟩
/-- the script: locked, or an object of the module -/
def FrS (K : PySem.W.Frag) (H : Hp) (a : Addr) (vs : List V) : Prop :=
  (∃ o, H a = some (.frz o (.lst vs))) ∨ ∃ (o : Obj) (its : Array Value) (n : Nat), K.lookup a = some o ∧ o.cls = .type "list" ∧ o.dict = none ∧ o.data = .seq its n ∧ its.size ≤ sizeLine ∧ Vals vs its.toList
theorem FrS.seq {K : PySem.W.Frag} {H : Hp} {a : Addr} {vs : List V} (h : FrS K H a vs) : SqL K H a vs := by
  rcases h with h | h
  · exact .inl (.inr h)
  · exact .inr h
theorem FzL.seq {K : PySem.W.Frag} {ρ : Pl} {H : Hp} {a : Addr} {vs : List V} (h : FzL ρ H a vs) : SqL K H a vs := .of h.1

/-- a list, a dict -/
def Tr (H : Hp) (a : Addr) : Prop := (∃ vs, H a = some (.lst vs)) ∨ (∃ ks, H a = some (.dK ks)) ∨ (∃ o ks, H a = some (.frz o (.dK ks))) ∨ ∃ P w ks, H a = some (LfO P w a ks)
theorem Tr.ne {H : Hp} {a D : Addr} {o : HO} (h : Tr H a) (q : a ≠ D) : Tr (upd H D o) a := by
  unfold Tr
  rw [upd_ne q]
  exact h
theorem Tr.new {H : Hp} {a D : Addr} {o : HO} (h : Tr H a) (hD : H D = none) : Tr (upd H D o) a := h.ne fun z => by
  subst z
  rcases h with ⟨_, e⟩ | ⟨_, e⟩ | ⟨_, _, e⟩ | ⟨_, _, _, e⟩ <;> rw [hD] at e <;> cases e
theorem Tr.notbl {H : Hp} {a : Addr} (h : Tr H a) : ∀ ps, H a ≠ some (.tbl ps) := fun ps z => by
  rcases h with ⟨_, e⟩ | ⟨_, e⟩ | ⟨_, _, e⟩ | ⟨_, _, _, e⟩ <;> rw [z] at e <;> cases e
theorem codeO_tbl {c : Addr} {q : Str} {ps : Array Value} : LamX.CodeO c q ≠ .tbl ps := LamX.codeO_ne ps
/-- no table stands at what is written, no code object that is known: it is a list, a dict, or new -/
theorem Tabs_upd {T : List (Addr × Str)} {H : Hp} (t : LamX.Tabs T H) {D : Addr} {o : HO} (h1 : ∀ ps, H D ≠ some (.tbl ps)) (h2 : ∀ c q, H D ≠ some (LamX.CodeO c q)) : LamX.Tabs T (upd H D o) := fun p hp => by
  obtain ⟨ps, e1, e2, e3⟩ := t p hp
  have n1 : p.1 ≠ D := fun z => h1 ps (z ▸ e1)
  refine ⟨ps, by rw [upd_ne n1]; exact e1, e2, fun pos cv hc => ?_⟩
  obtain ⟨c, ec, hcc⟩ := e3 pos cv hc
  have n2 : c ≠ D := fun z => h2 c p.2 (by rw [← z]; exact hcc)
  exact ⟨c, ec, by rw [upd_ne n2]; exact hcc⟩
theorem Tr.nocode {H : Hp} {a : Addr} (h : Tr H a) : ∀ c q, H a ≠ some (LamX.CodeO c q) := fun c q z => by
  rcases h with ⟨_, e⟩ | ⟨_, e⟩ | ⟨_, _, e⟩ | ⟨_, _, _, e⟩ <;> rw [z] at e <;> first | exact lf_nocode (Option.some.inj e).symm | (unfold LamX.CodeO at e; cases e)
theorem Tabs_tr {T : List (Addr × Str)} {H : Hp} (t : LamX.Tabs T H) {D : Addr} {o : HO} (h : Tr H D) : LamX.Tabs T (upd H D o) := Tabs_upd t h.notbl h.nocode
theorem Tabs_new {T : List (Addr × Str)} {H : Hp} (t : LamX.Tabs T H) {D : Addr} {o : HO} (h : H D = none) : LamX.Tabs T (upd H D o) := Tabs_upd t (fun ps z => by rw [h] at z; cases z) (fun c q z => by rw [h] at z; cases z)
section
variable (K : PySem.W.Frag) (at_ : At) (ρ : Pl) (H : Hp)
mutual
def Rep : T → V → Prop
  | .non, v => v = .non
  | .bl b, v => v = .bl b
  | .int i, v => v = .int i
  | .str s, v => v = .str s
  | .tup ts, v => ∃ a vs, v = .ref a ∧ PlT K H a vs ∧ RepL ts vs
  | .lst ts, v => ∃ a vs, v = .ref a ∧ FzL ρ H a vs ∧ RepL ts vs
  | .dct kvs, v => ∃ a ks, v = .ref a ∧ (Rd H a (.dK ks) ∧ a ∉ ρ) ∧ RepP kvs ks
  | .loc l, v => ∃ a, v = .ref a ∧ ρ.pl[l]? = some a
  | .fn f, v => v = .ref (at_.fa f)
  | .act, _ => False
  | .scr ns, v => ∃ a, v = .ref a ∧ FrS K H a (ns.map .int)
def RepL : List T → List V → Prop
  | [], vs => vs = []
  | t :: ts, vs => ∃ v r, vs = v :: r ∧ Rep t v ∧ RepL ts r
def RepP : List (T × T) → List (Key × V) → Prop
  | [], ks => ks = []
  | (k, t) :: r, ks => ∃ q v s, ks = (q, v) :: s ∧ KeyIs k q ∧ Rep t v ∧ RepP r s
end
def RepF : List (T × T) → List (Leaf × V) → Prop
  | [], ks => ks = []
  | (k, t) :: r, ks => ∃ q v s, ks = (q, v) :: s ∧ LeafIs k q ∧ Rep K at_ ρ H t v ∧ RepF r s
def CellRep (a : Addr) : Cell → Prop
  | .lst ts => ∃ vs, H a = some (.lst vs) ∧ RepL K at_ ρ H ts vs
  | .dct kvs => ∃ ks, H a = some (.dK ks) ∧ RepP K at_ ρ H kvs ks
  | .lck kvs => ∃ o ks, H a = some (.frz o (.dK ks)) ∧ RepP K at_ ρ H kvs ks
  | .ldc kvs => ∃ ks, H a = some (LfO at_.pg at_.wd a ks) ∧ RepF K at_ ρ H kvs ks
structure StRep (st : Store) : Prop where
  len : ρ.pl.length = st.length
  nd : ρ.pl.Nodup
  dj : ∀ a ∈ ρ.hd, a ∉ ρ.pl
  hid : ∀ a ∈ ρ.hd, Tr H a
  tab : LamX.Tabs at_.tb H
  cell : ∀ (l : Nat) (a : Addr) (c : Cell), ρ.pl[l]? = some a → st[l]? = some c → CellRep K at_ ρ H a c
structure EnvRep (σ : L2.St) (env : Env) : Prop where
  len : env.length = σ.length
  val : ∀ (i : Nat) (t : T), env[i]? = some (some t) → ∃ v, σ[i]? = some (some v) ∧ Rep K at_ ρ H t v
/-- an exception: its class, its own dict -/
def RepX (x : Exc) (cls : Value) (d : Option Addr) : Prop :=
  cls = .ref (at_.ca x.cls) ∧ (x.fs = [] ∨ ∃ dd fs vs, d = some dd ∧ H dd = some (.xd fs) ∧ RepL K at_ ρ H x.fs vs ∧
    ∀ (i : Nat) (n : Str), (at_.xf x.cls)[i]? = some n → ∃ v, vs[i]? = some v ∧ fs.lookup n = some v)
end
/-- nothing is known at b (but perhaps a table of code objects) -/
def Nox (H : Hp) (b : Addr) : Prop := ∀ o, H b = some o → ∃ ps, o = .tbl ps
theorem Nox.none {H : Hp} {b : Addr} (h : H b = none) : Nox H b := fun o e => by rw [h] at e; cases e
theorem Nox.no {H : Hp} {b : Addr} {o : HO} (n : Nox H b) (e : H b = some o) (nt : ∀ ps, o ≠ .tbl ps) : False := by
  obtain ⟨ps, q⟩ := n o e
  exact nt ps q
/-- the store may grow, the places may turn; all else stays (but the tables) -/
structure Mv (ρ : Pl) (H : Hp) (ρ' : Pl) (H' : Hp) : Prop where
  grow : ∃ m, ρ' = ρ.add m ∧ ∀ b ∈ m, Nox H b ∧ b ∉ ρ
  exn : ∀ b o, H b = some o → b ∉ ρ.pl → (∀ ps, o ≠ .tbl ps) → H' b = some o
theorem Mv.ext {ρ ρ' : Pl} {H H' : Hp} (m : Mv ρ H ρ' H') (b : Addr) (o : HO) (h : H b = some o) (hn : b ∉ ρ.pl) (nt : ∀ ps, o ≠ .tbl ps := by intro _ z; cases z) : H' b = some o := m.exn b o h hn nt
theorem Mv.of {ρ ρ' : Pl} {H H' : Hp} (g : ∃ m, ρ' = ρ.add m ∧ ∀ b ∈ m, H b = none ∧ b ∉ ρ) (e : ∀ b o, H b = some o → b ∉ ρ.pl → H' b = some o) : Mv ρ H ρ' H' :=
  ⟨by obtain ⟨m, e, h⟩ := g; exact ⟨m, e, fun b hb => ⟨.none (h b hb).1, (h b hb).2⟩⟩, fun b o h n _ => e b o h n⟩

section
variable {K : PySem.W.Frag} {at_ : At} {ρ ρ1 ρ2 : Pl} {H H1 H2 : Hp} {st : Store}
theorem Mv.refl : Mv ρ H ρ H := .of ⟨[], ρ.add_nil.symm, by simp⟩ fun _ _ h _ => h
theorem Mv.trans (a : Mv ρ H ρ1 H1) (b : Mv ρ1 H1 ρ2 H2) : Mv ρ H ρ2 H2 := by
  obtain ⟨m1, rfl, n1⟩ := a.grow
  obtain ⟨m2, rfl, n2⟩ := b.grow
  refine ⟨⟨m1 ++ m2, Pl.add_add .., fun c hc => ?_⟩, fun c o h hn nt => ?_⟩
  · rcases List.mem_append.mp hc with q | q
    · exact n1 c q
    · obtain ⟨e, f⟩ := n2 c q
      have f1 : c ∉ ρ := fun z => f (Pl.mem_add.mpr (.inl z))
      refine ⟨fun o z => ?_, f1⟩
      by_cases nt : ∀ ps, o ≠ .tbl ps
      · exact (e.no (a.exn c o z (fun q => f1 (.inl q)) nt) nt).elim
      · cases o <;> first | exact ⟨_, rfl⟩ | exact absurd (by intro _ z; cases z) nt
  · refine b.exn c o (a.exn c o h hn nt) (fun z => ?_) nt
    rcases List.mem_append.mp z with q | q
    · exact hn q
    · exact (n1 c q).1.no h nt
theorem Mv.notMem (a : Mv ρ H ρ1 H1) {b : Addr} {o : HO} (h : H b = some o) (hn : b ∉ ρ) (nt : ∀ ps, o ≠ .tbl ps := by intro _ z; cases z) : b ∉ ρ1 := by
  obtain ⟨m1, rfl, n1⟩ := a.grow
  intro z
  rcases Pl.mem_add.mp z with q | q
  · exact hn q
  · exact (n1 b q).1.no h nt
theorem Mv.at (a : Mv ρ H ρ1 H1) {l : Nat} {b : Addr} (h : ρ.pl[l]? = some b) : ρ1.pl[l]? = some b := by
  obtain ⟨m1, rfl, _⟩ := a.grow
  obtain ⟨hl, e⟩ :=
        List.getElem?_eq_some_iff.mp h
  show (ρ.pl ++ m1)[l]? = _
  rw [List.getElem?_append_left hl, h]
/-- no tuple, no frozen list stands at a place -/
def Sep (ρ : Pl) (H : Hp) : Prop := ∀ a ∈ ρ, Tr H a
theorem StRep.sep (s : StRep K at_ ρ H st) : Sep ρ H := fun a ha => by
  rcases ha with ha | ha
  rotate_left
  · exact s.hid a ha
  obtain ⟨l, hl⟩ := List.mem_iff_getElem?.mp ha
  have hlt : l < st.length := by rw [← s.len]; exact (List.getElem?_eq_some_iff.mp hl).1
  have q := s.cell l a st[l] hl (List.getElem?_eq_getElem hlt)
  cases e : st[l] with
  | lst ts => rw [e] at q; obtain ⟨vs, h, _⟩ := q; exact .inl ⟨vs, h⟩
  | dct ts => rw [e] at q; obtain ⟨vs, h, _⟩ := q; exact .inr (.inl ⟨vs, h⟩)
  | lck ts => rw [e] at q; obtain ⟨o, vs, h, _⟩ := q; exact .inr (.inr (.inl ⟨o, vs, h⟩))
  | ldc fs => rw [e] at q; obtain ⟨vs, h, _⟩ := q; exact .inr (.inr (.inr ⟨_, _, vs, h⟩))
theorem Sep.rdTup (s : Sep ρ H) {a : Addr} {vs : List V} (h : Rd H a (.tup vs)) : a ∉ ρ := fun z => by
  rcases s a z with ⟨_, e⟩ | ⟨_, e⟩ | ⟨_, _, e⟩ | ⟨_, _, _, e⟩ <;> rcases h with h | ⟨o, h⟩ <;> rw [h] at e <;> cases e
/-- what a reading of values needs -/
structure Mw (ρ : Pl) (H : Hp) (ρ1 : Pl) (H1 : Hp) : Prop where
  pat : ∀ {l : Nat} {b : Addr}, ρ.pl[l]? = some b → ρ1.pl[l]? = some b
  ext : ∀ b o, H b = some o → b ∉ ρ → (∀ ps, o ≠ .tbl ps) → H1 b = some o
  notMem : ∀ {b : Addr} {o : HO}, H b = some o → b ∉ ρ → (∀ ps, o ≠ .tbl ps) → b ∉ ρ1
theorem Mv.w (m : Mv ρ H ρ1 H1) : Mw ρ H ρ1 H1 := ⟨m.at, fun b o h hn nt => m.ext b o h (fun z => hn (.inl z)) nt, fun h hn nt => m.notMem h hn nt⟩
theorem Rd.mw {a : Addr} {u : HO} (h : Rd H a u) (hn : a ∉ ρ) (m : Mw ρ H ρ1 H1) (nt : ∀ ps, u ≠ .tbl ps := by intro _ z; cases z) : Rd H1 a u ∧ a ∉ ρ1 := by
  rcases h with h | ⟨o, h⟩
  · exact ⟨.inl (m.ext _ _ h hn nt), m.notMem h hn nt⟩
  · exact ⟨.inr ⟨o, m.ext _ _ h hn (by intro _ z; cases z)⟩, m.notMem h hn (by intro _ z; cases z)⟩
theorem SqT.mw (s : Sep ρ H) (m : Mw ρ H ρ1 H1) {a : Addr} {vs : List V} (h : SqT K H a vs) : SqT K H1 a vs := by
  rcases h with h | h
  · exact .inl (Rd.mw h (s.rdTup h) m).1
  · exact .inr h
theorem FzL.mw (m : Mw ρ H ρ1 H1) {a : Addr} {vs : List V} (h : FzL ρ H a vs) : FzL ρ1 H1 a vs := ⟨m.ext _ _ h.1 h.2 (by intro _ z; cases z), m.notMem h.1 h.2 (by intro _ z; cases z)⟩
theorem PlT.mw (s : Sep ρ H) (m : Mw ρ H ρ1 H1) {a : Addr} {vs : List V} (h : PlT K H a vs) : PlT K H1 a vs := by
  rcases h with ⟨o, h, hd⟩ | h
  · refine .inl ⟨o, m.ext _ _ h (fun z => ?_) (by intro _ z; cases z), hd⟩
    rcases s a z with ⟨_, e⟩ | ⟨_, e⟩ | ⟨_, _, e⟩ | ⟨_, _, _, e⟩ <;> rw [h] at e <;> cases e
  · exact .inr h
theorem SqS.mw (s : Sep ρ H) (m : Mw ρ H ρ1 H1) {a : Addr} {vs : List V} (h : FrS K H a vs) : FrS K H1 a vs := by
  rcases h with ⟨o, h⟩ | h
  · refine .inl ⟨o, m.ext _ _ h (fun z => ?_) (by intro _ z; cases z)⟩
    rcases s a z with ⟨_, e⟩ | ⟨_, e⟩ | ⟨_, _, e⟩ | ⟨_, _, _, e⟩ <;> rw [h] at e <;> cases e
  · exact .inr h
mutual
theorem Rep.mw (s : Sep ρ H) (m : Mw ρ H ρ1 H1) : ∀ (t : T) (v : V), Rep K at_ ρ H t v → Rep K at_ ρ1 H1 t v
  | .non, _, h => h
  | .bl _, _, h => h
  | .int _, _, h => h
  | .str _, _, h => h
  | .tup ts, _, h => by
    obtain ⟨a, vs, e, h1, h2⟩ := h
    exact ⟨a, vs, e, PlT.mw s m h1, RepL.mw s m ts vs h2⟩
  | .lst ts, _, h => by
    obtain ⟨a, vs, e, h1, h2⟩ := h
    exact ⟨a, vs, e, FzL.mw m h1, RepL.mw s m ts vs h2⟩
  | .dct kvs, _, h => by
    obtain ⟨a, vs, e, h1, h2⟩ := h
    exact ⟨a, vs, e, Rd.mw h1.1 h1.2 m, RepP.mw s m kvs vs h2⟩
  | .loc l, _, h => by
    obtain ⟨a, e, h1⟩ := h
    exact ⟨a, e, m.pat h1⟩
  | .fn _, _, h => h
  | .act, _, h => h
  | .scr ns, _, h => by
    obtain ⟨a, e, h1⟩ := h
    exact ⟨a, e, SqS.mw s m h1⟩
theorem RepL.mw (s : Sep ρ H) (m : Mw ρ H ρ1 H1) : ∀ (ts : List T) (vs : List V), RepL K at_ ρ H ts vs → RepL K at_ ρ1 H1 ts vs
  | [], _, h => h
  | t :: ts, _, h => by
    obtain ⟨v, r, e, h1, h2⟩ := h
    exact ⟨v, r, e, Rep.mw s m t v h1, RepL.mw s m ts r h2⟩
theorem RepP.mw (s : Sep ρ H) (m : Mw ρ H ρ1 H1) : ∀ (ts : List (T × T)) (vs : List (Key × V)), RepP K at_ ρ H ts vs → RepP K at_ ρ1 H1 ts vs
  | [], _, h => h
  | (k, t) :: ts, _, h => by
    obtain ⟨q, v, r, e, h0, h1, h2⟩ := h
    exact ⟨q, v, r, e, h0, Rep.mw s m t v h1, RepP.mw s m ts r h2⟩
end
theorem RepF.mw (s : Sep ρ H) (m : Mw ρ H ρ1 H1) : ∀ (ts : List (T × T)) (vs : List (Leaf × V)), RepF K at_ ρ H ts vs → RepF K at_ ρ1 H1 ts vs
  | [], _, h => h
  | (k, t) :: ts, _, h => by
    obtain ⟨q, v, r, e, h0, h1, h2⟩ := h
    exact ⟨q, v, r, e, h0, Rep.mw s m t v h1, RepF.mw s m ts r h2⟩
theorem Rd.mv {a : Addr} {u : HO} (h : Rd H a u) (hn : a ∉ ρ) (m : Mv ρ H ρ1 H1) (nt : ∀ ps, u ≠ .tbl ps := by intro _ z; cases z) : Rd H1 a u ∧ a ∉ ρ1 := Rd.mw h hn m.w nt
theorem SqT.mv (s : Sep ρ H) (m : Mv ρ H ρ1 H1) {a : Addr} {vs : List V} (h : SqT K H a vs) : SqT K H1 a vs := SqT.mw s m.w h
theorem Rep.mv (s : Sep ρ H) (m : Mv ρ H ρ1 H1) (t : T) (v : V) (h : Rep K at_ ρ H t v) : Rep K at_ ρ1 H1 t v := Rep.mw s m.w t v h
theorem RepL.mv (s : Sep ρ H) (m : Mv ρ H ρ1 H1) (ts : List T) (vs : List V) (h : RepL K at_ ρ H ts vs) : RepL K at_ ρ1 H1 ts vs := RepL.mw s m.w ts vs h
theorem RepP.mv (s : Sep ρ H) (m : Mv ρ H ρ1 H1) (ts : List (T × T)) (vs : List (Key × V)) (h : RepP K at_ ρ H ts vs) : RepP K at_ ρ1 H1 ts vs := RepP.mw s m.w ts vs h
theorem EnvRep.mv (s : Sep ρ H) (m : Mv ρ H ρ1 H1) {σ : L2.St} {env : Env} (h : EnvRep K at_ ρ H σ env) : EnvRep K at_ ρ1 H1 σ env :=
  ⟨h.len, fun i t e => let ⟨v, a, b⟩ := h.val i t e; ⟨v, a, Rep.mv s m t v b⟩⟩
theorem RepL.length : ∀ {ts : List T} {vs : List V}, RepL K at_ ρ H ts vs → ts.length = vs.length
  | [], _, h => by cases h; rfl
  | t :: ts, _, h => by
    obtain ⟨v, r, rfl, _, h2⟩ := h
    simp [h2.length]
theorem RepL.get : ∀ {ts : List T} {vs : List V} {i : Nat} {v : V}, RepL K at_ ρ H ts vs → vs[i]? = some v → ∃ t, ts[i]? = some t ∧ Rep K at_ ρ H t v
  | [], _, i, v, h, e => by cases h; simp at e
  | t :: ts, _, i, v, h, e => by
    obtain ⟨w, r, rfl, h1, h2⟩ := h
    cases i with
    | zero => simp at e; subst e; exact ⟨t, rfl, h1⟩
    | succ i => obtain ⟨u, a, b⟩ := h2.get (i := i) (v := v) (by simpa using e); exact ⟨u, by simpa using a, b⟩
theorem RepL.getT : ∀ {ts : List T} {vs : List V} {i : Nat} {t : T}, RepL K at_ ρ H ts vs → ts[i]? = some t → ∃ v, vs[i]? = some v ∧ Rep K at_ ρ H t v
  | [], _, i, v, h, e => by simp at e
  | t :: ts, _, i, v, h, e => by
    obtain ⟨w, r, rfl, h1, h2⟩ := h
    cases i with
    | zero => simp at e; subst e; exact ⟨w, rfl, h1⟩
    | succ i => obtain ⟨u, a, b⟩ := h2.getT (i := i) (t := v) (by simpa using e); exact ⟨u, by simpa using a, b⟩
theorem RepL.append : ∀ {ts us : List T} {vs ws : List V}, RepL K at_ ρ H ts vs → RepL K at_ ρ H us ws → RepL K at_ ρ H (ts ++ us) (vs ++ ws)
  | [], _, _, _, h, k => by cases h; exact k
  | t :: ts, _, _, _, h, k => by
    obtain ⟨w, r, rfl, h1, h2⟩ := h
    exact ⟨w, r ++ _, rfl, h1, h2.append k⟩
theorem RepL.take : ∀ {ts : List T} {vs : List V} (n : Nat), RepL K at_ ρ H ts vs → RepL K at_ ρ H (ts.take n) (vs.take n)
  | _, _, 0, _ => by simp [RepL]
  | [], _, n + 1, h => by cases h; simp [RepL]
  | t :: ts, _, n + 1, h => by
    obtain ⟨w, r, rfl, h1, h2⟩ := h
    exact ⟨w, r.take n, by simp, h1, h2.take n⟩
theorem RepL.drop : ∀ {ts : List T} {vs : List V} (n : Nat), RepL K at_ ρ H ts vs → RepL K at_ ρ H (ts.drop n) (vs.drop n)
  | _, _, 0, h => by simpa using h
  | [], _, n + 1, h => by cases h; simp [RepL]
  | t :: ts, _, n + 1, h => by
    obtain ⟨w, r, rfl, h1, h2⟩ := h
    simpa using h2.drop n
theorem RepL.one {t : T} {vs : List V} (h : RepL K at_ ρ H [t] vs) : ∃ v, vs = [v] ∧ Rep K at_ ρ H t v := by
  obtain ⟨v, r, rfl, h1, h2⟩ := h
  cases h2
  exact ⟨v, rfl, h1⟩
theorem RepL.two {t u : T} {vs : List V} (h : RepL K at_ ρ H [t, u] vs) : ∃ v w, vs = [v, w] ∧ Rep K at_ ρ H t v ∧ Rep K at_ ρ H u w := by
  obtain ⟨v, r, rfl, h1, h2⟩ := h
  obtain ⟨w, rfl, h3⟩ := h2.one
  exact ⟨v, w, rfl, h1, h3⟩
theorem RepL.set : ∀ {ts : List T} {vs : List V} {t : T} {v : V} (i : Nat), RepL K at_ ρ H ts vs → Rep K at_ ρ H t v → RepL K at_ ρ H (ts.set i t) (vs.set i v)
  | [], _, _, _, _, h, _ => by cases h; simp [RepL]
  | u :: ts, _, t, v, 0, h, k => by
    obtain ⟨w, r, rfl, h1, h2⟩ := h
    exact ⟨v, r, rfl, k, h2⟩
  | u :: ts, _, t, v, i + 1, h, k => by
    obtain ⟨w, r, rfl, h1, h2⟩ := h
    exact ⟨w, r.set i v, rfl, h1, h2.set i k⟩

/-! ### the store grows, a place turns -/
theorem StRep.fresh (s : StRep K at_ ρ H st) {p : Addr} (hp : H p = none) : p ∉ ρ := fun z => by
  rcases s.sep p z with ⟨_, e⟩ | ⟨_, e⟩ | ⟨_, _, e⟩ | ⟨_, _, _, e⟩ <;> rw [hp] at e <;> cases e
/-- a new object that is no place of the store -/
theorem Mv.new (s : StRep K at_ ρ H st) {p : Addr} (hp : H p = none) (o : HO) : Mv ρ H ρ (upd H p o) :=
  .of ⟨[], ρ.add_nil.symm, by simp⟩ fun b u e _ => by rw [upd_ne (ne_of_none e hp)]; exact e
theorem CellRep.mw (s : Sep ρ H) (m : Mw ρ H ρ1 H1) {a : Addr} {c : Cell} (h : CellRep K at_ ρ H a c) (ha : ∀ o, H a = some o → H1 a = some o) : CellRep K at_ ρ1 H1 a c := by
  cases c with
  | lst ts => obtain ⟨vs, e, r⟩ := h; exact ⟨vs, ha _ e, RepL.mw s m _ _ r⟩
  | dct ts => obtain ⟨vs, e, r⟩ := h; exact ⟨vs, ha _ e, RepP.mw s m _ _ r⟩
  | lck ts => obtain ⟨o, vs, e, r⟩ := h; exact ⟨o, vs, ha _ e, RepP.mw s m _ _ r⟩
  | ldc ts => obtain ⟨vs, e, r⟩ := h; exact ⟨vs, ha _ e, RepF.mw s m _ _ r⟩
theorem CellRep.mv (s : Sep ρ H) (m : Mv ρ H ρ1 H1) {a : Addr} {c : Cell} (h : CellRep K at_ ρ H a c) (ha : ∀ o, H a = some o → H1 a = some o) : CellRep K at_ ρ1 H1 a c := h.mw s m.w ha
theorem EnvRep.mw (s : Sep ρ H) (m : Mw ρ H ρ1 H1) {σ : L2.St} {env : Env} (h : EnvRep K at_ ρ H σ env) : EnvRep K at_ ρ1 H1 σ env :=
  ⟨h.len, fun i t e => let ⟨v, a, b⟩ := h.val i t e; ⟨v, a, Rep.mw s m t v b⟩⟩
/-! ### what is being built -/
def Pl.hide (ρ : Pl) (D : Addr) : Pl := ⟨ρ.pl, D :: ρ.hd⟩
/-- a list, a dict -/
def Bld (D : Addr) (o : HO) : Prop := (∃ vs, o = .lst vs) ∨ (∃ ks, o = .dK ks) ∨ ∃ P w ks, o = LfO P w D ks
theorem Mw.hide (s : StRep K at_ ρ H st) {D : Addr} (hD : H D = none) (o : HO) : Mw ρ H (ρ.hide D) (upd H D o) :=
  ⟨fun h => h, fun b u e _ _ => by rw [upd_ne (ne_of_none e hD)]; exact e, fun {b u} e hn _ z => by
    rcases z with z | z
    · exact hn (.inl z)
    · rcases List.mem_cons.mp
            z with z | z
      · subst z; rw [hD] at e; cases e
      · exact hn (.inr z)⟩
theorem bld_tr {D : Addr} {H : Hp} {o : HO} (h : Bld D o) (e : H D = some o) : Tr H D := by
  rcases h with ⟨vs, rfl⟩ | ⟨vs, rfl⟩ | ⟨P, w, vs, rfl⟩
  · exact .inl ⟨vs, e⟩
  · exact .inr (.inl ⟨vs, e⟩)
  · exact .inr (.inr (.inr ⟨P, w, vs, e⟩))
theorem Bld.lst {D : Addr} {vs : List V} : Bld D (.lst vs) := .inl ⟨vs, rfl⟩
theorem Bld.dK {D : Addr} {ks : List (Key × V)} : Bld D (.dK ks) := .inr (.inl ⟨ks, rfl⟩)
theorem Bld.lf {D : Addr} {P : Program} {w : World} {ks : List (Leaf × V)} : Bld D (LfO P w D ks) := .inr (.inr ⟨P, w, ks, rfl⟩)
theorem StRep.hide (s : StRep K at_ ρ H st) {D : Addr} (hD : H D = none) {o : HO} (ho : Bld D o) : StRep K at_ (ρ.hide D) (upd H D o) st := by
  refine ⟨s.len, s.nd, fun a ha z => ?_, fun a ha => ?_, Tabs_new s.tab hD, fun l a c h1 h2 => (s.cell l a c h1 h2).mw s.sep (Mw.hide s hD o) fun u e => by rw [upd_ne (ne_of_none e hD)]; exact e⟩
  · rcases List.mem_cons.mp
          ha with rfl | ha
    · exact s.fresh hD (.inl z)
    · exact s.dj a ha z
  · rcases List.mem_cons.mp
          ha with rfl | ha
    · exact bld_tr ho upd_same
    · exact (s.hid a ha).new hD
theorem Mw.unhide {p h : List Addr} {D : Addr} : Mw ⟨p, D :: h⟩ H ⟨p, h⟩ H :=
  ⟨fun h => h, fun b u e _ _ => e, fun {b u} e hn _ z => hn (z.imp id fun z => List.mem_cons_of_mem _ z)⟩
theorem StRep.unhide {p h : List Addr} {D : Addr} (s : StRep K at_ ⟨p, D :: h⟩ H st) : StRep K at_ ⟨p, h⟩ H st :=
  ⟨s.len, s.nd, fun a ha => s.dj a (List.mem_cons_of_mem _ ha), fun a ha => s.hid a (List.mem_cons_of_mem _ ha), s.tab, fun l a c h1 h2 => (s.cell l a c h1 h2).mw s.sep Mw.unhide fun u e => e⟩
/-- what is built turns -/
theorem StRep.built (s : StRep K at_ ρ H st) {D : Addr} (hD : D ∈ ρ.hd) {o : HO} (ho : Bld D o) : StRep K at_ ρ (upd H D o) st := by
  refine ⟨s.len, s.nd, s.dj, fun a ha => ?_, Tabs_tr s.tab (s.hid D hD), fun l a c h1 h2 => (s.cell l a c h1 h2).mw s.sep ?_ fun u e => ?_⟩
  · by_cases q : a = D
    · subst q
      exact bld_tr ho upd_same
    · exact (s.hid a ha).ne q
  · refine ⟨fun h => h, fun b u e hn _ => ?_, fun {b u} e hn _ => hn⟩
    have q : b ≠ D := fun z => by subst z; exact hn (.inr hD)
    rw [upd_ne q]
    exact e
  · have q : a ≠ D := fun z => by subst z; exact s.dj a hD (List.mem_of_getElem? h1)
    rw [upd_ne q]
    exact e
/-- behind the building -/
theorem Mv.unhide {p q : List Addr} {D : Addr} {ρ0 : Pl} {H0 : Hp} (hD : H0 D = none) (hn : D ∉ ρ0) (m0 : Mv ρ0 H0 ⟨p, ρ0.hd⟩ H) (m : Mv ⟨p, D :: ρ0.hd⟩ H ρ1 H1) : ρ1.hd = D :: ρ0.hd ∧ Mv ρ0 H0 ⟨ρ1.pl, ρ0.hd⟩ H1 := by
  obtain ⟨n, rfl, hg⟩ := m.grow
  refine ⟨rfl, ?_⟩
  have m' : Mv ⟨p, ρ0.hd⟩ H ⟨p ++ n, ρ0.hd⟩ H1 := ⟨⟨n, rfl, fun b hb => ⟨(hg b hb).1, fun z => (hg b hb).2 (z.imp id fun z => List.mem_cons_of_mem _ z)⟩⟩, m.exn⟩
  exact m0.trans m'
/-- what is built is not seen from before -/
theorem Mv.built {D : Addr} {ρ0 : Pl} {H0 : Hp} (hD : H0 D = none) (m0 : Mv ρ0 H0 ρ H) (o : HO) : Mv ρ0 H0 ρ (upd H D o) :=
  ⟨m0.grow, fun b u e hb nt => by
    have q : b ≠ D := fun z => by subst z; rw [hD] at e; cases e
    rw [upd_ne q]
    exact m0.exn b u e hb nt⟩
theorem Mv.nob {D : Addr} {ρ0 : Pl} {H0 : Hp} {p q : List Addr} (hn : D ∉ ρ0) (hg : ∃ m, p = ρ0.pl ++ m ∧ D ∉ m) : D ∉ p := by
  obtain ⟨m, rfl, hm⟩ := hg
  intro z
  rcases List.mem_append.mp z with z | z
  · exact hn (.inl z)
  · exact hm z
/-- what was built becomes a place -/
theorem Mw.place {p h : List Addr} {D : Addr} : Mw ⟨p, D :: h⟩ H ⟨p ++ [D], h⟩ H :=
  ⟨fun {l b} (e : p[l]? = some b) => (show (p ++ [D])[l]? = some b by rw [List.getElem?_append_left (List.getElem?_eq_some_iff.mp e).1, e]), fun b u e _ _ => e, fun {b u} e hn _ z => by
    rcases z with z | z
    · rcases List.mem_append.mp z with z | z
      · exact hn (.inl z)
      · exact hn (.inr (by simpa using .inl (by simpa using z)))
    · exact hn (.inr (List.mem_cons_of_mem _ z))⟩
theorem StRep.place {p h : List Addr} {D : Addr} (s : StRep K at_ ⟨p, D :: h⟩ H st) (hD : D ∉ h) {c : Cell} (hc : CellRep K at_ ⟨p ++ [D], h⟩ H D c) : StRep K at_ ⟨p ++ [D], h⟩ H (st ++ [c]) := by
  refine ⟨by simp [s.len], List.nodup_append.mpr ⟨s.nd, by simp, fun a ha b hb => ?_⟩, fun a ha z => ?_, fun a ha => s.hid a (List.mem_cons_of_mem _ ha), s.tab, fun l a d h1 h2 => ?_⟩
  · have e : b = D := by simpa using hb
    subst e
    exact fun z => s.dj b List.mem_cons_self (z ▸ ha)
  · rcases List.mem_append.mp z with z | z
    · exact s.dj a (List.mem_cons_of_mem _ ha) z
    · have e : a = D := by simpa using z
      subst e
      exact hD ha
  · have h1 : (p ++ [D])[l]? = some a := h1
    by_cases hl : l < p.length
    · rw [List.getElem?_append_left hl] at h1
      rw [List.getElem?_append_left (by rw [← s.len]; exact hl)] at h2
      exact (s.cell l a d h1 h2).mw s.sep Mw.place fun u e => e
    · have e : l = p.length := by
        have := (List.getElem?_eq_some_iff.mp h1).1
        simp at this
        omega
      subst e
      rw [List.getElem?_append_right (Nat.le_refl _)] at h1
      rw [show p.length = st.length from s.len, List.getElem?_append_right (Nat.le_refl _)] at h2
      simp at h1 h2
      subst h1 h2
      exact hc
theorem StRep.new (s : StRep K at_ ρ H st) {p : Addr} (hp : H p = none) (o : HO) : StRep K at_ ρ (upd H p o) st :=
  ⟨s.len, s.nd, s.dj, fun a ha => (s.hid a ha).new hp, Tabs_new s.tab hp,
    fun l a c h1 h2 => (s.cell l a c h1 h2).mv s.sep (Mv.new s hp o) fun u e => by rw [upd_ne (ne_of_none e hp)]; exact e⟩
/-- a new place -/
theorem Mv.alloc (s : StRep K at_ ρ H st) {p : Addr} (hp : H p = none) (o : HO) : Mv ρ H (ρ.add [p]) (upd H p o) :=
  .of ⟨[p], rfl, fun b hb => by
    have e : b = p := by simpa using hb
    subst e
    exact ⟨hp, s.fresh hp⟩⟩ fun b u e _ => by rw [upd_ne (ne_of_none e hp)]; exact e
theorem StRep.alloc (s : StRep K at_ ρ H st) {p : Addr} (hp : H p = none) {o : HO} {c : Cell} (hc : CellRep K at_ (ρ.add [p]) (upd H p o) p c) : StRep K at_ (ρ.add [p]) (upd H p o) (st ++ [c]) := by
  refine ⟨by simp [Pl.add, s.len], List.nodup_append.mpr ⟨s.nd, by simp, fun a ha b hb => ?_⟩, fun a ha => ?_, fun a ha => (s.hid a ha).new hp, Tabs_new s.tab hp, fun l a d h1 h2 => ?_⟩
  · have e : b = p := by simpa using hb
    subst e
    exact fun z => s.fresh hp (.inl (z ▸ ha))
  · intro z
    rcases List.mem_append.mp z with z | z
    · exact s.dj a ha z
    · have e : a = p := by simpa using z
      subst e
      exact s.fresh hp (.inr ha)
  · have h1 : (ρ.pl ++ [p])[l]? = some a := h1
    by_cases hl : l < ρ.pl.length
    · rw [List.getElem?_append_left hl] at h1
      rw [List.getElem?_append_left (by rw [← s.len]; exact hl)] at h2
      exact (s.cell l a d h1 h2).mv s.sep (Mv.alloc s hp o) fun u e => by rw [upd_ne (ne_of_none e hp)]; exact e
    · have e : l = ρ.pl.length := by
        have := (List.getElem?_eq_some_iff.mp h1).1
        simp at this
        omega
      subst e
      rw [List.getElem?_append_right (Nat.le_refl _)] at h1
      rw [s.len, List.getElem?_append_right (Nat.le_refl _)] at h2
      simp at h1 h2
      subst h1 h2
      exact hc
/-- a place turns -/
theorem Mv.turn {a : Addr} (ha : a ∈ ρ.pl) (o : HO) : Mv ρ H ρ (upd H a o) :=
  .of ⟨[], ρ.add_nil.symm, by simp⟩ fun b u e hn => by
    have q : b ≠ a := fun z => by subst z; exact hn ha
    rw [upd_ne q]
    exact e
theorem StRep.turn (s : StRep K at_ ρ H st) {l : Nat} {a : Addr} (hl : ρ.pl[l]? = some a) {o : HO} {c : Cell} (hc : CellRep K at_ ρ (upd H a o) a c) : StRep K at_ ρ (upd H a o) (st.set l c) := by
  have ha : a ∈ ρ.pl := List.mem_of_getElem? hl
  refine ⟨by simp [s.len], s.nd, s.dj, fun b hb => ?_, Tabs_tr s.tab (s.sep a (.inl ha)), fun k b d h1 h2 => ?_⟩
  · have q : b ≠ a := fun z => s.dj a (z ▸ hb) (List.mem_of_getElem? hl)
    exact (s.hid b hb).ne q
  by_cases hk : l = k
  · subst hk
    rw [hl] at h1
    cases h1
    obtain ⟨hlt, _⟩ := List.getElem?_eq_some_iff.mp hl
    rw [List.getElem?_set_self (by rw [← s.len]; exact hlt)] at h2
    cases h2
    exact hc
  · rw [List.getElem?_set_ne hk] at h2
    have hne : b ≠ a := fun z => by
      subst z
      obtain ⟨x1, y1⟩ := List.getElem?_eq_some_iff.mp hl
      obtain ⟨x2, y2⟩ := List.getElem?_eq_some_iff.mp h1
      exact hk ((List.getElem_inj s.nd).mp (y1.trans y2.symm))
    exact (s.cell k b d h1 h2).mv s.sep (Mv.turn ha o) fun u e => by rw [upd_ne hne]; exact e
end

/-! ### tuples in the real heap -/
section
variable {X : Cx} {pins : List (Addr × Obj)}
      {σ : L2.St} {H : Hp} {s : Shared}
theorem Inv_plT (I : Inv X pins σ H s) {a : Addr} {vs : List V} (h : PlT X.K H a vs) : ∃ (its : List Value) (o : Obj) (n : Nat), Vals vs its ∧ s.heap.get? a = some o ∧ o.cls = .type "tuple" ∧ o.dict = none ∧ o.data = .seq its.toArray n ∧ vs.length ≤ sizeLine := by
  rcases h with ⟨o, h, hd⟩ | ⟨o, its, n, h1, h2, h3, h4, h5, h6⟩
  · obtain ⟨e, hz, its, r, o', e', hc, n, hdt⟩ := I.hok a _ h
    rw [e] at e'
    cases e'
    exact ⟨its, o, n, r, e, hc, hd, hdt, hz⟩
  · exact ⟨its.toList, o, n, h6, I.kIn _ _ h1, h2, h3, h4, by rw [h6.length]; simpa using h5⟩
/-- a new tuple is laid -/
theorem Inv_newT (I : Inv X pins σ H s) {a : Addr} {ob : Obj} {xs : List V} {its : List Value} {n : Nat} {h' : Heap} {t' : Nat} (k : ∀ b u, s.heap.get? b = some u → h'.get? b = some u) (hp : s.heap.objs.size ≤ a) (e : h'.get? a = some ob)
    (hc : ob.cls = .type "tuple") (hd : ob.data = .seq its.toArray n) (r : Vals xs its) (hz : xs.length ≤ sizeLine) : Inv X pins σ (upd H a (.frz ob (.tup xs))) { s with heap := h', toks := t' } :=
  I.laid k hp ⟨e, hz, its, r, ob, e, hc, n, hd⟩
end
end Lw
set_option Elab.async false
set_option linter.all false
set_option maxRecDepth 100000
/-! Lw2: readings by the evaluator. -/
namespace Lw
open PySem PySem.Spec L2 PyProof.Rows

section
variable (K : PySem.W.Frag) (at_ : At)
/-- what follows an outcome -/
def Out {α : Type} (ρ : Pl) (H : Hp) (r : Res α) (P : α → Pl → Hp → Store → Prop) (Z : Value → Option Addr → Hp → Prop) : Prop :=
  match r with
  | .ok a st => ∀ ρ' H', Mv ρ H ρ' H' → StRep K at_ ρ' H' st → P a ρ' H' st
  | .exc x st => ∀ ρ' H' cls d, Mv ρ H ρ' H' → StRep K at_ ρ' H' st → RepX K at_ ρ' H' x cls d → Z cls d H'
  | .no => False
/-- the reading of an expression; W: what is wanted of an exception -/
def tE (W : WX) (f : Env → Store → Res T) : TE := fun σ H Q => ∃ ρ env st, EnvRep K at_ ρ H σ env ∧ StRep K at_ ρ H st ∧
  Out K at_ ρ H (f env st) (fun t ρ' H' _ => ∀ v, Rep K at_ ρ' H' t v → Q v H') (fun cls d H' => W cls d σ H')
def tEs (W : WX) (f : Env → Store → Res (List T)) : TA := fun σ H Q => ∃ ρ env st, EnvRep K at_ ρ H σ env ∧ StRep K at_ ρ H st ∧
  Out K at_ ρ H (f env st) (fun ts ρ' H' _ => ∀ vs, RepL K at_ ρ' H' ts vs → Q vs H') (fun cls d H' => W cls d σ H')
def tT (W : WX) (f : Env → Store → Res T) : TT := fun σ H Q => ∃ ρ env st, EnvRep K at_ ρ H σ env ∧ StRep K at_ ρ H st ∧
  Out K at_ ρ H (f env st) (fun t _ H' _ => ∃ b, t = .bl b ∧ Q b H') (fun cls d H' => W cls d σ H')
/-- what follows a statement -/
def OutS (ρ : Pl) (H : Hp) (r : SRes) (D : Ends) (W : WX) : Prop :=
  match r with
  | .ok f env st => ∀ ρ' H' σ', Mv ρ H ρ' H' → StRep K at_ ρ' H' st → EnvRep K at_ ρ' H' σ' env → (match f with
    | .nx => D.nx σ' H'
    | .bk => D.bk σ' H'
    | .ct => D.ct σ' H'
    | .rt t => ∀ v, Rep K at_ ρ' H' t v → D.rt v H')
  | .exc x env st => ∀ ρ' H' σ' cls d, Mv ρ H ρ' H' → StRep K at_ ρ' H' st → EnvRep K at_ ρ' H' σ' env → RepX K at_ ρ' H' x cls d → W cls d σ' H'
  | .no => False
def tS (W : WX) (f : Env → Store → SRes) : TS := fun D σ H => ∃ ρ env st, EnvRep K at_ ρ H σ env ∧ StRep K at_ ρ H st ∧ OutS K at_ ρ H (f env st) D W
end

section
variable {K : PySem.W.Frag} {at_ : At} {α β : Type} {ρ ρ1 : Pl} {H H1 : Hp} {Z : Value → Option Addr → Hp → Prop}
theorem Out.mv {r : Res α} {P : α → Pl → Hp → Store → Prop} (m : Mv ρ H ρ1 H1) (h : Out K at_ ρ H r P Z) : Out K at_ ρ1 H1 r P Z := by
  cases r with
  | ok a st => exact fun ρ' H' k s => h ρ' H' (m.trans k) s
  | exc x st => exact fun ρ' H' cls d k s r => h ρ' H' cls d (m.trans k) s r
  | no => exact h
theorem Out.imp {r : Res α} {P P' : α → Pl → Hp → Store → Prop} (h : Out K at_ ρ H r P Z) (hP : ∀ a ρ' H' st, Mv ρ H ρ' H' → StRep K at_ ρ' H' st → P a ρ' H' st → P' a ρ' H' st) : Out K at_ ρ H r P' Z := by
  cases r with
  | ok a st => exact fun ρ' H' k s => hP a ρ' H' st k s (h ρ' H' k s)
  | exc x st => exact h
  | no => exact h
theorem Out.bind {r : Res α} {f : α → Store → Res β} {P : β → Pl → Hp → Store → Prop} (h : Out K at_ ρ H (r.bind f) P Z) :
    Out K at_ ρ H r (fun a ρ1 H1 st1 => Out K at_ ρ1 H1 (f a st1) P Z) Z := by
  cases r with
  | ok a st => exact fun ρ' H' m s => Out.mv m h
  | exc x st => exact h
  | no => exact h
theorem Out.ofSome {o : Option α} {st : Store} {P : α → Pl → Hp → Store → Prop} (h : Out K at_ ρ H (Res.of o st) P Z) (s : StRep K at_ ρ H st) : ∃ a, o = some a ∧ P a ρ H st := by
  cases o with
  | none => exact h.elim
  | some a => exact ⟨a, rfl, h ρ H Mv.refl s⟩
theorem Out.here {a : α} {st : Store} {P : α → Pl → Hp → Store → Prop} (h : Out K at_ ρ H (.ok a st) P Z) (s : StRep K at_ ρ H st) : P a ρ H st := h ρ H Mv.refl s
theorem Out.noexc {r : Res α} {P : α → Pl → Hp → Store → Prop} {Z' : Value → Option Addr → Hp → Prop} (h : Out K at_ ρ H r.noexc P Z) : Out K at_ ρ H r P Z' := by
  cases r with
  | ok a st => exact h
  | exc x st => exact h.elim
  | no => exact h
theorem OutS.of {r : Res α} {env : Env} {σ : L2.St} {f : α → Store → SRes} {D : Ends} {W : WX} (er : EnvRep K at_ ρ H σ env) (sp : Sep ρ H) (h : OutS K at_ ρ H (SRes.of r env f) D W) :
    Out K at_ ρ H r (fun a ρ1 H1 st1 => OutS K at_ ρ1 H1 (f a st1) D W) (fun cls d H' => W cls d σ H') := by
  cases r with
  | ok a st =>
    intro ρ' H' m s
    show OutS K at_ ρ' H' (f a st) D W
    have h : OutS K at_ ρ H (f a st) D W := h
    cases e : f a st with
    | ok fl env st => rw [e] at h; exact fun ρ'' H'' σ' k => h ρ'' H'' σ' (m.trans k)
    | exc x env st => rw [e] at h; exact fun ρ'' H'' σ' cls d k => h ρ'' H'' σ' cls d (m.trans k)
    | no => rw [e] at h; exact h
  | exc x st => exact fun ρ' H' cls d m s rx => h ρ' H' σ cls d m s (er.mv sp m) rx
  | no => exact h
theorem OutS.mv {r : SRes} {D : Ends} {W : WX} (m : Mv ρ H ρ1 H1) (h : OutS K at_ ρ H r D W) : OutS K at_ ρ1 H1 r D W := by
  cases r with
  | ok a env st => exact fun ρ' H' σ' k s => h ρ' H' σ' (m.trans k) s
  | exc x env st => exact fun ρ' H' σ' cls d k s r => h ρ' H' σ' cls d (m.trans k) s r
  | no => exact h
end

/-! ### weaker readings -/
section
variable {X : Cx}
theorem PE_imp {e : Expr} {t t' : TE} (h : PE X e t) (ht : ∀ σ H Q, t' σ H Q → t σ H Q) : PE X e t' := ⟨fun pins s σ H Q I hw => h.run pins s σ H Q I (ht σ H Q hw)⟩
theorem PT_imp {e : Expr} {t t' : TT} (h : PT X e t) (ht : ∀ σ H Q, t' σ H Q → t σ H Q) : PT X e t' := ⟨fun pins s σ H Q I hw => h.run pins s σ H Q I (ht σ H Q hw)⟩
theorem PA_imp {e : List Expr} {t t' : TA} (h : PA X e t) (ht : ∀ σ H Q, t' σ H Q → t σ H Q) : PA X e t' := ⟨fun pos pins s σ H Q I hw => h.run pos pins s σ H Q I (ht σ H Q hw)⟩
theorem PS_imp {e : Stmt} {t t' : TS} (h : PS X e t) (ht : ∀ D σ H, t' D σ H → t D σ H) : PS X e t' := ⟨fun pins s σ H D I hw => h.run pins s σ H D I (ht D σ H hw)⟩
theorem PSs_imp {e : List Stmt} {t t' : TS} (h : PSs X e t) (ht : ∀ D σ H, t' D σ H → t D σ H) : PSs X e t' := ⟨fun pins s σ H D I hw => h.run pins s σ H D I (ht D σ H hw)⟩
theorem PI_imp {tg it : Expr} {t t' : TI} (h : PI X tg it t) (ht : ∀ σ H Q, t' σ H Q → t σ H Q) : PI X tg it t' := ⟨fun pins s σ H Q I hw => h.run pins s σ H Q I (ht σ H Q hw)⟩
end

/-! ### the first part, then the rest -/
section
variable {K : PySem.W.Frag} {at_ : At} {W : WX}
/-- an expression's outcome, then the rest -/
theorem tE_then {β : Type} {f : Env → Store → Res T} {g : T → Env → Store → Res β} {σ : L2.St} {H : Hp} {ρ : Pl} {env : Env} {st : Store} {P : β → Pl → Hp → Store → Prop} {R : V → Hp → Prop}
    (er : EnvRep K at_ ρ H σ env) (sr : StRep K at_ ρ H st) (h : Out K at_ ρ H ((f env st).bind fun t st => g t env st) P (fun cls d H' => W cls d σ H'))
    (hR : ∀ t ρ1 H1 st1 v, EnvRep K at_ ρ1 H1 σ env → StRep K at_ ρ1 H1 st1 → Mv ρ H ρ1 H1 → Rep K at_ ρ1 H1 t v → Out K at_ ρ1 H1 (g t env st1) P (fun cls d H' => W cls d σ H') → R v H1) :
    tE K at_ W f σ H R :=
  ⟨ρ, env, st, er, sr, h.bind.imp fun t ρ1 H1 st1 m s1 o v r => hR t ρ1 H1 st1 v (er.mv sr.sep m) s1 m r o⟩
theorem tEs_then {β : Type} {f : Env → Store → Res (List T)} {g : List T → Env → Store → Res β} {σ : L2.St} {H : Hp} {ρ : Pl} {env : Env} {st : Store} {P : β → Pl → Hp → Store → Prop} {R : List V → Hp → Prop}
    (er : EnvRep K at_ ρ H σ env) (sr : StRep K at_ ρ H st) (h : Out K at_ ρ H ((f env st).bind fun t st => g t env st) P (fun cls d H' => W cls d σ H'))
    (hR : ∀ t ρ1 H1 st1 v, EnvRep K at_ ρ1 H1 σ env → StRep K at_ ρ1 H1 st1 → Mv ρ H ρ1 H1 → RepL K at_ ρ1 H1 t v → Out K at_ ρ1 H1 (g t env st1) P (fun cls d H' => W cls d σ H') → R v H1) :
    tEs K at_ W f σ H R :=
  ⟨ρ, env, st, er, sr, h.bind.imp fun t ρ1 H1 st1 m s1 o v r => hR t ρ1 H1 st1 v (er.mv sr.sep m) s1 m r o⟩
/-- one operand -/
theorem tE_one {f : Env → Store → Res T} {g : T → Store → Res T} {σ : L2.St} {H : Hp} {Q : VK} {R : V → Hp → Prop}
    (h : tE K at_ W (fun env st => (f env st).bind g) σ H Q)
    (hR : ∀ t ρ1 H1 st1 v, StRep K at_ ρ1 H1 st1 → Rep K at_ ρ1 H1 t v → Out K at_ ρ1 H1 (g t st1) (fun t ρ' H' _ => ∀ v, Rep K at_ ρ' H' t v → Q v H') (fun cls d H' => W cls d σ H') → R v H1) :
    tE K at_ W f σ H R := by
  obtain ⟨ρ, env, st, er, sr, o⟩ := h
  exact tE_then (g := fun t _ st => g t st) er sr o fun t ρ1 H1 st1 v _ s1 _ r o => hR t ρ1 H1 st1 v s1 r o
/-- two operands -/
theorem tE_two {f f' : Env → Store → Res T} {g : T → T → Store → Res T} {σ : L2.St} {H : Hp} {Q : VK} {R : V → V → Hp → Prop}
    (h : tE K at_ W (fun env st => (f env st).bind fun x st => (f' env st).bind fun y st => g x y st) σ H Q)
    (hR : ∀ t u ρ1 H1 st1 v w, StRep K at_ ρ1 H1 st1 → Rep K at_ ρ1 H1 t v → Rep K at_ ρ1 H1 u w → Out K at_ ρ1 H1 (g t u st1) (fun t ρ' H' _ => ∀ v, Rep K at_ ρ' H' t v → Q v H') (fun cls d H' => W cls d σ H') → R v w H1) :
    tE K at_ W f σ H fun v H1 => tE K at_ W f' σ H1 fun w H2 => R v w H2 := by
  obtain ⟨ρ, env, st, er, sr, o⟩ := h
  exact tE_then (g := fun x env st => (f' env st).bind fun y st => g x y st) er sr o fun t ρ1 H1 st1 v er1 s1 _ r o =>
    tE_then (g := fun y _ st => g t y st) er1 s1 o fun u ρ2 H2 st2 w _ s2 m2 r2 o => hR t u ρ2 H2 st2 v w s2 (Rep.mv s1.sep m2 t v r) r2 o
end
end Lw
set_option Elab.async false
set_option linter.all false
set_option maxRecDepth 100000
/-! Lw3: operators, by values. -/
namespace Lw
open PySem PySem.Spec L2 PyProof.Rows

section
variable {K : PySem.W.Frag} {at_ : At} {ρ : Pl} {H : Hp} {st : Store} {Z : Value → Option Addr → Hp → Prop} {Q : VK}
/-- what is wanted of a value -/
abbrev Got (K : PySem.W.Frag) (at_ : At) (Q : VK) : T → Pl → Hp → Store → Prop := fun t ρ' H' _ => ∀ v, Rep K at_ ρ' H' t v → Q v H'
theorem fin_val {t : T} {v : V} (o : Out K at_ ρ H (.ok t st) (Got K at_ Q) Z) (s : StRep K at_ ρ H st) (r : Rep K at_ ρ H t v) : Q v H := o ρ H Mv.refl s v r
theorem rep_newTup {ts : List T} {vs : List V} {p : Addr} {ob : Obj} (s : StRep K at_ ρ H st) (r : RepL K at_ ρ H ts vs) (hp : H p = none) (hd : ob.dict = none) : Rep K at_ ρ (upd H p (.frz ob (.tup vs))) (.tup ts) (.ref p) :=
  ⟨p, vs, rfl, .inl ⟨ob, upd_same, hd⟩, RepL.mv s.sep (Mv.new s hp _) _ _ r⟩
theorem fin_tup {ts : List T} {vs : List V} {p : Addr} {ob : Obj} (o : Out K at_ ρ H (.ok (.tup ts) st) (Got K at_ Q) Z) (s : StRep K at_ ρ H st) (r : RepL K at_ ρ H ts vs) (hp : H p = none) (hd : ob.dict = none) : Q (.ref p) (upd H p (.frz ob (.tup vs))) :=
  o ρ _ (Mv.new s hp _) (s.new hp _) _ (rep_newTup s r hp hd)
theorem fin_lst {fz : Bool} {ts : List T} {vs : List V} {p : Addr} (o : Out K at_ ρ H (mkL fz ts st) (Got K at_ Q) Z) (s : StRep K at_ ρ H st) (r : RepL K at_ ρ H ts vs) (hp : H p = none) : Q (.ref p) (upd H p (.lst vs)) := by
  cases fz with
  | true => exact o ρ _ (Mv.new s hp _) (s.new hp _) _ ⟨p, vs, rfl, ⟨upd_same, s.fresh hp⟩, RepL.mv s.sep (Mv.new s hp _) _ _ r⟩
  | false =>
    refine o (ρ.add [p]) _ (Mv.alloc s hp _) (s.alloc hp ⟨vs, upd_same, RepL.mv s.sep (Mv.alloc s hp _) _ _ r⟩) _ ⟨p, rfl, ?_⟩
    show (ρ.pl ++ [p])[st.length]? = some p
    rw [← s.len, List.getElem?_append_right (Nat.le_refl _), Nat.sub_self]
    rfl
theorem fin_dct {fz : Bool} {ts : List (T × T)} {vs : List (Key × V)} {p : Addr} (o : Out K at_ ρ H (mkD fz ts st) (Got K at_ Q) Z) (s : StRep K at_ ρ H st) (r : RepP K at_ ρ H ts vs) (hp : H p = none) : Q (.ref p) (upd H p (.dK vs)) := by
  cases fz with
  | true => exact o ρ _ (Mv.new s hp _) (s.new hp _) _ ⟨p, vs, rfl, ⟨.inl upd_same, s.fresh hp⟩, RepP.mv s.sep (Mv.new s hp _) _ _ r⟩
  | false =>
    refine o (ρ.add [p]) _ (Mv.alloc s hp _) (s.alloc hp ⟨vs, upd_same, RepP.mv s.sep (Mv.alloc s hp _) _ _ r⟩) _ ⟨p, rfl, ?_⟩
    show (ρ.pl ++ [p])[st.length]? = some p
    rw [← s.len, List.getElem?_append_right (Nat.le_refl _), Nat.sub_self]
    rfl
/-- a place that turns -/
theorem fin_turn {t : T} {v : V} {l : Nat} {a : Addr} {u : HO} {c : Cell} (o : Out K at_ ρ H (.ok t (st.set l c)) (Got K at_ Q) Z) (s : StRep K at_ ρ H st) (hl : ρ.pl[l]? = some a) (hc : CellRep K at_ ρ (upd H a u) a c) (r : Rep K at_ ρ (upd H a u) t v) : Q v (upd H a u) :=
  o ρ _ (Mv.turn (List.mem_of_getElem? hl) _) (s.turn hl hc) v r

/-! ### what stands at a value -/
theorem repL_ofInts : ∀ (ns : List Int), RepL K at_ ρ H (ns.map .int) (ns.map .int)
  | [] => rfl
  | n :: ns => ⟨_, _, rfl, rfl, repL_ofInts ns⟩
theorem rep_seq {x : T} {v : V} {ts : List T} (s : StRep K at_ ρ H st) (r : Rep K at_ ρ H x v) (h : seqOf st x = some ts) :
    ∃ a vs, v = .ref a ∧ (SqL K H a vs ∨ PlT K H a vs) ∧ RepL K at_ ρ H ts vs ∧ (∀ us, x = .tup us → PlT K H a vs) := by
  cases x with
  | lst us => cases h; obtain ⟨a, vs, e, h1, h2⟩ := r; exact ⟨a, vs, e, .inl h1.seq, h2, fun _ z => nomatch z⟩
  | tup us => cases h; obtain ⟨a, vs, e, h1, h2⟩ := r; exact ⟨a, vs, e, .inr h1, h2, fun _ _ => h1⟩
  | scr ns => cases h; obtain ⟨a, e, h1⟩ := r; exact ⟨a, _, e, .inl h1.seq, repL_ofInts ns, fun _ z => nomatch z⟩
  | loc l =>
    obtain ⟨a, rfl, hl⟩ := r
    simp only [seqOf] at h
    split at h
    · rename_i us e
      cases h
      obtain ⟨vs, h1, h2⟩ := s.cell l a _ hl e
      exact ⟨a, vs, rfl, .inl (.of h1), h2, fun _ z => nomatch z⟩
    · cases h
  | _ => cases h
theorem rep_lst {x : T} {v : V} {ts : List T} (s : StRep K at_ ρ H st) (r : Rep K at_ ρ H x v) (h : lstOf st x = some ts) :
    ∃ a vs, v = .ref a ∧ H a = some (.lst vs) ∧ RepL K at_ ρ H ts vs := by
  cases x with
  | lst us => cases h; obtain ⟨a, vs, e, h1, h2⟩ := r; exact ⟨a, vs, e, h1.1, h2⟩
  | loc l =>
    obtain ⟨a, rfl, hl⟩ := r
    simp only [lstOf] at h
    split at h
    · rename_i us e
      cases h
      obtain ⟨vs, h1, h2⟩ := s.cell l a _ hl e
      exact ⟨a, vs, rfl, h1, h2⟩
    · cases h
  | _ => cases h
theorem rep_dct {x : T} {v : V} {ts : List (T × T)} (s : StRep K at_ ρ H st) (r : Rep K at_ ρ H x v) (h : dctOf st x = some ts) :
    ∃ a ks, v = .ref a ∧ Rd H a (.dK ks) ∧ RepP K at_ ρ H ts ks := by
  cases x with
  | dct us => cases h; obtain ⟨a, vs, e, h1, h2⟩ := r; exact ⟨a, vs, e, h1.1, h2⟩
  | loc l =>
    obtain ⟨a, rfl, hl⟩ := r
    simp only [dctOf] at h
    split at h
    · rename_i us e
      cases h
      obtain ⟨vs, h1, h2⟩ := s.cell l a _ hl e
      exact ⟨a, vs, rfl, .inl h1, h2⟩
    · rename_i us e
      cases h
      obtain ⟨o, vs, h1, h2⟩ := s.cell l a _ hl e
      exact ⟨a, vs, rfl, .inr ⟨o, h1⟩, h2⟩
    · cases h
  | _ => cases h

/-! ### keys -/
theorem keyIs_of {k : T} (h : keyOk k = true) {v : V} (r : Rep K at_ ρ H k v) : ∃ q, KeyIs k q ∧ v = kV q := by
  cases k with
  | int i => exact ⟨.inl i, rfl, r⟩
  | str x => exact ⟨.inr x, rfl, r⟩
  | _ => simp [keyOk] at h
theorem KeyIs.ok {k : T} {q : Key} (h : KeyIs k q) : keyOk k = true := by
  cases k <;> first | rfl | exact h.elim
theorem KeyIs.rep {k : T} {q : Key} (h : KeyIs k q) : Rep K at_ ρ H k (kV q) := by
  cases k with
  | int i => cases h; rfl
  | str x => cases h; rfl
  | _ => exact h.elim
theorem KeyIs.inj {k l : T} {q r : Key} (h : KeyIs k q) (h' : KeyIs l r) : decide (k = l) = decide (q = r) := by
  cases k with
  | int i =>
    cases l with
    | int j => cases h; cases h'; by_cases e : i = j <;> simp [e]
    | str y => cases h; cases h'; simp
    | _ => exact h'.elim
  | str x =>
    cases l with
    | int j => cases h; cases h'; simp
    | str y => cases h; cases h'; by_cases e : x = y <;> simp [e]
    | _ => exact h'.elim
  | _ => exact h.elim
theorem repP_get : ∀ {kvs : List (T × T)} {ks : List (Key × V)} {k : T} {q : Key}, RepP K at_ ρ H kvs ks → KeyIs k q →
    match dget kvs k with
    | some t => ∃ v, valV ks q = some v ∧ Rep K at_ ρ H t v
    | none => valV ks q = none
  | [], _, k, q, h, _ => by cases h; rfl
  | (l, t) :: r, _, k, q, h, hk => by
    obtain ⟨q', v, s, rfl, h0, h1, h2⟩ := h
    have e := KeyIs.inj h0 hk
    have ih := repP_get h2 hk
    unfold dget valV
    rw [List.find?_cons, List.find?_cons]
    simp only [e]
    cases hd : decide (q' = q) with
    | true => exact ⟨v, rfl, h1⟩
    | false => exact ih
theorem repP_any : ∀ {kvs : List (T × T)} {ks : List (Key × V)} {k : T} {q : Key}, RepP K at_ ρ H kvs ks → KeyIs k q → (kvs.any fun p => decide (p.1 = k)) = ks.any fun p => decide (p.1 = q)
  | [], _, k, q, h, _ => by cases h; rfl
  | (l, t) :: r, _, k, q, h, hk => by
    obtain ⟨q', v, s, rfl, h0, h1, h2⟩ := h
    simp only [List.any_cons, KeyIs.inj h0 hk, repP_any h2 hk]
theorem repP_repl : ∀ {kvs : List (T × T)} {ks : List (Key × V)} {k t : T} {q : Key} {v : V}, RepP K at_ ρ H kvs ks → KeyIs k q → Rep K at_ ρ H t v →
    RepP K at_ ρ H (kvs.map fun p => if p.1 = k then (p.1, t) else p) (ks.map fun p => if p.1 = q then (p.1, v) else p)
  | [], _, _, _, _, _, h, _, _ => by cases h; rfl
  | (l, u) :: r, _, k, t, q, v, h, hk, hr => by
    obtain ⟨q', w, s, rfl, h0, h1, h2⟩ := h
    have e := KeyIs.inj h0 hk
    have ih := repP_repl h2 hk hr
    simp only [List.map_cons]
    by_cases hd : q' = q
    · have hl : l = k := of_decide_eq_true (by rw [e, decide_eq_true hd])
      rw [if_pos hd, if_pos hl]
      exact ⟨q', v, _, rfl, h0, hr, ih⟩
    · have hl : ¬ l = k := of_decide_eq_false (by rw [e, decide_eq_false hd])
      rw [if_neg hd, if_neg hl]
      exact ⟨q', w, _, rfl, h0, h1, ih⟩
theorem repP_snoc : ∀ {kvs more : List (T × T)} {ks ms : List (Key × V)}, RepP K at_ ρ H kvs ks → RepP K at_ ρ H more ms → RepP K at_ ρ H (kvs ++ more) (ks ++ ms)
  | [], _, _, _, h, h' => by cases h; exact h'
  | (l, u) :: r, _, _, _, h, h' => by
    obtain ⟨q', w, s, rfl, h0, h1, h2⟩ := h
    exact ⟨q', w, _, rfl, h0, h1, repP_snoc h2 h'⟩
theorem repP_put {kvs : List (T × T)} {ks : List (Key × V)} {k t : T} {q : Key} {v : V} (h : RepP K at_ ρ H kvs ks) (hk : KeyIs k q) (hr : Rep K at_ ρ H t v) : RepP K at_ ρ H (dput kvs k t) (putK ks q v) := by
  unfold dput putK
  rw [repP_any h hk]
  split
  · exact repP_repl h hk hr
  · exact repP_snoc h ⟨q, v, [], rfl, hk, hr, rfl⟩
theorem repP_drop : ∀ {kvs : List (T × T)} {ks : List (Key × V)} {k : T} {q : Key}, RepP K at_ ρ H kvs ks → KeyIs k q → RepP K at_ ρ H (ddrop kvs k) (dropK ks q)
  | [], _, _, _, h, _ => by cases h; rfl
  | (l, u) :: r, _, k, q, h, hk => by
    obtain ⟨q', w, s, rfl, h0, h1, h2⟩ := h
    have e := KeyIs.inj h0 hk
    have ih := repP_drop h2 hk
    unfold ddrop dropK at ih ⊢
    rw [List.filter_cons,
          List.filter_cons]
    by_cases hd : q' = q
    · have hl : l = k := of_decide_eq_true (by rw [e, decide_eq_true hd])
      simp only [ne_eq, hd, hl, not_true_eq_false, decide_false, Bool.false_eq_true, if_false]
      exact ih
    · have hl : ¬ l = k := of_decide_eq_false (by rw [e, decide_eq_false hd])
      simp only [ne_eq, hd, hl, not_false_eq_true, decide_true, if_true]
      exact ⟨q', w, _, rfl, h0, h1, ih⟩
theorem repP_merge : ∀ {more : List (T × T)} {ms : List (Key × V)} {kvs : List (T × T)} {ks : List (Key × V)}, RepP K at_ ρ H more ms → RepP K at_ ρ H kvs ks → RepP K at_ ρ H (dmerge kvs more) (mergeK ks ms)
  | [], _, _, _, h, h' => by cases h; exact h'
  | (l, u) :: r, _, kvs, ks, h, h' => by
    obtain ⟨q', w, s, rfl, h0, h1, h2⟩ := h
    show RepP K at_ ρ H (dmerge (dput kvs l u) r) (mergeK (putK ks q' w) s)
    exact repP_merge h2 (repP_put h' h0 h1)
theorem repP_length : ∀ {kvs : List (T × T)} {ks : List (Key × V)}, RepP K at_ ρ H kvs ks → kvs.length = ks.length
  | [], _, h => by cases h; rfl
  | (l, u) :: r, _, h => by
    obtain ⟨q', w, s, rfl, h0, h1, h2⟩ := h
    simp [repP_length h2]
theorem repP_keys : ∀ {kvs : List (T × T)} {ks : List (Key × V)}, RepP K at_ ρ H kvs ks → RepL K at_ ρ H (kvs.map (·.1)) (ks.map fun p => kV p.1)
  | [], _, h => by cases h; rfl
  | (l, u) :: r, _, h => by
    obtain ⟨q', w, s, rfl, h0, h1, h2⟩ := h
    exact ⟨_, _, rfl, h0.rep, repP_keys h2⟩

/-! ### plain lists -/
theorem repL_bools : ∀ {ts : List T} {bs : List Bool} {vs : List V}, boolsOf ts = some bs → RepL K at_ ρ H ts vs → vs = bs.map .bl
  | [], _, _, h, r => by cases h; cases r; rfl
  | t :: ts, bs, _, h, r => by
    obtain ⟨v, s, rfl, h1, h2⟩ := r
    cases t with
    | bl b =>
      obtain ⟨cs, hc, rfl⟩ := Option.map_eq_some_iff.mp h
      rw [repL_bools hc h2]
      cases h1
      rfl
    | _ => cases h
theorem repL_ints : ∀ {ts : List T} {bs : List Int} {vs : List V}, intsOf ts = some bs → RepL K at_ ρ H ts vs → vs = bs.map .int
  | [], _, _, h, r => by cases h; cases r; rfl
  | t :: ts, bs, _, h, r => by
    obtain ⟨v, s, rfl, h1, h2⟩ := r
    cases t with
    | int b =>
      obtain ⟨cs, hc, rfl⟩ := Option.map_eq_some_iff.mp h
      rw [repL_ints hc h2]
      cases h1
      rfl
    | _ => cases h
theorem repL_strs : ∀ {ts : List T} {bs : List Str} {vs : List V}, strsOf ts = some bs → RepL K at_ ρ H ts vs → vs = bs.map .str
  | [], _, _, h, r => by cases h; cases r; rfl
  | t :: ts, bs, _, h, r => by
    obtain ⟨v, s, rfl, h1, h2⟩ := r
    cases t with
    | str b =>
      obtain ⟨cs, hc, rfl⟩ := Option.map_eq_some_iff.mp h
      rw [repL_strs hc h2]
      cases h1
      rfl
    | _ => cases h
theorem repL_ofStrs : ∀ (ns : List Str), RepL K at_ ρ H (ns.map .str) (ns.map .str)
  | [] => rfl
  | n :: ns => ⟨_, _, rfl, rfl, repL_ofStrs ns⟩

/-! ### as data -/
def Cells (K : PySem.W.Frag) (at_ : At) (ρ : Pl) (H : Hp) (st : Store) : Prop := ∀ (l : Nat) (a : Addr) (c : Cell), ρ.pl[l]? = some a → st[l]? = some c → CellRep K at_ ρ H a c
theorem Cells.nil : Cells K at_ ρ H [] := fun l a c _ h => by simp at h
mutual
theorem rep_py (s : Cells K at_ ρ H st) : ∀ {t u : T} {v : V} {d : PyData}, Rep K at_ ρ H t v → res st t = some u → toPy u = some d → Dp K H v d
  | .non, _, _, _, r, e, h => by cases e; cases h; cases r; exact .non
  | .bl _, _, _, _, r, e, h => by cases e; cases h; cases r; exact .bl _
  | .int _, _, _, _, r, e, h => by cases e; cases h; cases r; exact .int _
  | .str _, _, _, _, r, e, h => by cases e; cases h; cases r; exact .str _
  | .fn _, _, _, _, r, e, h => by cases e; cases h
  | .tup ts, _, _, _, r, e, h => by
    obtain ⟨us, hu, rfl⟩ := Option.map_eq_some_iff.mp e
    obtain ⟨ds, hd, rfl⟩ := Option.map_eq_some_iff.mp h
    obtain ⟨a, vs, rfl, h1, h2⟩ := r
    exact .tup h1.seq (repL_py s h2 hu hd)
  | .lst ts, _, _, _, r, e, h => by
    obtain ⟨us, hu, rfl⟩ := Option.map_eq_some_iff.mp e
    obtain ⟨ds, hd, rfl⟩ := Option.map_eq_some_iff.mp h
    obtain ⟨a, vs, rfl, h1, h2⟩ := r
    exact .lst h1.seq (repL_py s h2 hu hd)
  | .dct kvs, _, _, _, r, e, h => by
    simp only [res] at e
    split at e
    · cases e; cases h
    · cases e
  | .loc l, _, _, _, r, e, h => by
    obtain ⟨a, rfl, hl⟩ := r
    simp only [res] at e
    split at e
    · rename_i us hs
      split at e
      · rename_i hn
        cases e
        obtain ⟨ds, hd, rfl⟩ := Option.map_eq_some_iff.mp h
        obtain ⟨vs, h1, h2⟩ := s l a _ hl hs
        exact .lst (.of h1) (repL_py0 h2 hd)
      · cases e
    · split at e
      · cases e; cases h
      · cases e
    · cases e
  | .act, _, _, _, _, e, _ => by cases e
  | .scr _, _, _, _, _, e, h => by cases e; cases h
theorem repL_py (s : Cells K at_ ρ H st) : ∀ {ts us : List T} {vs : List V} {ds : List PyData}, RepL K at_ ρ H ts vs → resL st ts = some us → toPyL us = some ds → DpAll K H vs ds
  | [], _, _, _, r, e, h => by cases e; cases h; cases r; exact .nil
  | t :: ts, _, _, _, r, e, h => by
    obtain ⟨v, vs, rfl, h1, h2⟩ := r
    simp only [resL] at e
    split at e
    · rename_i u us e1 e2
      cases e
      simp only [toPyL] at h
      split at h
      · rename_i d ds f1 f2
        cases h
        exact .cons (rep_py s h1 e1 f1) (repL_py s h2 e2 f2)
      · cases h
    · cases e
theorem rep_py0 : ∀ {t : T} {v : V} {d : PyData}, Rep K at_ ρ H t v → toPy t = some d → Dp K H v d
  | .non, _, _, r, h => by cases h; cases r; exact .non
  | .bl _, _, _, r, h => by cases h; cases r; exact .bl _
  | .int _, _, _, r, h => by cases h; cases r; exact .int _
  | .str _, _, _, r, h => by cases h; cases r; exact .str _
  | .fn _, _, _, r, h => by cases h
  | .tup ts, _, _, r, h => by
    obtain ⟨ds, hd, rfl⟩ := Option.map_eq_some_iff.mp h
    obtain ⟨a, vs, rfl, h1, h2⟩ := r
    exact .tup h1.seq (repL_py0 h2 hd)
  | .lst ts, _, _, r, h => by
    obtain ⟨ds, hd, rfl⟩ := Option.map_eq_some_iff.mp h
    obtain ⟨a, vs, rfl, h1, h2⟩ := r
    exact .lst h1.seq (repL_py0 h2 hd)
  | .dct _, _, _, _, h => by cases h
  | .loc _, _, _, _, h => by cases h
  | .act, _, _, _, h => by cases h
  | .scr _, _, _, _, h => by cases h
theorem repL_py0 : ∀ {ts : List T} {vs : List V} {ds : List PyData}, RepL K at_ ρ H ts vs → toPyL ts = some ds → DpAll K H vs ds
  | [], _, _, r, h => by cases h; cases r; exact .nil
  | t :: ts, _, _, r, h => by
    obtain ⟨v, vs, rfl, h1, h2⟩ := r
    simp only [toPyL] at h
    split at h
    · rename_i d ds f1 f2
      cases h
      exact .cons (rep_py0 h1 f1) (repL_py0 h2 f2)
    · cases h
end
theorem rep_pyOf {t : T} {v : V} {d : PyData} (s : StRep K at_ ρ H st) (r : Rep K at_ ρ H t v) (h : pyOf st t = some d) : Dp K H v d := by
  obtain ⟨u, e, f⟩ := Option.bind_eq_some_iff.mp h
  exact rep_py s.cell r e f
theorem rep_pyNil {t : T} {v : V} {d : PyData} (r : Rep K at_ ρ H t v) (h : pyOf [] t = some d) : Dp K H v d := by
  obtain ⟨u, e, f⟩ := Option.bind_eq_some_iff.mp h
  exact rep_py Cells.nil r e f
theorem eqT_py {a b : T} {k : Bool} (h : eqT st a b = some k) : ∃ x y, pyOf st a = some x ∧ pyOf st b = some y ∧ SeqAt.shaped x = true ∧ SeqAt.shaped y = true ∧ k = PyData.eqv x y := by
  unfold eqT at h
  split at h
  · rename_i x y e1 e2
    split at h
    · rename_i hs
      obtain ⟨h1, h2⟩ := Bool.and_eq_true_iff.mp hs
      cases h
      exact ⟨x, y, e1, e2, h1, h2, rfl⟩
    · cases h
  · cases h
end
end Lw
set_option Elab.async false
set_option linter.all false
set_option maxRecDepth 100000
set_option
      maxHeartbeats 4000000
/-! LwI: a tuple times a number. -/
namespace Lw
open PySem PySem.Spec L2 PyProof.Rows
/-- t * 1: the tuple itself -/
theorem tuple_mul1 (l : Addr) (items : Array Value) (n : Nat) (dd : Option Addr) (sl : Array (Option Value)) (x : Int) (u : Tok) (c0 : (decide (x < -(2 ^ 63)) || decide (x ≥ 2 ^ 63)) = false) (c1 : (items.isEmpty || x == 1) = true) :
    Meets (Builtin.«tuple.__mul__» ⟨[.ref l, .int x u], []⟩) (fun _ R s => s.heap.get? l = some { cls := .type "tuple", dict := dd, data := .seq items n, slots := sl } ∧ R (.ok (.ret (Value.ref l))) s) :=
  .of_wp fun prog
        w A R s h => by
    obtain
          ⟨hp, g, d, tk, os⟩ := s
    obtain ⟨hl, h⟩ := h
    have f1 := AutoSeq1.idx_int
    wp_walk using
          wpAny_loadPart' hl
    repeat (first
      | (refine wpAny_ite_false (decide_eq_false (by rw [c0]; exact Bool.false_ne_true))
            ?_; wp_walk using wpAny_loadPart' hl)
      | (refine wpAny_ite_true (decide_eq_true c1) ?_; wp_walk using wpAny_loadPart' hl))
    exact ⟨_, rfl, h⟩
section
variable {X : Cx}
theorem mul_tups {pins : List (Addr × Obj)} {s : Shared} {σ : L2.St} {H : Hp} {l : Addr} {xs : List V} {k : Int} {v u : Value} {Q : VK} (I : Inv X pins σ H s) (rx : RelV (.ref l) v) (ry : RelV (.int k) u) (hT : PlT X.K H l xs) (hne : xs ≠ []) (h1 : 1 ≤ k) (h2 : k ≤ 1000) (hz : xs.length ≤ 1000)
    (q1 : k = 1 → Q (.ref l) H) (q : k ≠ 1 → ∀ p ob, H p = none → ob.dict = none → Q (.ref p) (upd H p (.frz ob (.tup (List.replicate k.toNat xs).flatten)))) : wpAny (model X.prog X.w) X.A (binaryOp .Mult v u) (EP X pins σ Q) X.xe s := by
  cases rx
  obtain ⟨t, rfl⟩ := ry
  obtain ⟨its, r, ⟨⟨cls, dd, data, sl⟩, ho, hc, n, hd⟩, hs⟩ := I.tuple hT.seq
  simp only at hc hd
  subst hc hd
  have le : its.length = xs.length := r.length.symm
  have hn : its ≠ [] := fun e => hne (List.eq_nil_of_length_eq_zero (by rw [e] at le; exact le.symm))
  have hi : its.toArray.isEmpty
        = false := by
    cases its with
    | nil => exact absurd rfl hn
    | cons a b => rfl
  have sz : its.toArray.size = xs.length := by rw [List.size_toArray, le]
  have c0 : (decide (k < -(2 ^ 63)) || decide (k ≥ 2 ^ 63))
        = false := by
    rw [decide_eq_false (by omega), decide_eq_false (by omega)]
          <;> rfl
  by_cases hk : k = 1
  · subst hk
    exact wpAny_binaryOp_repeat_ref (T := "tuple") (U := "int") (by decide) ⟨_, ho, rfl⟩ (fun s' => typeIs_int s' 1 t) noFill_tuple_mul F.fills_int_mul F.slot_int_rmul repeat_tuple F.slot_int_index.lookup
      (call_meets F.slot_int_rmul (typeIs_int s 1 t) F.entry_int_rmul (F.args_int_rmul_2 _ _) (int_rmul_tuple 1 t l its.toArray n dd sl)
        ⟨ho, rfl, ⟨_, ho, rfl⟩, call_meets F.slot_tuple_mul ⟨_, ho, rfl⟩ F.entry_tuple_mul (F.args_tuple_mul_2 _ _) (tuple_mul1 l its.toArray n dd sl 1 t c0 (by rw [hi]; rfl)) ⟨ho, ⟨.ref l, H, I, rfl, q1 rfl⟩⟩⟩)
  · have hm : ((its.toArray.size : Nat) : Int) * k ≤ 1000000 := by
      rw [sz]
      have a1 : ((xs.length : Nat) : Int) * k ≤ 1000 * k
            := Int.mul_le_mul_of_nonneg_right (by omega) (by omega)
      omega
    have fl : (List.replicate k.toNat its).flatten.length ≤ sizeLine := by
      rw [PyProof.Rows.lm_len_rep_flat, le, sizeLine_eq]
      have a1 : k.toNat * xs.length ≤ 1000
            * 1000 := Nat.mul_le_mul (by omega) hz
      omega
    have fl2 : (List.replicate k.toNat xs).flatten.length ≤ sizeLine := by
      rw [PyProof.Rows.lm_len_rep_flat, sizeLine_eq]
      have a1 : k.toNat * xs.length ≤ 1000
            * 1000 := Nat.mul_le_mul (by omega) hz
      omega
    have c1 : (its.toArray.isEmpty || k == 1)
          = false := by
      rw [hi, Bool.false_or]
      exact beq_eq_false_iff_ne.mpr hk
    have c2 : (decide (k ≤ 0) || its.toArray.isEmpty)
          = false := by
      rw [hi, Bool.or_false]
      exact
            decide_eq_false (by omega)
    have c4 : Builtin.Tuple.tupleTooMany
          (((its.toArray.size : Nat) : Int) * k) = false := by
      unfold
            Builtin.Tuple.tupleTooMany
      rw [sizeLine_eq]
      exact
            decide_eq_false (by omega)
    refine wpAny_binaryOp_repeat_ref (T := "tuple") (U := "int") (by decide) ⟨_, ho, rfl⟩
          (fun s' => typeIs_int s' k t) noFill_tuple_mul F.fills_int_mul F.slot_int_rmul repeat_tuple F.slot_int_index.lookup
      (call_meets F.slot_int_rmul (typeIs_int s k t) F.entry_int_rmul
            (F.args_int_rmul_2 _ _) (int_rmul_tuple k t l its.toArray n dd sl)
        ⟨ho, rfl, ⟨_, ho, rfl⟩, call_meets F.slot_tuple_mul ⟨_, ho, rfl⟩ F.entry_tuple_mul (F.args_tuple_mul_2 _ _) (tuple_mulW l its.toArray n dd sl k t c0 c1 c2 (by omega) c4 (by rw [size_rep, List.size_toArray]; exact fl)) ⟨ho, ?_⟩⟩)
    rw [size_rep]
    exact ⟨.ref s.heap.objs.size, _, Inv_newT (t' := s.toks) (n := 0) I (fun b ob q => Heap.get?_push_of_some _ q) (Nat.le_refl _) (Heap.get?_push_size _ rfl) rfl rfl (r.rep k.toNat) fl2, rfl, q hk _ _ I.fresh rfl⟩
end
end Lw
set_option Elab.async false
set_option linter.all false
set_option maxRecDepth 100000
/-! Lw4: binary operators and comparisons. -/
namespace Lw
open PySem PySem.Spec L2 PyProof.Rows

def bopOf : Bop → Operator
  | .add => .Add | .sub => .Sub | .mul => .Mult | .fdiv => .FloorDiv | .mod => .Mod | .pow => .Pow
def copOf : Cop → CmpOp
  | .eq => .Eq | .ne => .NotEq | .lt => .Lt | .le => .LtE | .gt => .Gt | .ge => .GtE | .is => .Is | .isnt => .IsNot | .isin => .In | .notin => .NotIn
/-- a two-place reading by the evaluator -/
def rT2 (K : PySem.W.Frag) (at_ : At) (g : T → T → Store → Res T) : R2 := fun x y H Q => ∃ (ρ : Pl) (st : Store) (t u : T) (Z : Value → Option Addr → Hp → Prop),
  StRep K at_ ρ H st ∧ Rep K at_ ρ H t x ∧ Rep K at_ ρ H u y ∧ Out K at_ ρ H (g t u st) (Got K at_ Q) Z
theorem big_line : (big : Nat) = sizeLine := by rw [sizeLine_eq]; rfl
theorem Out.iteN {K : PySem.W.Frag} {at_ : At} {ρ : Pl} {H : Hp} {α : Type} {c : Prop} [Decidable c] {r : Res α} {P : α → Pl → Hp → Store → Prop} {Z : Value → Option Addr → Hp → Prop}
    (h : Out K at_ ρ H (if c then r else .no) P Z) : c ∧ Out K at_ ρ H r P Z := by
  by_cases hc : c
  · rw [if_pos hc] at h; exact ⟨hc, h⟩
  · rw [if_neg hc] at h; exact h.elim

section
variable {X : Cx} {at_ : At}
theorem repL_nil {K : PySem.W.Frag} {ρ : Pl} {H : Hp} {ts : List T} {vs : List V} (r : RepL K at_ ρ H ts vs) : vs = [] ↔ ts = [] := by
  have := r.length
  cases ts <;> cases vs <;> simp at this ⊢
theorem repL_rep {K : PySem.W.Frag} {ρ : Pl} {H : Hp} {ts : List T} {vs : List V} (r : RepL K at_ ρ H ts vs) : ∀ k : Nat, RepL K at_ ρ H (List.replicate k ts).flatten (List.replicate k vs).flatten
  | 0 => rfl
  | k + 1 => by
    simp only [List.replicate_succ, List.flatten_cons]
    exact r.append (repL_rep r k)
/-- t + u -/
theorem add_tups {pins : List (Addr × Obj)} {s : Shared} {σ : L2.St} {H : Hp} {a b : Addr} {xs ys : List V} {v u : Value} {Q : VK} (I : Inv X pins σ H s) (rx : RelV (.ref a) v) (ry : RelV (.ref b) u) (ha : PlT X.K H a xs) (hb : PlT X.K H b ys)
    (hz : xs.length + ys.length ≤ sizeLine) (q0 : xs = [] → Q (.ref b) H) (q1 : xs ≠ [] → ys = [] → Q (.ref a) H)
    (q2 : xs ≠ [] → ys ≠ [] → ∀ p ob, H p = none → ob.dict = none → Q (.ref p) (upd H p (.frz ob (.tup (xs ++ ys))))) : wpAny (model X.prog X.w) X.A (binaryOp .Add v u) (EP X pins σ Q) X.xe s := by
  by_cases hx : xs = []
  · refine L2.op_catA pins s σ H _ _ v u Q I rx ry ⟨a, b, xs, ys, rfl, rfl, ha.seq, hb.seq, hz, q0, fun e => absurd hx e, fun e => absurd hx e⟩
  · cases rx
    cases ry
    obtain ⟨its, r1, p1, _⟩ := I.tuple ha.seq
    obtain ⟨its2, r2, p2, _⟩ := I.tuple hb.seq
    have nil1 : its = [] ↔ xs = [] := by cases r1 <;> simp
    have nil2 : its2 = [] ↔ ys = [] := by cases r2 <;> simp
    have l1 := r1.length
    have l2 := r2.length
    refine HT.cat_tup p1 p2 (fun z => hx (nil1.mp z)) (fun z => ⟨.ref a, H, I, rfl, q1 hx (nil2.mp z)⟩) (fun z => ?_) (by omega)
    exact ⟨.ref s.heap.objs.size, _, Inv_newT (t' := s.toks) (n := 0) I (fun b ob q => Heap.get?_push_of_some _ q) (Nat.le_refl _) (Heap.get?_push_size _ rfl) rfl rfl (r1.append r2) (by rw [List.length_append]; exact hz), rfl,
      q2 hx (fun w => z (nil2.mpr w)) _ _ I.fresh rfl⟩
theorem op_add : OpR X (binaryOp .Add) (rT2 X.K at_ (binE .add)) := by
  intro pins s σ H x y v u Q I rx ry ⟨ρ, st, t, t', Z, sr, r, r', o⟩
  have lists : ∀ {a b : List T}, lstOf st t = some a → lstOf st t' = some b → Out X.K at_ ρ H (if a.length + b.length ≤ big then Res.ok (.lst (a ++ b)) st else .no) (Got X.K at_ Q) Z →
      wpAny (model X.prog X.w) X.A (binaryOp .Add v u) (EP X pins σ Q) X.xe s := fun {a b} e1 e2 o => by
    obtain ⟨hc, o⟩ := o.iteN
    obtain ⟨p, vs, rfl, h1, h2⟩ := rep_lst sr r e1
    obtain ⟨p', vs', rfl, h1', h2'⟩ := rep_lst sr r' e2
    rw [big_line, h2.length, h2'.length] at hc
    exact L2.op_cat pins s σ H _ _ v u Q I rx ry ⟨p, p', vs, vs', rfl, rfl, h1, h1', hc, fun q hq => fin_lst (fz := true) o sr (h2.append h2') hq⟩
  cases t with
  | int i =>
    cases t' with
    | int j => cases r; cases r'; exact L2.op_add pins s σ H _ _ v u Q I rx ry ⟨i, j, rfl, rfl, fin_val o sr rfl⟩
    | _ => simp only [binE, lstOf] at o; exact o.elim
  | str a =>
    cases t' with
    | str b =>
      obtain ⟨hc, o⟩ := o.iteN
      cases r; cases r'
      exact L2.op_add_str pins s σ H _ _ v u Q I rx ry ⟨a, b, rfl, rfl, by rw [← big_line]; exact hc, fin_val o sr rfl⟩
    | _ => simp only [binE, lstOf] at o; exact o.elim
  | tup a =>
    cases t' with
    | tup b =>
      obtain ⟨hc, o⟩ := o.iteN
      obtain ⟨p, vs, rfl, h1, h2⟩ := r
      obtain ⟨p', vs', rfl, h1', h2'⟩ := r'
      rw [big_line, h2.length, h2'.length] at hc
      refine add_tups I rx ry h1 h1' hc (fun e => ?_) (fun _ e => ?_) fun _ _ q ob hq hd => fin_tup o sr (h2.append h2') hq hd
      · have ea := (repL_nil h2).mp e
        subst ea
        exact fin_val o sr ⟨p', vs', rfl, h1', h2'⟩
      · have eb := (repL_nil h2').mp e
        subst eb
        rw [List.append_nil] at o
        exact fin_val o sr ⟨p, vs, rfl, h1, h2⟩
    | _ => simp only [binE, lstOf] at o; exact o.elim
  | lst a =>
    cases e2 : lstOf st t' with
    | some b => exact lists rfl e2 (by cases t' <;> simp only [binE, lstOf] at o e2 ⊢ <;> first | (cases e2; done) | (rw [e2] at o; exact o) | (cases e2; exact o))
    | none => cases t' <;> simp only [binE, lstOf] at o e2 <;> first | exact o.elim | (rw [e2] at o; exact o.elim) | cases e2
  | loc l =>
    cases e1 : lstOf st (.loc l) with
    | none => cases t' <;> simp only [binE, e1] at o <;> exact o.elim
    | some a =>
      cases e2 : lstOf st t' with
      | some b => exact lists e1 e2 (by cases t' <;> simp only [binE, e1, e2] at o ⊢ <;> first | exact o | cases e2)
      | none => cases t' <;> simp only [binE, e1, e2] at o <;> exact o.elim
  | _ => cases t' <;> simp only [binE, lstOf] at o <;> exact o.elim
theorem op_sub : OpR X (binaryOp .Sub) (rT2 X.K at_ (binE .sub)) := by
  intro pins s σ H x y v u Q I rx ry ⟨ρ, st, t, t', Z, sr, r, r', o⟩
  cases t <;> cases t' <;> simp only [binE] at o <;> first | exact o.elim | skip
  cases r; cases r'
  exact L2.op_sub pins s σ H _ _ v u Q I rx ry ⟨_, _, rfl, rfl, fin_val o sr rfl⟩
theorem op_fdiv : OpR X (binaryOp .FloorDiv) (rT2 X.K at_ (binE .fdiv)) := by
  intro pins s σ H x y v u Q I rx ry ⟨ρ, st, t, t', Z, sr, r, r', o⟩
  cases t <;> cases t' <;> simp only [binE] at o <;> first | exact o.elim | skip
  obtain ⟨hc, o⟩ := o.iteN
  cases r; cases r'
  exact L2.op_fdiv pins s σ H _ _ v u Q I rx ry ⟨_, _, rfl, rfl, hc, fin_val o sr rfl⟩
theorem op_mod : OpR X (binaryOp .Mod) (rT2 X.K at_ (binE .mod)) := by
  intro pins s σ H x y v u Q I rx ry ⟨ρ, st, t, t', Z, sr, r, r', o⟩
  cases t <;> cases t' <;> simp only [binE] at o <;> first | exact o.elim | skip
  obtain ⟨hc, o⟩ := o.iteN
  cases r; cases r'
  exact L2.op_mod pins s σ H _ _ v u Q I rx ry ⟨_, _, rfl, rfl, hc, fin_val o sr rfl⟩
theorem op_pow : OpR X (binaryOp .Pow) (rT2 X.K at_ (binE .pow)) := by
  intro pins s σ H x y v u Q I rx ry ⟨ρ, st, t, t', Z, sr, r, r', o⟩
  cases t <;> cases t' <;> simp only [binE] at o <;> first | exact o.elim | skip
  obtain ⟨hc, o⟩ := o.iteN
  cases r; cases r'
  exact L2.op_pow pins s σ H _ _ v u Q I rx ry ⟨_, _, rfl, rfl, hc, fin_val o sr rfl⟩
theorem op_mul : OpR X (binaryOp .Mult) (rT2 X.K at_ (binE .mul)) := by
  intro pins s σ H x y v u Q I rx ry ⟨ρ, st, t, t', Z, sr, r, r', o⟩
  have lists : ∀ {a : List T} {k : Int}, lstOf st t = some a → t' = .int k → Out X.K at_ ρ H (if 0 ≤ k ∧ k < 1000 ∧ a.length * k.toNat ≤ big then Res.ok (.lst (List.replicate k.toNat a).flatten) st else .no) (Got X.K at_ Q) Z →
      wpAny (model X.prog X.w) X.A (binaryOp .Mult v u) (EP X pins σ Q) X.xe s := fun {a k} e1 e2 o2 => by
    subst e2
    obtain ⟨⟨h0, h1000, hc⟩, o2⟩ := o2.iteN
    obtain ⟨p, vs, rfl, h1, h2⟩ := rep_lst sr r e1
    cases r'
    rw [big_line, h2.length] at hc
    exact L2.op_rep pins s σ H _ _ v u Q I rx ry ⟨p, k, vs, rfl, rfl, h1, by omega, by omega, hc, fun q hq => fin_lst (fz := true) o2 sr (repL_rep h2 _) hq⟩
  cases t with
  | int i =>
    cases t' with
    | int j =>
      obtain ⟨hc, o⟩ := o.iteN
      cases r; cases r'
      exact L2.op_mul pins s σ H _ _ v u Q I rx ry ⟨_, _, rfl, rfl, hc, fin_val o sr rfl⟩
    | _ => simp only [binE, lstOf] at o; exact o.elim
  | tup a =>
    cases t' with
    | int k =>
      simp only [binE] at o
      obtain ⟨⟨hn, h1, h2, hz⟩, o⟩ := o.iteN
      have r0 := r
      obtain ⟨l, vs, rfl, g1, g2⟩ := r
      cases r'
      have le := g2.length
      refine mul_tups I rx ry g1 (fun e => hn (List.eq_nil_of_length_eq_zero (by rw [le, e]; rfl))) h1 h2 (by omega) (fun e => ?_) fun _ p ob hp hd => fin_tup o sr (repL_rep g2 _) hp hd
      subst e
      have ea : (List.replicate (1 : Int).toNat a).flatten = a := by
        show (a ++ []) = a
        rw [List.append_nil]
      rw [ea] at o
      exact fin_val o sr r0
    | _ => simp only [binE, lstOf] at o; exact o.elim
  | lst a =>
    cases t' with
    | int k => simp only [binE, lstOf] at o; exact lists rfl rfl o
    | _ => simp only [binE, lstOf] at o; exact o.elim
  | loc l =>
    cases t' with
    | int k =>
      simp only [binE] at o
      cases e1 : lstOf st (.loc l) with
      | none => rw [e1] at o; exact o.elim
      | some a => rw [e1] at o; exact lists e1 rfl o
    | _ => simp only [binE] at o; exact o.elim
  | _ => cases t' <;> simp only [binE, lstOf] at o <;> exact o.elim
theorem op_bin : ∀ o : Bop, OpR X (binaryOp (bopOf o)) (rT2 X.K at_ (binE o))
  | .add => op_add
  | .sub => op_sub
  | .mul => op_mul
  | .fdiv => op_fdiv
  | .mod => op_mod
  | .pow => op_pow
end
end Lw
set_option Elab.async false
set_option linter.all false
set_option maxRecDepth 100000
/-! Lw5: comparisons. -/
namespace Lw
open PySem PySem.Spec L2 PyProof.Rows

def rC (K : PySem.W.Frag) (at_ : At) (g : T → T → Store → Option Bool) : R2 := fun x y H Q => ∃ (ρ : Pl) (st : Store) (t u : T) (b : Bool),
  StRep K at_ ρ H st ∧ Rep K at_ ρ H t x ∧ Rep K at_ ρ H u y ∧ g t u st = some b ∧ Q (.bl b) H

theorem lexAt_shift (e r : Nat → Bool) (z : Bool) : ∀ (k i : Nat), Ob.lexAt e r z (i + 1) k = Ob.lexAt (fun j => e (j + 1)) (fun j => r (j + 1)) z i k
  | 0, _ => rfl
  | k + 1, i => by
    rw [Ob.lexAt_succ, Ob.lexAt_succ, lexAt_shift e r z k (i + 1)]
theorem ltL_lex {lt : T → T → Option Bool} : ∀ {as bs : List T} {b : Bool}, ltL lt as bs = some b →
    Ob.lexAt (fun j => eqT [] (as.getD j .non) (bs.getD j .non) == some true) (fun j => lt (as.getD j .non) (bs.getD j .non) == some true) (decide (as.length < bs.length)) 0 (min as.length bs.length) = b ∧
      ∀ j, j < as.length → j < bs.length → (∃ k, eqT [] (as.getD j .non) (bs.getD j .non) = some k) ∧ True
  | [], [], _, h => by cases h; exact ⟨rfl, fun j h => absurd h (Nat.not_lt_zero _)⟩
  | [], _ :: _, _, h => by cases h; exact ⟨by simp [Ob.lexAt], fun j h => absurd h (Nat.not_lt_zero _)⟩
  | _ :: _, [], _, h => by cases h; exact ⟨by simp [Ob.lexAt], fun j _ h => absurd h (Nat.not_lt_zero _)⟩
  | x :: xs, y :: ys, b, h => by
    simp only [ltL] at h
    split at h
    · rename_i b' e1 e2
      cases h
      obtain ⟨i1, i2⟩ := ltL_lex e2
      refine ⟨?_, fun j h1 h2 => ?_⟩
      · have em : min (x :: xs).length (y :: ys).length = min xs.length ys.length + 1 := by simp only [List.length_cons]; omega
        rw [em, Ob.lexAt_succ, if_pos (by simp [e1]), lexAt_shift]
        simpa using i1
      · cases j with
        | zero => exact ⟨⟨_, e1⟩, trivial⟩
        | succ j => simpa using i2 j (by simpa using h1) (by simpa using h2)
    · rename_i b' e1 e2
      obtain ⟨i1, i2⟩ := ltL_lex e2
      refine ⟨?_, fun j h1 h2 => ?_⟩
      · have em : min (x :: xs).length (y :: ys).length = min xs.length ys.length + 1 := by simp only [List.length_cons]; omega
        rw [em, Ob.lexAt_succ, if_neg (by simp [e1])]
        simp [h]
      · cases j with
        | zero => exact ⟨⟨_, e1⟩, trivial⟩
        | succ j => simpa using i2 j (by simpa using h1) (by simpa using h2)
    · cases h
/-- where two items differ, < is known -/
theorem ltL_lt {lt : T → T → Option Bool} : ∀ {as bs : List T} {b : Bool}, ltL lt as bs = some b → ∀ j, j < as.length → j < bs.length → eqT [] (as.getD j .non) (bs.getD j .non) = some false → ∃ k, lt (as.getD j .non) (bs.getD j .non) = some k
  | [], _, _, _, j, h, _, _ => absurd h (Nat.not_lt_zero _)
  | _ :: _, [], _, _, j, _, h, _ => absurd h (Nat.not_lt_zero _)
  | x :: xs, y :: ys, b, h, j, h1, h2, he => by
    simp only [ltL] at h
    split at h
    · rename_i b' e1 e2
      cases j with
      | zero =>
        have he : eqT [] x y = some false := by simpa using he
        rw [e1] at he
        cases he
      | succ j => simpa using ltL_lt e2 j (by simpa using h1) (by simpa using h2) (by simpa using he)
    · rename_i b' e1 e2
      cases j with
      | zero => exact ⟨b, by simpa using h⟩
      | succ j => simpa using ltL_lt e2 j (by simpa using h1) (by simpa using h2) (by simpa using he)
    · cases h

section
variable {X : Cx} {at_ : At}
theorem getD_at {α : Type} {l : List α} {j : Nat} {d : α} (h : j < l.length) : l[j]? = some (l.getD j d) := by
  rw [List.getD_eq_getElem?_getD, List.getElem?_eq_getElem h]
  rfl
/-- x < y of data -/
theorem rc_lt {pins : List (Addr × Obj)} {s : Shared} {σ : L2.St} {H : Hp} {ρ : Pl} (I : Inv X pins σ H s) : ∀ (n : Nat) (A : Around) (t u : T) (x y : V) (v w : Value) (b : Bool), A.units + n + 70 < cLine →
    ltT n t u = some b → Rep X.K at_ ρ H t x → Rep X.K at_ ρ H u y → RelV x v → RelV y w → Ob.RcOp .Lt A s v w b := by
  intro n
  induction n with
  | zero =>
    intro A t u x y v w b hu h r r' rx ry
    cases t <;> cases u <;> simp only [ltT] at h <;> first | (cases h; done) | skip
    · cases h; cases r; cases r'
      obtain ⟨k, rfl⟩ := rx
      obtain ⟨l, rfl⟩ := ry
      exact Ob.RcOp.lt_int _ _ _ _
    · cases h; cases r; cases r'
      obtain ⟨k, rfl⟩ := rx
      obtain ⟨l, rfl⟩ := ry
      exact fun prog w E Q q => PySem.P.lt_str q
  | succ n ih =>
    intro A t u x y v w b hu h r r' rx ry
    cases t <;> cases u <;> simp only [ltT] at h <;> first | (cases h; done) | skip
    · cases h; cases r; cases r'
      obtain ⟨k, rfl⟩ := rx
      obtain ⟨l, rfl⟩ := ry
      exact Ob.RcOp.lt_int _ _ _ _
    · cases h; cases r; cases r'
      obtain ⟨k, rfl⟩ := rx
      obtain ⟨l, rfl⟩ := ry
      exact fun prog w E Q q => PySem.P.lt_str q
    · rename_i as bs
      obtain ⟨p, vs, rfl, h1, h2⟩ := r
      obtain ⟨p', vs', rfl, h1', h2'⟩ := r'
      cases rx; cases ry
      obtain ⟨its, r1, p1, _⟩ := I.tuple h1.seq
      obtain ⟨its2, r2, p2, _⟩ := I.tuple h1'.seq
      have l1 : its.toArray.size = as.length := by rw [List.size_toArray, ← r1.length, h2.length]
      have l2 : its2.toArray.size = bs.length := by rw [List.size_toArray, ← r2.length, h2'.length]
      obtain ⟨i1, i2⟩ := ltL_lex h
      have item : ∀ (j : Nat) (hj : j < its.toArray.size), ∃ z, Rep X.K at_ ρ H (as.getD j .non) z ∧ RelV z its.toArray[j] := fun j hj => by
        have hja : j < as.length := by omega
        obtain ⟨z, e, rz⟩ := h2.getT (getD_at (d := T.non) hja)
        obtain ⟨w', e', rw'⟩ := r1.get e
        refine ⟨z, rz, ?_⟩
        have : its.toArray[j] = w' := by
          have hq := e'
          rw [List.getElem?_eq_getElem (by simpa using hj)] at hq
          simpa using hq
        rw [this]; exact rw'
      have item2 : ∀ (j : Nat) (hj : j < its2.toArray.size), ∃ z, Rep X.K at_ ρ H (bs.getD j .non) z ∧ RelV z its2.toArray[j] := fun j hj => by
        have hja : j < bs.length := by omega
        obtain ⟨z, e, rz⟩ := h2'.getT (getD_at (d := T.non) hja)
        obtain ⟨w', e', rw'⟩ := r2.get e
        refine ⟨z, rz, ?_⟩
        have : its2.toArray[j] = w' := by
          have hq := e'
          rw [List.getElem?_eq_getElem (by simpa using hj)] at hq
          simpa using hq
        rw [this]; exact rw'
      have R := Ob.RcOp.tuples_lt (A := A) (s := s) (e := fun j => eqT [] (as.getD j .non) (bs.getD j .non) == some true) (r := fun j => ltT n (as.getD j .non) (bs.getD j .non) == some true) p1 p2 (by omega)
        (fun j j1 j2 => by
          obtain ⟨z, rz, vz⟩ := item j j1
          obtain ⟨z', rz', vz'⟩ := item2 j j2
          obtain ⟨⟨k, ek⟩, _⟩ := i2 j (by omega) (by omega)
          obtain ⟨d, d', e1, e2, s1, s2, e3⟩ := eqT_py ek
          obtain ⟨as1, q1⟩ := Dp.reads I d z _ (rep_pyNil rz e1) vz
          obtain ⟨as2, q2⟩ := Dp.reads I d' z' _ (rep_pyNil rz' e2) vz'
          have hd := SeqAt.depth_of_shaped s1
          have q := SeqAt.eqAt_reads d d' A.in1 s _ _ _ _ q1 q2 (SeqAt.canLay_of_shaped s1) (SeqAt.canLay_of_shaped s2) (by show A.units + 1 + _ < cLine; have := Nat.min_le_left d.depth d'.depth; omega)
          have ee : (eqT [] (as.getD j .non) (bs.getD j .non) == some true) = PyData.eqv d d' := by
            rw [ek, e3]
            cases PyData.eqv d d' <;> rfl
          show SeqAt.EqAt A.in1 s _ _ (eqT [] (as.getD j .non) (bs.getD j .non) == some true)
          rw [ee]
          exact q)
        (fun j j1 j2 he => by
          obtain ⟨z, rz, vz⟩ := item j j1
          obtain ⟨z', rz', vz'⟩ := item2 j j2
          obtain ⟨⟨k, ek⟩, _⟩ := i2 j (by omega) (by omega)
          have hk : k = false := by
            cases k with
            | false => rfl
            | true => rw [ek] at he; cases he
          subst hk
          obtain ⟨k', ek'⟩ := ltL_lt h j (by omega) (by omega) ek
          have ee : (ltT n (as.getD j .non) (bs.getD j .non) == some true) = k' := by rw [ek']; cases k' <;> rfl
          show Ob.RcOp .Lt A.in1 s _ _ (ltT n (as.getD j .non) (bs.getD j .non) == some true)
          rw [ee]
          exact ih A.in1 _ _ z z' _ _ k' (by show A.units + 1 + n + 70 < cLine; omega) ek' rz rz' vz vz')
      rw [l1, l2, i1] at R
      exact R
theorem op_lt (hu : X.A.units + 130 < cLine) : OpR X (compareOp .Lt) (rC X.K at_ (cmpE .lt)) := by
  intro pins s σ H x y v u Q I rx ry ⟨ρ, st, t, t', b, sr, r, r', e, q⟩
  simp only [cmpE] at e
  cases hl : ltT 40 t t' with
  | some b' =>
    simp only [hl, Option.some.injEq] at e
    subst e
    exact rc_lt I 40 X.A t t' x y v u _ (by omega) hl r r' rx ry X.prog X.w X.xe _ ⟨.bl _, H, I, rfl, q⟩
  | none =>
    simp only [hl, ltD] at e
    split at e
    · rename_i d d' e1 e2
      split at e
      · rename_i h
        cases e
        obtain ⟨as, r1⟩ := Dp.reads I d _ v (rep_pyOf sr r e1) rx
        obtain ⟨bs, r2⟩ := Dp.reads I d' _ u (rep_pyOf sr r' e2) ry
        have hn : d ≠ .none := fun z => by rw [z] at h; cases h.2.1
        exact PySem.W.rcLt_alike d d' X.A s v u as bs r1 r2 h.1 hn (by have := h.2.2; have := Nat.min_le_left d.depth d'.depth; omega) X.prog X.w X.xe _ ⟨.bl _, H, I, rfl, q⟩
      · cases e
    · cases e
theorem op_eq (hu : X.A.units + 130 < cLine) : OpR X (compareOp .Eq) (rC X.K at_ (cmpE .eq)) := by
  intro pins s σ H x y v u Q I rx ry ⟨ρ, st, t, t', b, sr, r, r', e, q⟩
  obtain ⟨d, d', e1, e2, s1, s2, rfl⟩ := eqT_py e
  exact L2.op_eqD (by omega) pins s σ H x y v u Q I rx ry ⟨d, d', rep_pyOf sr r e1, rep_pyOf sr r' e2, s1, s2, q⟩
theorem op_ne (hu : X.A.units + 130 < cLine) : OpR X (compareOp .NotEq) (rC X.K at_ (cmpE .ne)) := by
  intro pins s σ H x y v u Q I rx ry ⟨ρ, st, t, t', b, sr, r, r', e, q⟩
  obtain ⟨c, e', rfl⟩ := Option.map_eq_some_iff.mp e
  obtain ⟨d, d', e1, e2, s1, s2, rfl⟩ := eqT_py e'
  exact L2.op_neD (by omega) pins s σ H x y v u Q I rx ry ⟨d, d', rep_pyOf sr r e1, rep_pyOf sr r' e2, s1, s2, q⟩
theorem op_le : OpR X (compareOp .LtE) (rC X.K at_ (cmpE .le)) := by
  intro pins s σ H x y v u Q I rx ry ⟨ρ, st, t, t', b, sr, r, r', e, q⟩
  cases t <;> cases t' <;> simp only [cmpE] at e <;> first | (cases e; done) | skip
  · cases e; cases r; cases r'
    exact L2.op_le pins s σ H _ _ v u Q I rx ry ⟨_, _, rfl, rfl, q⟩
  · cases e; cases r; cases r'
    exact L2.op_le_str pins s σ H _ _ v u Q I rx ry ⟨_, _, rfl, rfl, q⟩
theorem op_gt : OpR X (compareOp .Gt) (rC X.K at_ (cmpE .gt)) := by
  intro pins s σ H x y v u Q I rx ry ⟨ρ, st, t, t', b, sr, r, r', e, q⟩
  cases t <;> cases t' <;> simp only [cmpE] at e <;> first | (cases e; done) | skip
  cases e; cases r; cases r'
  exact L2.op_gt pins s σ H _ _ v u Q I rx ry ⟨_, _, rfl, rfl, q⟩
theorem op_ge : OpR X (compareOp .GtE) (rC X.K at_ (cmpE .ge)) := by
  intro pins s σ H x y v u Q I rx ry ⟨ρ, st, t, t', b, sr, r, r', e, q⟩
  cases t <;> cases t' <;> simp only [cmpE] at e <;> first | (cases e; done) | skip
  cases e; cases r; cases r'
  exact L2.op_ge pins s σ H _ _ v u Q I rx ry ⟨_, _, rfl, rfl, q⟩
theorem rep_non {K : PySem.W.Frag} {ρ : Pl} {H : Hp} {t : T} {v : V} (r : Rep K at_ ρ H t v) : decide (v = .non) = decide (t = .non) := by
  cases t with
  | non => cases r; rfl
  | act => exact r.elim
  | bl b => cases r; simp
  | int b => cases r; simp
  | str b => cases r; simp
  | fn f => cases r; simp
  | tup ts => obtain ⟨a, vs, rfl, _⟩ := r; simp
  | lst ts => obtain ⟨a, vs, rfl, _⟩ := r; simp
  | dct ts => obtain ⟨a, vs, rfl, _⟩ := r; simp
  | loc l => obtain ⟨a, rfl, _⟩ := r; simp
  | scr l => obtain ⟨a, rfl, _⟩ := r; simp
theorem op_is : OpR X (compareOp .Is) (rC X.K at_ (cmpE .is)) := by
  intro pins s σ H x y v u Q I rx ry ⟨ρ, st, t, t', b, sr, r, r', e, q⟩
  simp only [cmpE] at e
  split at e
  · rename_i h
    subst h
    cases e; cases r'
    rw [← rep_non r] at q
    exact L2.op_isN pins s σ H _ _ v u Q I rx ry ⟨rfl, q⟩
  · cases e
theorem op_isnt : OpR X (compareOp .IsNot) (rC X.K at_ (cmpE .isnt)) := by
  intro pins s σ H x y v u Q I rx ry ⟨ρ, st, t, t', b, sr, r, r', e, q⟩
  simp only [cmpE] at e
  split at e
  · rename_i h
    subst h
    cases e; cases r'
    rw [← rep_non r] at q
    exact L2.op_notN pins s σ H _ _ v u Q I rx ry ⟨rfl, q⟩
  · cases e
/-- what in asks for -/
inductive InV (K : PySem.W.Frag) (H : Hp) (x y : V) (b : Bool) : Prop
  | str (i j : Str) : x = .str i → y = .str j → b = inStr i j → InV K H x y b
  | dict (a : Addr) (o : Option V) : y = .ref a → DGet H a x o → b = o.isSome → InV K H x y b
  | lst (d : PyData) (ds : List PyData) : Dp K H x d → Dp K H y (.list ds) → SeqAt.shaped d = true → SeqAt.shaped (.list ds) = true → b = (ds.any fun z => PyData.eqv z d) → InV K H x y b
  | tup (d : PyData) (ds : List PyData) : Dp K H x d → Dp K H y (.tuple ds) → SeqAt.shaped d = true → SeqAt.shaped (.list ds) = true → b = (ds.any fun z => PyData.eqv z d) → InV K H x y b
theorem pyL_of {K : PySem.W.Frag} {ρ : Pl} {H : Hp} {st : Store} {ts : List T} {vs : List V} {ds : List PyData} (s : StRep K at_ ρ H st) (r : RepL K at_ ρ H ts vs) (h : pyL st ts = some ds) : DpAll K H vs ds := by
  obtain ⟨u, e, f⟩ := Option.bind_eq_some_iff.mp h
  exact repL_py s.cell r e f
theorem inSeq_of {st : Store} {x : T} {ts : List T} {b : Bool} (h : inSeq st x ts = some b) : ∃ ds d, pyL st ts = some ds ∧ pyOf st x = some d ∧ SeqAt.shaped (.list ds) = true ∧ SeqAt.shaped d = true ∧ b = (ds.any fun z => PyData.eqv z d) := by
  unfold inSeq at h
  split at h
  · rename_i ds d e1 e2
    split at h
    · rename_i hs
      obtain ⟨h1, h2⟩ := Bool.and_eq_true_iff.mp hs
      cases h
      exact ⟨ds, d, e1, e2, h1, h2, rfl⟩
    · cases h
  · cases h
theorem inV_dict {K : PySem.W.Frag} {ρ : Pl} {H : Hp} {kvs : List (T × T)} {ks : List (Key × V)} {t : T} {x : V} {a : Addr} {b : Bool} (h1 : Rd H a (.dK ks)) (h2 : RepP K at_ ρ H kvs ks) (r : Rep K at_ ρ H t x) (h : (if keyOk t = true then some (dget kvs t).isSome else none) = some b) : InV K H x (.ref a) b := by
  split at h
  · rename_i hk
    cases h
    obtain ⟨q, kq, rfl⟩ := keyIs_of hk r
    have g := repP_get h2 kq
    refine .dict a (valV ks q) rfl (.inl ⟨ks, q, h1, rfl, rfl⟩) ?_
    cases e : dget kvs t with
    | some z => rw [e] at g; obtain ⟨v', e', _⟩ := g; rw [e']; rfl
    | none => rw [e] at g; rw [g]; rfl
  · cases h
theorem inE_V {K : PySem.W.Frag} {ρ : Pl} {H : Hp} {st : Store} {t u : T} {x y : V} {b : Bool} (s : StRep K at_ ρ H st) (r : Rep K at_ ρ H t x) (r' : Rep K at_ ρ H u y) (h : inE st t u = some b) : InV K H x y b := by
  unfold inE at h
  split at h
  · split at h
    · cases h; cases r; cases r'
      exact .str _ _ rfl rfl rfl
    · cases h
  · rename_i kvs
    obtain ⟨a, ks, rfl, h1, h2⟩ := r'
    exact inV_dict h1.1 h2 r h
  · rename_i ts
    obtain ⟨ds, d, e1, e2, s1, s2, rfl⟩ := inSeq_of h
    obtain ⟨a, vs, rfl, h1, h2⟩ := r'
    exact .tup d ds (rep_pyOf s r e2) (.tup h1.seq (pyL_of s h2 e1)) s2 s1 rfl
  · rename_i ts
    obtain ⟨ds, d, e1, e2, s1, s2, rfl⟩ := inSeq_of h
    obtain ⟨a, vs, rfl, h1, h2⟩ := r'
    exact .lst d ds (rep_pyOf s r e2) (.lst h1.seq (pyL_of s h2 e1)) s2 s1 rfl
  · obtain ⟨a, rfl, hl⟩ := r'
    split at h
    · rename_i ts e
      obtain ⟨ds, d, e1, e2, s1, s2, rfl⟩ := inSeq_of h
      obtain ⟨vs, h1, h2⟩ := s.cell _ a _ hl e
      exact .lst d ds (rep_pyOf s r e2) (.lst (.of h1) (pyL_of s h2 e1)) s2 s1 rfl
    · rename_i kvs e
      obtain ⟨ks, h1, h2⟩ := s.cell _ a _ hl e
      exact inV_dict (.inl h1) h2 r h
    · rename_i kvs e
      obtain ⟨o, ks, h1, h2⟩ := s.cell _ a _ hl e
      exact inV_dict (.inr ⟨o, h1⟩) h2 r h
    · cases h
  · cases h
theorem op_in (hu : X.A.units + 130 < cLine) : OpR X (compareOp .In) (rC X.K at_ (cmpE .isin)) := by
  intro pins s σ H x y v u Q I rx ry ⟨ρ, st, t, t', b, sr, r, r', e, q⟩
  cases inE_V sr r r' e with
  | str i j e1 e2 e3 =>
    subst e1 e2 e3
    exact L2.op_in_str pins s σ H _ _ v u Q I rx ry ⟨i, j, rfl, rfl, q⟩
  | dict a o e1 g e3 =>
    subst e1 e3
    cases ry
    exact d_in (by omega) I g rx fun s' I' => ⟨.bl o.isSome, H, I', rfl, q⟩
  | lst d ds h1 h2 s1 s2 e3 =>
    subst e3
    exact L2.op_inD (by omega) pins s σ H _ _ v u Q I rx ry ⟨d, ds, h1, h2, s1, s2, q⟩
  | tup d ds h1 h2 s1 s2 e3 =>
    subst e3
    obtain ⟨as, r1⟩ := Dp.reads I d x v h1 rx
    obtain ⟨bs, r2⟩ := Dp.reads I (.tuple ds) y u h2 ry
    have hc : PyData.canLayAll0 ds = true := SeqAt.canLay_of_shaped (d := .list ds) s2
    exact SeqAt.in_tuple_reads r2 r1 hc (SeqAt.canLay_of_shaped s1) (by have := SeqAt.depth_of_shaped s1; have := Nat.min_le_right (PyData.depthAll ds) d.depth; omega) ⟨.bl _, H, I, rfl, q⟩
theorem op_notin (hu : X.A.units + 130 < cLine) : OpR X (compareOp .NotIn) (rC X.K at_ (cmpE .notin)) := by
  intro pins s σ H x y v u Q I rx ry ⟨ρ, st, t, t', b, sr, r, r', e, q⟩
  obtain ⟨c, e', rfl⟩ := Option.map_eq_some_iff.mp e
  cases inE_V sr r r' e' with
  | str i j e1 e2 e3 =>
    subst e1 e2 e3
    exact L2.op_notIn_str pins s σ H _ _ v u Q I rx ry ⟨i, j, rfl, rfl, q⟩
  | dict a o e1 g e3 =>
    subst e1 e3
    cases ry
    exact d_notIn (by omega) I g rx fun s' I' => ⟨.bl (!o.isSome), H, I', rfl, q⟩
  | lst d ds h1 h2 s1 s2 e3 =>
    subst e3
    exact L2.op_notInD (by omega) pins s σ H _ _ v u Q I rx ry ⟨d, ds, h1, h2, s1, s2, q⟩
  | tup d ds h1 h2 s1 s2 e3 =>
    subst e3
    obtain ⟨as, r1⟩ := Dp.reads I d x v h1 rx
    obtain ⟨bs, r2⟩ := Dp.reads I (.tuple ds) y u h2 ry
    have hc : PyData.canLayAll0 ds = true := SeqAt.canLay_of_shaped (d := .list ds) s2
    exact SeqAt.notIn_tuple_reads r2 r1 hc (SeqAt.canLay_of_shaped s1) (by have := SeqAt.depth_of_shaped s1; have := Nat.min_le_right (PyData.depthAll ds) d.depth; omega) ⟨.bl _, H, I, rfl, q⟩
theorem op_cmp (hu : X.A.units + 130 < cLine) : ∀ o : Cop, OpR X (compareOp (copOf o)) (rC X.K at_ (cmpE o))
  | .eq => op_eq hu
  | .ne => op_ne hu
  | .lt => op_lt hu
  | .le => op_le
  | .gt => op_gt
  | .ge => op_ge
  | .is => op_is
  | .isnt => op_isnt
  | .isin => op_in hu
  | .notin => op_notin hu
end
end Lw
set_option Elab.async false
set_option linter.all false
set_option maxRecDepth 100000
/-! Lw6: built-in functions. -/
namespace Lw
open PySem PySem.Spec L2 PyProof.Rows

def rB (K : PySem.W.Frag) (at_ : At) (g : List T → Store → Res T) : List V → Hp → VK → Prop := fun vs H Q => ∃ (ρ : Pl) (st : Store) (ts : List T) (Z : Value → Option Addr → Hp → Prop),
  StRep K at_ ρ H st ∧ RepL K at_ ρ H ts vs ∧ Out K at_ ρ H (g ts st) (Got K at_ Q) Z
section
variable {X : Cx} {at_ : At}
/-- one argument alone -/
theorem rB_one {f : Value} {b : Bi} (h0 : ∀ st ts, (∀ t, ts ≠ [t]) → biE b ts st = .no)
    (h : ∀ (pins : List (Addr × Obj)) (s : Shared) (σ : L2.St) (H : Hp) (x : V) (us : List Value) (Q : VK) (ρ : Pl) (st : Store) (t : T) (Z : Value → Option Addr → Hp → Prop), Inv X pins σ H s → Vals [x] us → StRep X.K at_ ρ H st → Rep X.K at_ ρ H t x →
      Out X.K at_ ρ H (biE b [t] st) (Got X.K at_ Q) Z → wpAny (model X.prog X.w) X.A (call f us) (EP X pins σ Q) X.xe s) : CallR X f (rB X.K at_ (biE b)) := by
  intro pins s σ H xs us Q I rs ⟨ρ, st, ts, Z, sr, r, o⟩
  by_cases e : ∃ t, ts = [t]
  · obtain ⟨t, rfl⟩ := e
    obtain ⟨v, rfl, r1⟩ := r.one
    exact h pins s σ H v us Q ρ st t Z I rs sr r1 o
  · rw [h0 st ts fun t q => e ⟨t, q⟩] at o
    exact o.elim
theorem bi_abs : CallR X (.builtin "abs") (rB X.K at_ (biE .abs)) := by
  refine rB_one (fun st ts h => ?_) fun pins s σ H x us Q ρ st t Z I rs sr r o => ?_
  · match ts, h with
    | [], _ => rfl
    | [t], h => exact absurd rfl (h t)
    | _ :: _ :: _, _ => simp only [biE]
  · cases t <;> simp only [biE] at o <;> first | exact o.elim | skip
    cases r
    exact call_abs pins s σ H _ us Q I rs ⟨_, rfl, fin_val o sr rfl⟩
theorem bi_all (hc : X.calm = true) : CallR X (.builtin "all") (rB X.K at_ (biE .all)) := by
  refine rB_one (fun st ts h => ?_) fun pins s σ H x us Q ρ st t Z I rs sr r o => ?_
  · match ts, h with
    | [], _ => rfl
    | [t], h => exact absurd rfl (h t)
    | _ :: _ :: _, _ => simp only [biE]
  · simp only [biE] at o
    obtain ⟨u, e, q⟩ := o.ofSome sr
    obtain ⟨bs, e', rfl⟩ := Option.map_eq_some_iff.mp e
    obtain ⟨ts, e1, e2⟩ := Option.bind_eq_some_iff.mp e'
    obtain ⟨a, vs, rfl, h1, h2⟩ := rep_lst sr r e1
    cases repL_bools e2 h2
    exact cr_all hc pins s σ H _ us Q I rs ⟨a, bs, rfl, .of h1, q _ rfl⟩
theorem bi_any (hc : X.calm = true) : CallR X (.builtin "any") (rB X.K at_ (biE .any)) := by
  refine rB_one (fun st ts h => ?_) fun pins s σ H x us Q ρ st t Z I rs sr r o => ?_
  · match ts, h with
    | [], _ => rfl
    | [t], h => exact absurd rfl (h t)
    | _ :: _ :: _, _ => simp only [biE]
  · simp only [biE] at o
    obtain ⟨u, e, q⟩ := o.ofSome sr
    obtain ⟨bs, e', rfl⟩ := Option.map_eq_some_iff.mp e
    obtain ⟨ts, e1, e2⟩ := Option.bind_eq_some_iff.mp e'
    obtain ⟨a, vs, rfl, h1, h2⟩ := rep_lst sr r e1
    cases repL_bools e2 h2
    exact cr_any hc pins s σ H _ us Q I rs ⟨a, bs, rfl, .of h1, q _ rfl⟩
theorem bi_sum (hc : X.calm = true) : CallR X (.builtin "sum") (rB X.K at_ (biE .sum)) := by
  refine rB_one (fun st ts h => ?_) fun pins s σ H x us Q ρ st t Z I rs sr r o => ?_
  · match ts, h with
    | [], _ => rfl
    | [t], h => exact absurd rfl (h t)
    | _ :: _ :: _, _ => simp only [biE]
  · simp only [biE] at o
    obtain ⟨u, e, q⟩ := o.ofSome sr
    obtain ⟨bs, e', rfl⟩ := Option.map_eq_some_iff.mp e
    obtain ⟨ts, e1, e2⟩ := Option.bind_eq_some_iff.mp e'
    obtain ⟨a, vs, rfl, h1, h2⟩ := rep_lst sr r e1
    cases repL_ints e2 h2
    exact cr_sum hc pins s σ H _ us Q I rs ⟨a, bs, rfl, .of h1, q _ rfl⟩
theorem maxF (xs : List Int) : ∀ a : Int, (xs.foldl (fun a b => if a < b then b else a) a) ∈ a :: xs ∧ ∀ y ∈ a :: xs, y ≤ xs.foldl (fun a b => if a < b then b else a) a := by
  induction xs with
  | nil => intro a; simp
  | cons x xs ih =>
    intro a
    obtain ⟨h1, h2⟩ := ih (if a < x then x else a)
    simp only [List.foldl_cons]
    refine ⟨?_, fun y hy => ?_⟩
    · rcases List.mem_cons.mp h1 with h | h
      · rw [h]; split <;> simp
      · simp [h]
    · have h3 := h2 _ List.mem_cons_self
      rcases List.mem_cons.mp
            hy with h | h
      · exact Int.le_trans (by rw [h]; split <;> omega) h3
      · rcases List.mem_cons.mp h with h | h
        · exact Int.le_trans (by rw [h]; split <;> omega) h3
        · exact h2 y (List.mem_cons_of_mem _ h)
theorem minF (xs : List Int) : ∀ a : Int, (xs.foldl (fun a b => if b < a then b else a) a) ∈ a :: xs ∧ ∀ y ∈ a :: xs, xs.foldl (fun a b => if b < a then b else a) a ≤ y := by
  induction xs with
  | nil => intro a; simp
  | cons x xs ih =>
    intro a
    obtain ⟨h1, h2⟩ := ih (if x < a then x else a)
    simp only [List.foldl_cons]
    refine ⟨?_, fun y hy => ?_⟩
    · rcases List.mem_cons.mp h1 with h | h
      · rw [h]; split <;> simp
      · simp [h]
    · have h3 := h2 _ List.mem_cons_self
      rcases List.mem_cons.mp
            hy with h | h
      · exact Int.le_trans h3 (by rw [h]; split <;> omega)
      · rcases List.mem_cons.mp h with h | h
        · exact Int.le_trans h3 (by rw [h]; split <;> omega)
        · exact h2 y (List.mem_cons_of_mem _ h)
theorem reads_ints {h : Heap} : ∀ {its : List Value} {ns : List Int}, IntsAre its ns → ReadsAll h its (ns.map PyData.int) []
  | _, _, .nil => .nil
  | _, _, .cons n t r => .cons (as := []) (bs := []) (.int n t) (reads_ints r)
theorem alike_all (ns : List Int) : PySem.W.AlikeAll (ns.map PyData.int) := by
  refine ⟨fun x hx y hy => ?_, fun x hx => ?_⟩
  · obtain ⟨a, _, rfl⟩ := List.mem_map.mp hx
    obtain ⟨b, _, rfl⟩
          := List.mem_map.mp hy
    rfl
  · obtain ⟨a, _, rfl⟩ := List.mem_map.mp hx
    intro z
    cases z
theorem depth_ints : ∀ ns : List Int, PyData.depthAll (ns.map PyData.int) = 0
  | [] => rfl
  | n :: ns => by
    have e : PyData.depthAll (PyData.int n :: ns.map PyData.int) = max (PyData.int n).depth (PyData.depthAll (ns.map PyData.int)) := rfl
    rw [List.map_cons, e, depth_ints ns]
    rfl
theorem fold_max : ∀ (ns : List Int) (n : Int), ns.foldl max n = ns.foldl (fun a b => if a < b then b else a) n
  | [], _ => rfl
  | k :: ns, n => by
    rw [List.foldl_cons, List.foldl_cons, fold_max ns]
    congr 1
    show (if n ≤ k then k else n) = _
    split <;> split <;> omega
theorem bi_max1 (hc : X.calm = true) (hu : X.A.units + 130 < cLine) : CallR X (.builtin "max") (rB X.K at_ (biE .max1)) := by
  refine rB_one (fun st ts h => ?_) fun pins s σ H x us Q ρ st t Z I rs sr r o => ?_
  · match ts, h with
    | [], _ => rfl
    | [t], h => exact absurd rfl (h t)
    | _ :: _ :: _, _ => simp only [biE]
  · simp only [biE] at o
    obtain ⟨u, e, q⟩ := o.ofSome sr
    obtain ⟨ns, e, e3⟩ := Option.bind_eq_some_iff.mp e
    obtain ⟨ts, e1, e2⟩ := Option.bind_eq_some_iff.mp e
    by_cases ht : ∃ us, t = .tup us
    · obtain ⟨us', rfl⟩ := ht
      cases e1
      obtain ⟨a, vs, rfl, h1, h2⟩ := r
      cases repL_ints e2 h2
      obtain ⟨its, r1, p1, hz⟩ := I.tuple h1.seq
      rw [Vals.ref1 rs]
      cases ns with
      | nil => cases e3
      | cons n ns =>
        cases e3
        refine PySem.W.max_tuple_data (x := .int n) (xs := ns.map .int) (I.ok.hd hc) p1 (by simpa using reads_ints r1.ints) (alike_all (n :: ns)) ?_ fun i v h' tk bs _ hr hk => ?_
        · have := depth_ints (n :: ns)
          rw [show PyData.depthAll (PyData.int n :: ns.map PyData.int) = 0 from this]
          omega
        · rw [PySem.W.maxD_ints, fold_max] at hr
          cases hr
          exact ⟨.int _, H, I.kept hk, ⟨_, rfl⟩, q _ rfl⟩
    · have e1 : lstOf st t = some ts := by
        cases t with
        | tup us => exact absurd ⟨us, rfl⟩ ht
        | _ => exact e1
      obtain ⟨a, vs, rfl, h1, h2⟩ := rep_lst sr r e1
      cases repL_ints e2 h2
      cases ns with
      | nil => cases e3
      | cons n ns =>
        cases e3
        refine cr_max hc pins s σ H _ us Q I rs ⟨a, n :: ns, rfl, .of h1, by simp, fun m hm hy => ?_⟩
        obtain ⟨g1, g2⟩ := maxF ns n
        have e : m = ns.foldl (fun a b => if a < b then b else a) n := Int.le_antisymm (g2 m hm) (hy _ g1)
        rw [e]
        exact q _ rfl
theorem bi_min1 (hc : X.calm = true) : CallR X (.builtin "min") (rB X.K at_ (biE .min1)) := by
  refine rB_one (fun st ts h => ?_) fun pins s σ H x us Q ρ st t Z I rs sr r o => ?_
  · match ts, h with
    | [], _ => rfl
    | [t], h => exact absurd rfl (h t)
    | _ :: _ :: _, _ => simp only [biE]
  · simp only [biE] at o
    obtain ⟨u, e, q⟩ := o.ofSome sr
    obtain ⟨ns, e, e3⟩ := Option.bind_eq_some_iff.mp e
    obtain ⟨ts, e1, e2⟩ := Option.bind_eq_some_iff.mp e
    obtain ⟨a, vs, rfl, h1, h2⟩ := rep_lst sr r e1
    cases repL_ints e2 h2
    cases ns with
    | nil => cases e3
    | cons n ns =>
      cases e3
      refine cr_min hc pins s σ H _ us Q I rs ⟨a, n :: ns, rfl, .of h1, by simp, fun m hm hy => ?_⟩
      obtain ⟨g1, g2⟩ := minF ns n
      have e : m = ns.foldl (fun a b => if b < a then b else a) n := Int.le_antisymm (hy _ g1) (g2 m hm)
      rw [e]
      exact q _ rfl
theorem bi_int : CallR X (.type "int") (rB X.K at_ (biE .int)) := by
  refine rB_one (fun st ts h => ?_) fun pins s σ H x us Q ρ st t Z I rs sr r o => ?_
  · match ts, h with
    | [], _ => rfl
    | [t], h => exact absurd rfl (h t)
    | _ :: _ :: _, _ => simp only [biE]
  · cases t <;> simp only [biE] at o <;> first | exact o.elim | skip
    · cases r
      exact call_int1 pins s σ H _ us Q I rs (.inr ⟨_, rfl, fin_val o sr rfl⟩)
    · cases r
      exact call_int1 pins s σ H _ us Q I rs (.inl ⟨_, rfl, fin_val o sr rfl⟩)
theorem bi_len : CallR X (.builtin "len") (rB X.K at_ (biE .len)) := by
  refine rB_one (fun st ts h => ?_) fun pins s σ H x us Q ρ st t Z I rs sr r o => ?_
  · match ts, h with
    | [], _ => rfl
    | [t], h => exact absurd rfl (h t)
    | _ :: _ :: _, _ => simp only [biE]
  · simp only [biE] at o
    obtain ⟨u, e, q⟩ := o.ofSome sr
    obtain ⟨n, e, rfl⟩ := Option.map_eq_some_iff.mp e
    have q := q _ rfl
    have seq : ∀ {ts : List T}, seqOf st t = some ts → n = ts.length → wpAny (model X.prog X.w) X.A (call (.builtin "len") us) (EP X pins σ Q) X.xe s := fun {ts} e1 e2 => by
      obtain ⟨a, vs, rfl, h1, h2, _⟩ := rep_seq sr r e1
      refine call_len_seq pins s σ H _ us Q I rs ⟨a, vs, rfl, h1.imp id PlT.seq, ?_⟩
      rw [← h2.length, ← e2]
      exact q
    have dic : ∀ {kvs : List (T × T)}, dctOf st t = some kvs → n = kvs.length → wpAny (model X.prog X.w) X.A (call (.builtin "len") us) (EP X pins σ Q) X.xe s := fun {kvs} e1 e2 => by
      obtain ⟨a, ks, rfl, h1, h2⟩ := rep_dct sr r e1
      rw [Vals.ref1 rs]
      refine d_len I h1 fun t s' I' => ⟨.int n, H, I', ⟨t, ?_⟩, q⟩
      rw [e2, repP_length h2]
    cases t with
    | str z =>
      simp only [lenE] at e
      split at e
      · rename_i hz
        cases e; cases r
        exact call_len_str pins s σ H _ us Q I rs ⟨z, rfl, by rw [← big_line]; exact hz, q⟩
      · cases e
    | tup ts => cases e; exact seq rfl rfl
    | lst ts => cases e; exact seq rfl rfl
    | scr ts => cases e; exact seq rfl (by simp)
    | dct kvs => cases e; exact dic rfl rfl
    | loc l =>
      simp only [lenE] at e
      split at e
      · rename_i ts h; cases e; exact seq (by simp only [seqOf, h]) rfl
      · rename_i ts h; cases e; exact dic (by simp only [dctOf, h]) rfl
      · rename_i ts h; cases e; exact dic (by simp only [dctOf, h]) rfl
      · cases e
    | _ => cases e
theorem bi_list (fz : Bool) : CallR X (.type "list") (rB X.K at_ (biE (.list fz))) := by
  refine rB_one (fun st ts h => ?_) fun pins s σ H x us Q ρ st t Z I rs sr r o => ?_
  · match ts, h with
    | [], _ => rfl
    | [t], h => exact absurd rfl (h t)
    | _ :: _ :: _, _ => simp only [biE]
  · simp only [biE] at o
    cases e : seqOf st t with
    | none => rw [e] at o; exact o.elim
    | some ts =>
      rw [e] at o
      obtain ⟨a, vs, rfl, h1, h2, _⟩ := rep_seq sr r e
      exact call_list_of pins s σ H _ us Q I rs ⟨a, vs, rfl, h1.imp id PlT.seq, fun l hl => fin_lst o sr h2 hl⟩
/-- tuple(l) -/
theorem tup_list {pins : List (Addr × Obj)} {s : Shared} {σ : L2.St} {H : Hp} {a : Addr} {ys : List V} {us : List Value} {Q : VK} (I : Inv X pins σ H s) (rs : Vals [.ref a] us) (h : SqL X.K H a ys)
    (q : ∀ p ob, H p = none → ob.dict = none → Q (.ref p) (upd H p (.frz ob (.tup ys)))) : wpAny (model X.prog X.w) X.A (call (.type "tuple") us) (EP X pins σ Q) X.xe s := by
  rw [Vals.ref1 rs]
  obtain ⟨its, r', pl, hz⟩ := I.list h
  have hlen := r'.length
  refine call_tuple_list pl.isList (fun h' kp => ?_)
        (by simp only [List.size_toArray] <;> omega)
  have I1 : Inv X pins σ H { s with heap := h' }
        := I.kept (t' := s.toks) kp
  exact ⟨.ref h'.objs.size, _, Inv_newT (t' := s.toks) (n := 0) I1 (fun b o e => Heap.get?_push_of_some _ e) (Nat.le_refl _) (Heap.get?_push_size _ rfl) rfl rfl r' hz, rfl, q _ _ (I1.hok.fresh (Nat.le_refl _)) rfl⟩
end
end Lw
set_option Elab.async false
set_option linter.all false
set_option maxRecDepth 100000
set_option
      maxHeartbeats 4000000
/-! LwU: sorted of pairs of a key and an int. -/
namespace Lw
open PySem PySem.Spec L2 PyProof.Rows
/-! ### the order -/
theorem str_eq {a b : Str} (h : a.cps.toList = b.cps.toList) : a = b := by
  cases a; cases b
  simp only [Array.toList_inj] at h
  rw [h]
theorem ltKey_irr (k : Key) : ltKey k k = false := by
  cases k with
  | inl a => exact decide_eq_false (Int.lt_irrefl a)
  | inr a => exact decide_eq_false (List.lt_irrefl _)
theorem ltKey_as {k q : Key} (h : ltKey k q = true) : ltKey q k = false := by
  cases k <;> cases q <;> simp only [ltKey, decide_eq_true_eq, decide_eq_false_iff_not] at h ⊢
  · omega
  · exact absurd h (by decide)
  · exact List.lt_asymm h
theorem ltKey_tri {k q : Key} (h1 : ltKey k q = false) (h2 : ltKey q k = false) : k = q := by
  cases k <;> cases q <;> simp only [ltKey, decide_eq_false_iff_not] at h1 h2
  · congr 1; omega
  · cases h1
  · cases h2
  · congr 1; exact str_eq (List.le_antisymm (List.not_lt.mp h2) (List.not_lt.mp h1))
theorem ltKey_tr {x y z : Key} (h1 : ltKey y x = false) (h2 : ltKey z y = false) : ltKey z x = false := by
  cases x with
  | inl x =>
    cases y with
    | inl y =>
      cases z with
      | inl z =>
        have h1 := of_decide_eq_false (show decide (y < x) = false from h1)
        have h2 := of_decide_eq_false (show decide (z < y) = false from h2)
        exact
              decide_eq_false (by omega)
      | inr z => rfl
    | inr y =>
      cases z with
      | inl z => cases (show true = false from h2)
      | inr z => rfl
  | inr x =>
    cases y with
    | inl y => cases (show true = false from h1)
    | inr y =>
      cases z with
      | inl z => cases (show true = false from h2)
      | inr z =>
        have h1 := List.not_lt.mp (of_decide_eq_false (show decide (y.cps.toList < x.cps.toList) = false from h1))
        have h2 := List.not_lt.mp (of_decide_eq_false (show decide (z.cps.toList < y.cps.toList) = false from h2))
        exact decide_eq_false (List.not_lt.mpr (List.le_trans h1 h2))
theorem ltKP_iff {p q : Key × Int} : ltKP p q = true ↔ ltKey p.1 q.1 = true ∨ (p.1 = q.1 ∧ p.2 < q.2) := by
  unfold ltKP
  by_cases h : p.1 = q.1
  · rw [if_pos h, decide_eq_true_eq, h, ltKey_irr]
    simp
  · rw [if_neg h]
    simp [h]
theorem ltKP_no {p q : Key × Int} : ltKP p q = false ↔ ltKey p.1 q.1 = false ∧ (p.1 = q.1 → ¬ p.2 < q.2) := by
  rw [← Bool.not_eq_true, ltKP_iff]
  simp [not_or]
theorem ltKP_as {p q : Key × Int} (h : ltKP p q = true) : ltKP q p = false := by
  rcases ltKP_iff.mp h with h | ⟨h1, h2⟩
  · exact ltKP_no.mpr ⟨ltKey_as h, fun e => by rw [e, ltKey_irr] at h; cases h⟩
  · exact ltKP_no.mpr ⟨by rw [h1]; exact ltKey_irr _, fun _ => by omega⟩
theorem ltKP_tri {p q : Key × Int} (h1 : ltKP p q = false) (h2 : ltKP q p = false) : p = q := by
  obtain ⟨a1, a2⟩ := ltKP_no.mp h1
  obtain ⟨b1, b2⟩ := ltKP_no.mp h2
  have e := ltKey_tri a1 b1
  have := a2 e
  have := b2 e.symm
  exact Prod.ext e (by omega)
theorem ltKP_tr {x y z : Key × Int} (h1 : ltKP y x = false) (h2 : ltKP z y = false) : ltKP z x = false := by
  obtain ⟨a1, a2⟩ := ltKP_no.mp h1
  obtain ⟨b1, b2⟩ := ltKP_no.mp h2
  refine ltKP_no.mpr ⟨ltKey_tr a1 b1, fun e => ?_⟩
  have h3 : ltKey x.1 y.1 = false := by rw [← e]; exact b1
  have e2 : y.1 = x.1 := ltKey_tri a1 h3
  have := a2 e2
  have := b2 (e.trans e2.symm)
  omega
/-- sorted: nothing behind is less -/
abbrev SrP (l : List (Key × Int)) : Prop := l.Pairwise fun p q => ltKP q p = false
theorem insP_perm (p : Key × Int) : ∀ l, (insP p l).Perm (p :: l)
  | [] => List.Perm.refl _
  | q :: r => by
    unfold insP
    split
    · exact ((insP_perm p r).cons q).trans (List.Perm.swap p q r)
    · exact List.Perm.refl _
theorem insP_sr {p : Key × Int} : ∀ {l}, SrP l → SrP (insP p l)
  | [], _ => List.pairwise_singleton _ _
  | q :: r, h => by
    obtain ⟨h1, h2⟩ :=
          List.pairwise_cons.mp h
    unfold insP
    split
    · rename_i hq
      refine List.pairwise_cons.mpr ⟨fun y hy => ?_, insP_sr h2⟩
      rcases List.mem_cons.mp ((insP_perm p r).mem_iff.mp hy) with rfl | hy
      · exact ltKP_as hq
      · exact h1 y hy
    · rename_i hq
      have hq : ltKP q p = false := by simpa using hq
      refine List.pairwise_cons.mpr ⟨fun y hy => ?_, h⟩
      rcases List.mem_cons.mp
            hy with rfl | hy
      · exact hq
      · exact ltKP_tr hq (h1 y hy)
theorem sortP_perm : ∀ l, (sortP l).Perm l
  | [] => List.Perm.refl _
  | p :: r => (insP_perm p _).trans ((sortP_perm r).cons p)
theorem sortP_sr : ∀ l, SrP (sortP l)
  | [] => List.Pairwise.nil
  | p :: r => insP_sr (sortP_sr r)
theorem srP_uniq : ∀ {l m : List (Key × Int)}, SrP l → SrP m → l.Perm m → l = m
  | [], m, _, _, h => (List.Perm.eq_nil h.symm).symm
  | x :: l, [], _, _, h => absurd h.length_eq (by simp)
  | x :: l, y ::
        m, hl, hm, h => by
    obtain ⟨a1, a2⟩ := List.pairwise_cons.mp hl
    obtain ⟨b1, b2⟩ := List.pairwise_cons.mp hm
    have e : x = y := by
      rcases List.mem_cons.mp (h.mem_iff.mp List.mem_cons_self) with e | hx
      · exact e
      · rcases List.mem_cons.mp (h.mem_iff.mpr (List.mem_cons_self (a := y) (l := m))) with e | hy
        · exact e.symm
        · exact ltKP_tri (b1 x hx |> fun z => z) (a1 y hy) |> fun z => by first | exact z | exact z.symm
    subst e
    rw [srP_uniq a2 b2 h.cons_inv]

/-! ### pairs in the heap -/
def KeyV : Key → Value → Prop
  | .inl i, v => ∃ t, v = .int i t
  | .inr s, v => ∃ t, v = .str s t
def IsKP (h : Heap) (v : Value) (p : Key × Int) : Prop := ∃ a o x u n, v = .ref a ∧ h.get? a = some o ∧ o.cls = .type "tuple" ∧ o.data = .seq #[x, .int p.2 u] n ∧ KeyV p.1 x
theorem IsKP.keeps {h h' : Heap} {v : Value} {p : Key × Int} (z : IsKP h v p) (k : ∀ b o, h.get? b = some o → o.cls = .type "tuple" → h'.get? b = some o) : IsKP h' v p := by
  obtain ⟨a, o, x, u, n, e, ho, hc, hd, hk⟩ := z
  exact ⟨a, o, x, u, n, e, k _ _ ho hc, hc, hd, hk⟩
/-- what a pair's object tells -/
def readKP (h : Heap) : Value → Key × Int
  | .ref a => match
        h.get? a with
    | some o => match o.data with
      | .seq its _ => match its.toList with
        | [.int i _, .int y _] => (.inl i, y)
        | [.str s _, .int y _] => (.inr s, y)
        | _ => (.inl 0, 0)
      | _ => (.inl 0, 0)
    | none => (.inl 0, 0)
  | _ => (.inl 0, 0)
theorem readKP_is {h : Heap} {v : Value} {p : Key × Int} (z : IsKP h v p) : readKP h v = p := by
  obtain ⟨a, o, x, u, n, rfl, ho, hc, hd, hk⟩ := z
  obtain ⟨q, y⟩ := p
  cases q with
  | inl i => obtain ⟨t, rfl⟩ := hk; simp only [readKP, ho, hd]
  | inr s => obtain ⟨t, rfl⟩ := hk; simp only [readKP, ho, hd]
section
variable {prog : Program}
      {w : World} {A : Around} {s : Shared}
theorem kp_cmp {vs : List Value} {k : Value → Key × Int} {b : Bool} (hp : ∀ v ∈ vs, IsKP s.heap v (k v)) (hb : ∀ v ∈ vs, kindK (k v).1 = b) : SrtO.Cmp prog w A s (tuples' true) (fun p => p.1 ∈ vs) (SrtO.lt2 fun v u => ltKP (k v) (k u)) := by
  intro p q hm hm'
  have h1 := hp _ hm
  have h2 := hp _ hm'
  have k1 := hb _ hm
  have k2 := hb _ hm'
  show wpAny (model prog w) A (keyLt' (tuples' true) p.1 q.1) (fun r s' => s' = s ∧ r = ltKP (k p.1) (k q.1)) (fun _ _ => False) s
  generalize k p.1 = P at h1 k1 ⊢
  generalize k q.1 = P' at h2 k2 ⊢
  obtain ⟨x, y⟩ := P
  obtain ⟨x', y'⟩ := P'
  obtain ⟨a, o, e1, u, n, e, ho, hc, hd, hk⟩ := h1
  obtain ⟨a', o', e1', u', n', e', ho', hc', hd', hk'⟩ := h2
  simp only at hd hd' hk hk' k1 k2
  rw [e, e']
  -- the seconds
  have second : ∀ (hx : x = x') (Q : Bool → Shared → Prop), Q (decide (y < y')) s → PySem.W.KatLex prog w A true (decide (2 < 2)) Q [(.int y u, .int y' u')] 1 s := fun hx Q hq => by
    refine PySem.W.kat_cons (SeqAt.EqAt.int_int y u y' u' prog w _ _ ?_)
    refine PySem.W.kat_go
          (fun e2 => ?_) (fun e2 => ?_)
    · have ey
            : y = y' := by simpa using e2
      subst ey
      rw [decide_eq_false (Int.lt_irrefl y)] at hq
      exact PySem.W.kat_yes (PySem.W.kat_nil hq)
    · exact PySem.W.kat_no (PySem.W.kat_one _ _ (PyProof.Rows.lt_int hq))
  refine PySem.W.kat_lt
        ho hd ho' hd' ?_
  show PySem.W.KatLex prog w A true (decide (2 < 2)) _ [(e1, e1'), (.int y u, .int y' u')] 0 s
  cases x with
  | inl i =>
    cases x' with
    | inr i' => rw [← k1] at k2; cases k2
    | inl i' =>
      obtain ⟨t, rfl⟩ := hk
      obtain ⟨t', rfl⟩ := hk'
      refine PySem.W.kat_cons (SeqAt.EqAt.int_int i t i' t' prog w _ _ ?_)
      refine PySem.W.kat_go
            (fun e2 => ?_) (fun e2 => ?_)
      · have ex : i = i' := by simpa using e2
        subst ex
        refine PySem.W.kat_yes (second rfl _ ⟨rfl, ?_⟩)
        simp [ltKP]
      · have ex : ¬ i = i' := by simpa using e2
        refine PySem.W.kat_no (oneLt_int ⟨rfl, ?_⟩)
        simp [ltKP, ltKey, ex]
  | inr i =>
    cases x' with
    | inl i' => rw [← k1] at k2; cases k2
    | inr i' =>
      obtain ⟨t, rfl⟩ := hk
      obtain ⟨t', rfl⟩ := hk'
      refine PySem.W.kat_cons (SeqAt.EqAt.str_str i t i' t' prog w _ _ ?_)
      refine PySem.W.kat_go
            (fun e2 => ?_) (fun e2 => ?_)
      · have ex : i = i' := by simpa using e2
        subst ex
        refine PySem.W.kat_yes (second rfl _ ⟨rfl, ?_⟩)
        simp [ltKP]
      · have ex : ¬ i = i' := by simpa using e2
        refine PySem.W.kat_no (oneLt_str ⟨rfl, ?_⟩)
        simp [ltKP, ltKey, ex]
theorem kp_firsts {h : Heap} : ∀ {vs : List Value} {b : Bool}, (∀ v ∈ vs, ∃ p, IsKP h v p ∧ kindK p.1 = b) → ∃ fs : List Value, PySem.W.KatTups h vs fs ∧ fs.length = vs.length ∧ ∀ f ∈ fs, (b = true → ∃ x t, f = Value.int x t) ∧ (b = false → ∃ x t, f = Value.str x t)
  | [], _, _ => ⟨[], PySem.W.KatTups.nil, rfl, fun _ hm => by simp at hm⟩
  | v :: vs, b, hp => by
    obtain ⟨fs, h1, h2, h3⟩ := kp_firsts (vs := vs) (b := b) fun v' hm => hp v' (List.mem_cons_of_mem _ hm)
    obtain ⟨⟨q, y⟩, ⟨a, o, x, u, n, rfl, ho, hc, hd, hk⟩, hb⟩ := hp v List.mem_cons_self
    refine ⟨x :: fs, PySem.W.KatTups.cons ho hc hd rfl h1, by simp [h2], fun f hm => ?_⟩
    rcases List.mem_cons.mp
          hm with rfl | hm
    · cases q with
      | inl i => obtain ⟨t, e⟩ := hk; exact ⟨fun _ => ⟨i, t, e⟩, fun z => by rw [← hb] at z; cases z⟩
      | inr i => obtain ⟨t, e⟩ := hk; exact ⟨(fun z => by rw [← hb] at z; cases z), fun _ => ⟨i, t, e⟩⟩
    · exact h3 f hm
theorem kp_sortable {a : Addr} {vs : List Value} {k : Value → Key × Int} {b : Bool} (h0 : 0 < vs.length) (hp : ∀ v ∈ vs, IsKP s.heap v (k v)) (hb : ∀ v ∈ vs, kindK (k v).1 = b) (ha : ∀ o, s.heap.get? a = some o → o.cls ≠ .type "tuple") :
    SrtO.SortableO prog w A s a vs fun v u => ltKP (k v) (k u) := by
  intro h' keep
  have hp' : ∀ v ∈ vs, IsKP h' v (k v) := fun v hm => (hp v hm).keeps fun b o e c => keep b o (fun z => by subst z; exact ha o e c) e
  obtain ⟨fs, h1, h2, h3⟩ := kp_firsts (b := b) fun v hm => ⟨_, hp' v hm, hb v hm⟩
  refine ⟨tuples' true, fun Q E hq => ?_, kp_cmp hp' hb⟩
  cases b with
  | true =>
    refine PySem.W.kat_kind (T := .type "int")
          h1 (by omega) (fun f hm => ?_) (by rfl) ?_
    · obtain ⟨x, t, rfl⟩ := (h3 f hm).1 rfl
      exact PySem.W.Looks.now
    · have e : (Value.type "int" != Value.type "tuple") = true := by decide
      rw [e]
      exact hq
  | false =>
    refine PySem.W.kat_kind (T := .type "str") h1 (by omega) (fun f hm => ?_) (by rfl) ?_
    · obtain ⟨x, t, rfl⟩ := (h3 f hm).2 rfl
      exact PySem.W.Looks.now
    · have e : (Value.type "str" != Value.type "tuple") = true := by decide
      rw [e]
      exact hq
end
/-! ### as a rule -/
inductive PrsRep (K : PySem.W.Frag) (H : Hp) : List V → List (Key × Int) → Prop
  | nil : PrsRep K H [] []
  | cons {t p xs ps} : PlT K H t [kV p.1, .int p.2] → PrsRep K H xs ps → PrsRep K H (.ref t :: xs) (p :: ps)
section
variable {X : Cx} {pins : List (Addr × Obj)}
      {σ : L2.St} {H : Hp} {s : Shared}
theorem kp_of (I : Inv X pins σ H s) {t : Addr} {p : Key × Int} (h : PlT X.K H t [kV p.1, .int p.2]) : IsKP s.heap (.ref t) p := by
  obtain ⟨its, o, n, r, ho, hc, _, hd, _⟩ := Inv_plT I h
  cases r with
  | cons r1 rr =>
    cases rr with
    | cons r2 rn =>
      cases rn
      obtain ⟨u, rfl⟩ := r2
      refine ⟨t, o, _, u, n, rfl, ho, hc, hd, ?_⟩
      obtain ⟨q, y⟩ := p
      cases q with
      | inl i => exact r1
      | inr i => exact r1
theorem prs_its (I : Inv X pins σ H s) : ∀ {xs : List V} {ps : List (Key × Int)} {its : List Value}, PrsRep X.K H xs ps → Vals xs its → its.map (readKP s.heap) = ps ∧ ∀ v ∈ its, ∃ t, v = .ref t ∧ PlT X.K H t [kV (readKP s.heap v).1, .int (readKP s.heap v).2]
  | _, _, _, .nil, r => by cases r; exact ⟨rfl, fun v hv => by cases hv⟩
  | _, _, _, .cons (t := t) (p := p) h hr, r => by
    cases r with
    | cons r1 rr =>
      cases r1
      obtain ⟨e, q⟩ := prs_its I hr rr
      have e1 : readKP s.heap (.ref t) = p := readKP_is (kp_of I h)
      refine ⟨by rw [List.map_cons, e, e1], fun v hv => ?_⟩
      rcases List.mem_cons.mp
            hv with rfl | hv
      · exact ⟨t, rfl, by rw [e1]; exact h⟩
      · exact q v hv
def toVr : Value → V
  | .ref a => .ref a
  | _ => .non
theorem vals_toVr : ∀ {us : List Value}, (∀ v ∈ us, ∃ t : Addr, v = .ref t) → Vals (us.map toVr) us
  | [], _ => .nil
  | u :: us, h => by
    obtain ⟨t, rfl⟩ := h u List.mem_cons_self
    exact .cons rfl (vals_toVr fun v hv => h v (List.mem_cons_of_mem _ hv))
theorem prs_out {K : PySem.W.Frag} {g : Value → Key × Int} : ∀ {us : List Value}, (∀ v ∈ us, ∃ t, v = .ref t ∧ PlT K H t [kV (g v).1, .int (g v).2]) → PrsRep K H (us.map toVr) (us.map g)
  | [], _ => .nil
  | u :: us, h => by
    obtain ⟨t, rfl, q⟩ := h u List.mem_cons_self
    exact .cons q (prs_out fun v hv => h v (List.mem_cons_of_mem _ hv))
def rSortKP (K : PySem.W.Frag) : List V → Hp → VK → Prop := fun vs H Q => ∃ (a : Addr) (xs : List V) (ps : List (Key × Int)), vs = [.ref a] ∧ SqL K H a xs ∧ PrsRep K H xs ps ∧ sameK ps = true ∧
  ∀ ys p, PrsRep K H ys (sortP ps) → H p = none → Q (.ref p) (upd H p (.lst ys))
theorem cr_sortedKP : CallR X (.builtin "sorted") (rSortKP X.K) := by
  intro pins s σ
        H vs us Q I r h
  obtain ⟨a, xs, ps, rfl, hs, hp, hk, q⟩ := h
  obtain ⟨its, rv, hl, hz⟩
        := I.list hs
  rw [Vals.ref1 r]
  obtain ⟨em, hm⟩ := prs_its I hp rv
  have hkp : ∀ v ∈ its, IsKP s.heap v (readKP s.heap v) := fun v hv => by
    obtain ⟨t, e, h⟩ := hm v hv
    have z := kp_of I h
    rw [← e] at z
    exact z
  have hb : ∃ b, ∀ v ∈ its, kindK (readKP s.heap v).1 = b := by
    unfold sameK at hk
    rcases Bool.or_eq_true_iff.mp hk with hk | hk
    · exact ⟨true, fun v hv => List.all_eq_true.mp hk _ (em ▸ List.mem_map.mpr ⟨v, hv, rfl⟩)⟩
    · refine ⟨false, fun v hv => ?_⟩
      have := List.all_eq_true.mp hk _ (em ▸ List.mem_map.mpr ⟨v, hv, rfl⟩)
      simpa using this
  obtain ⟨b, hb⟩ := hb
  have O : SrtO.Swo fun v u : Value => ltKP (readKP s.heap v) (readKP s.heap u) := ⟨fun x y h => ltKP_as h, fun x y z h1 h2 => ltKP_tr h1 h2⟩
  refine SrtO.sorted_ord O hl.isList (by rw [← rv.length]; exact hz) (fun h2 h₁ a' ha kk => ?_) fun out h1 h2 => ?_
  · refine kp_sortable (s := { s with heap := h₁ }) (b := b) (by omega) (fun v hv => (hkp v hv).keeps fun b o e _ => (kk b o e).2) hb fun o e => ?_
    have e' : some o = some (seqObj "list" its.toArray 0) := e.symm.trans ha
    cases e'
    intro c
    exact absurd
          (Value.type.inj c) (by decide)
  · obtain ⟨ep, he'⟩ := PyProof.Rows.sortedAll_at s.heap its out.toArray
    have ho : ∀ v ∈ out, v ∈ its := fun v hv => h2.perm.mem_iff.mp hv
    have e2 : out.map (readKP s.heap) = sortP ps := by
      refine srP_uniq (List.pairwise_map.mpr h1) (sortP_sr ps) ?_
      refine (h2.perm.map (readKP s.heap)).trans ?_
      rw [em]
      exact (sortP_perm ps).symm
    have hy := prs_out (g := readKP s.heap) fun v hv => hm v (ho v hv)
    rw [e2] at hy
    have hv : Vals (out.map toVr) out := vals_toVr fun v hv => by
      obtain ⟨t, e, _⟩ := hm v (ho v hv)
      exact ⟨t, e⟩
    have hlen : (out.map toVr).length ≤ sizeLine := by
      rw [List.length_map, h2.perm.length_eq, ← rv.length]
      exact hz
    exact ⟨.ref _, upd H (s.heap.objs.size + 1) (.lst (out.map toVr)), I.laid (t' := s.toks) (fun _ _ => PyProof.Rows.sortedAll_old) (Nat.le_succ _) ⟨hlen, out, ep, hv, he'⟩, rfl, q _ _ hy (I.hok.fresh (Nat.le_succ _))⟩
end
/-! ### by the evaluator -/
theorem prs_rep {K : PySem.W.Frag} {at_ : At} {ρ : Pl} {H : Hp} : ∀ {ts : List T} {ps : List (Key × Int)} {vs : List V}, prsOf ts = some ps → RepL K at_ ρ H ts vs → PrsRep K H vs ps
  | [], ps, vs, e, r => by cases e; cases r; exact .nil
  | t :: ts, ps, vs, e, r => by
    unfold prsOf at e
    split at e
    · rename_i he; cases he
    · rename_i k v r' he
      cases he
      split at e
      · rename_i q ps' e1 e2
        cases e
        obtain ⟨x, xs, rfl, rx, rr⟩ := r
        obtain ⟨a, us, rfl, hpl, h2⟩ := rx
        obtain ⟨y, z, rfl, ry, rz⟩ := h2.two
        cases rz
        have ey : y = kV q := by
          cases k <;> simp only [keyT] at e1 <;> cases e1 <;> exact ry
        subst ey
        exact .cons hpl (prs_rep e2 rr)
      · cases e
    · cases e
theorem prs_back {K : PySem.W.Frag} {at_ : At} {ρ : Pl} {H : Hp} : ∀ {ps : List (Key × Int)} {vs : List V}, PrsRep K H vs ps → RepL K at_ ρ H (ps.map prT) vs
  | _, _, .nil => rfl
  | _, _, .cons (p := p) h hr => by
    refine ⟨_, _, rfl, ⟨_, _, rfl, h, _, _, rfl, ?_, _, _, rfl, rfl, rfl⟩, prs_back hr⟩
    obtain ⟨q, y⟩ := p
    cases q <;> rfl
/-! ### texts in a row -/
theorem insS_perm (x : Str) : ∀ l, (insS x l).Perm (x :: l)
  | [] => List.Perm.refl _
  | y :: ys => by
    unfold insS
    split
    · exact ((insS_perm x ys).cons y).trans (List.Perm.swap x y ys)
    · exact List.Perm.refl _
theorem sortS_perm : ∀ l, (sortS l).Perm l
  | [] => List.Perm.refl _
  | x :: xs => (insS_perm x _).trans ((sortS_perm xs).cons x)
abbrev SrS (l : List Str) : Prop := l.Pairwise fun p q => p.cps.toList ≤ q.cps.toList
theorem insS_sr {x : Str} : ∀ {l}, SrS l → SrS (insS x l)
  | [], _ => List.pairwise_singleton _ _
  | y :: ys, h => by
    obtain ⟨h1, h2⟩ :=
          List.pairwise_cons.mp h
    unfold insS
    split
    · rename_i hq
      have hq := of_decide_eq_true hq
      refine List.pairwise_cons.mpr ⟨fun z hz => ?_, insS_sr h2⟩
      rcases List.mem_cons.mp ((insS_perm x ys).mem_iff.mp hz) with rfl | hz
      · exact List.not_lt.mp (List.lt_asymm hq)
      · exact h1 z hz
    · rename_i hq
      have hq := List.not_lt.mp (of_decide_eq_false ((Bool.not_eq_true _).mp hq))
      refine List.pairwise_cons.mpr ⟨fun z hz => ?_, h⟩
      rcases List.mem_cons.mp
            hz with rfl | hz
      · exact hq
      · exact List.le_trans hq (h1 z hz)
theorem sortS_sr : ∀ l, SrS (sortS l)
  | [] => List.Pairwise.nil
  | x :: xs => insS_sr (sortS_sr xs)
theorem srS_uniq : ∀ {l m : List Str}, SrS l → SrS m → l.Perm m → l = m
  | [], m, _, _, h => (List.Perm.eq_nil h.symm).symm
  | x :: l, [], _, _, h => absurd h.length_eq (by simp)
  | x :: l, y ::
        m, hl, hm, h => by
    obtain ⟨a1, a2⟩ := List.pairwise_cons.mp hl
    obtain ⟨b1, b2⟩ := List.pairwise_cons.mp hm
    have e : x = y := by
      rcases List.mem_cons.mp (h.mem_iff.mp List.mem_cons_self) with e | hx
      · exact e
      · rcases List.mem_cons.mp (h.mem_iff.mpr (List.mem_cons_self (a := y) (l := m))) with e | hy
        · exact e.symm
        · exact str_eq (List.le_antisymm (a1 y hy) (b1 x hx))
    subst e
    rw [srS_uniq a2 b2 h.cons_inv]
theorem cps_le {a b : List Nat} (h : ltCps a b = false) : b ≤ a := by
  rw [ltCps_eq] at h
  exact List.not_lt.mp (of_decide_eq_false h)
theorem sr_of_rising : ∀ {r : List Str} {p : Str}, risingS p r = true → SrS (p :: r)
  | [], p, _ => List.pairwise_singleton _ _
  | x :: r, p, h => by
    have h' : (!ltCps x.cps.toList p.cps.toList && risingS x r) = true := h
    simp only [Bool.and_eq_true, Bool.not_eq_true'] at h'
    have hx : p.cps.toList ≤ x.cps.toList := cps_le h'.1
    have ih := sr_of_rising h'.2
    refine List.pairwise_cons.mpr ⟨fun z hz => ?_, ih⟩
    rcases List.mem_cons.mp
          hz with rfl | hz
    · exact hx
    · exact List.le_trans hx ((List.pairwise_cons.mp ih).1 z hz)
theorem sortS_uniq {l m : List Str} (h : l.Perm m) (hs : sortedS l = true) : l = sortS m := by
  refine srS_uniq ?_ (sortS_sr m) (h.trans (sortS_perm m).symm)
  cases l with
  | nil => exact List.Pairwise.nil
  | cons x r => exact sr_of_rising hs
end Lw
set_option Elab.async false
set_option linter.all false
set_option maxRecDepth 100000
/-! LwJ: sorted of data that Python's < compares. -/
namespace Lw
open PySem PySem.Spec L2 PyProof.Rows
/-! ### an insertion sort is the sort -/
section
variable {α : Type} {le : α → α → Bool}
def insG (le : α → α → Bool) (x : α) : List α → List α
  | [] => [x]
  | y :: ys => if le x y then x :: y :: ys else y :: insG le x ys
def sortG (le : α → α → Bool) : List α → List α
  | [] => []
  | x :: xs => insG le x (sortG le xs)
theorem insG_mem {x z : α} : ∀ {l : List α}, z ∈ insG le x l ↔ z = x ∨ z ∈ l
  | [] => by simp [insG]
  | y :: ys => by
    unfold insG
    split
    · simp
    · rw [List.mem_cons, insG_mem (l := ys), List.mem_cons]
      constructor
      · rintro (h | h | h) <;> simp [h]
      · rintro (h | h | h) <;> simp [h]
theorem insG_sr (h : PySem.W.TotalLe le) {x : α} : ∀ {l : List α}, l.Pairwise (fun a b => le a b = true) → (insG le x l).Pairwise (fun a b => le a b = true)
  | [], _ => List.pairwise_singleton _ _
  | y :: ys, hp => by
    obtain ⟨h1, h2⟩ :=
          List.pairwise_cons.mp hp
    unfold insG
    split
    · rename_i hx
      exact List.pairwise_cons.mpr ⟨fun z hz => (List.mem_cons.mp hz).elim (fun e => e ▸ hx) fun hz => h.trans _ _ _ hx (h1 z hz), hp⟩
    · rename_i hx
      have hy : le y x = true := (h.total x y).elim (fun z => absurd z hx) id
      refine List.pairwise_cons.mpr ⟨fun z hz => ?_, insG_sr h h2⟩
      rcases insG_mem.mp hz with rfl | hz
      · exact hy
      · exact h1 z hz
theorem insG_rank (h : PySem.W.TotalLe le) (c x : α) : ∀ l : List α, (insG le x l).filter (PySem.W.sameRank le c) = (x :: l).filter (PySem.W.sameRank le c)
  | [] => rfl
  | y :: ys => by
    unfold insG
    split
    · rfl
    · rename_i hx
      rw [List.filter_cons, insG_rank h c x ys, List.filter_cons, List.filter_cons, List.filter_cons]
      by_cases hy : PySem.W.sameRank le c y = true
      · have hn : ¬ PySem.W.sameRank le c x = true := fun z => by
          unfold PySem.W.sameRank at hy z
          rw [Bool.and_eq_true] at hy z
          exact hx (h.trans _ _ _ z.2 hy.1)
        simp only [hy, hn, if_true, if_false, Bool.false_eq_true]
      · simp only [hy, if_false, Bool.false_eq_true]
theorem sortG_sr (h : PySem.W.TotalLe le) : ∀ l : List α, (sortG le l).Pairwise (fun a b => le a b = true)
  | [] => List.Pairwise.nil
  | x :: xs => insG_sr h (sortG_sr h xs)
theorem sortG_rank (h : PySem.W.TotalLe le) (c : α) : ∀ l : List α, (sortG le l).filter (PySem.W.sameRank le c) = l.filter (PySem.W.sameRank le c)
  | [] => rfl
  | x :: xs => by
    unfold sortG
    rw [insG_rank h, List.filter_cons, sortG_rank h c xs, ← List.filter_cons]
theorem sortG_merge (h : PySem.W.TotalLe le) (l : List α) : sortG le l = l.mergeSort le := PySem.W.sort_unique h (sortG_sr h l) fun c => sortG_rank h c l
end
theorem dataLe_total {β : Type} (k : β → PyData) : PySem.W.TotalLe (PySem.W.dataLe false k) := PySem.W.sortLe_total _ _ _
theorem isort_go {lt : T → T → Bool} (x : T) : ∀ l : List T, isort.go lt x l = insG (fun a b => !lt b a) x l
  | [] => rfl
  | y :: ys => by
    unfold isort.go insG
    rw [isort_go x ys]
    cases h : lt y x <;> simp
theorem isort_G {lt : T → T → Bool} : ∀ l : List T, isort lt l = sortG (fun a b => !lt b a) l
  | [] => rfl
  | x :: xs => by
    unfold isort sortG
    rw [isort_go, isort_G xs]
theorem isort_merge (ts : List T) : isort (fun x y => ltDat (dOf x) (dOf y)) ts = ts.mergeSort (PySem.W.dataLe false dOf) := by
  rw [isort_G, ← sortG_merge (dataLe_total dOf)]
  rfl
theorem insKD_G (p : T × T) : ∀ l, insKD p l = insG (fun a b => !ltDat (dOf b.1) (dOf a.1)) p l
  | [] => rfl
  | q :: r => by
    unfold insKD insG
    rw [insKD_G p r]
    cases h : ltDat (dOf q.1) (dOf p.1) <;> simp
theorem sortKD_G : ∀ l, sortKD l = sortG (fun a b => !ltDat (dOf b.1) (dOf a.1)) l
  | [] => rfl
  | p :: r => by
    unfold sortKD sortG
    rw [insKD_G, sortKD_G r]
theorem sortKD_merge (l : List (T × T)) : sortKD l = l.mergeSort (PySem.W.dataLe false fun p => dOf p.1) := by
  rw [sortKD_G, ← sortG_merge (dataLe_total _)]
  rfl
/-! ### data -/
mutual
theorem toPy_res {st : Store} : ∀ {t : T} {d : PyData}, toPy t = some d → res st t = some t
  | .non, _, _ => rfl
  | .bl _, _, _ => rfl
  | .int _, _, _ => rfl
  | .str _, _, _ => rfl
  | .tup ts, _, h => by
    obtain ⟨ds, e, _⟩ := Option.map_eq_some_iff.mp (show (toPyL ts).map PyData.tuple = some _ from h)
    simp only [res, toPyL_res e, Option.map_some]
  | .lst ts, _, h => by
    obtain ⟨ds, e, _⟩ := Option.map_eq_some_iff.mp (show (toPyL ts).map PyData.list = some _ from h)
    simp only [res, toPyL_res e, Option.map_some]
  | .dct _, _, h => by cases h
  | .loc _, _, h => by cases h
  | .fn _, _, h => by cases h
  | .act, _, h => by cases h
  | .scr _, _, h => by cases h
theorem toPyL_res {st : Store} : ∀ {ts : List T} {ds : List PyData}, toPyL ts = some ds → resL st ts = some ts
  | [], _, _ => rfl
  | t :: ts, _, h => by
    simp only [toPyL] at h
    split at h
    · rename_i u us e1 e2
      simp only [resL, toPy_res e1, toPyL_res e2]
    · cases h
end
theorem toPyL_each : ∀ {ts : List T} {ds : List PyData}, toPyL ts = some ds → ts.map dOf = ds ∧ ∀ t ∈ ts, toPy t = some (dOf t)
  | [], _, h => by cases h; exact ⟨rfl, fun _ h => (nomatch h)⟩
  | t :: ts, _, h => by
    simp only [toPyL] at h
    split at h
    · rename_i u us e1 e2
      cases h
      obtain ⟨h1, h2⟩ := toPyL_each e2
      have e : dOf t = u := by unfold dOf; rw [e1]; rfl
      refine ⟨by rw [List.map_cons, h1, e], fun x hx => ?_⟩
      rcases List.mem_cons.mp
            hx with rfl | hx
      · rw [e]; exact e1
      · exact h2 x hx
    · cases h
section
variable {X : Cx} {at_ : At} {pins : List (Addr × Obj)} {s : Shared} {σ : L2.St} {H : Hp} {ρ : Pl} {st : Store} {Q : VK}
/-- a thing, its value -/
def Is2 (K : PySem.W.Frag) (at_ : At) (ρ : Pl) (H : Hp) (v : Value) (b : T × V) : Prop := RelV b.2 v ∧ Rep K at_ ρ H b.1 b.2
theorem is2_zip {K : PySem.W.Frag} : ∀ {ts : List T} {vs : List V} {us : List Value}, RepL K at_ ρ H ts vs → Vals vs us → PySem.W.EachIs (Is2 K at_ ρ H) us (ts.zip vs)
  | [], vs, us, h, r => by
    cases h
    cases us with
    | nil => exact .nil
    | cons _ _ => exact (nomatch r)
  | t :: ts, vs, us, h, r => by
    obtain ⟨v, vs', rfl, h1, h2⟩ := h
    cases us with
    | nil => exact (nomatch r)
    | cons u us =>
      obtain ⟨r1, r2⟩ : RelV v u ∧ Vals vs' us := by
        cases r with
        | cons a b => exact ⟨a, b⟩
      exact .cons ⟨r1, h1⟩ (is2_zip h2 r2)
theorem is2_out {K : PySem.W.Frag} : ∀ {us : List Value} {bs : List (T × V)}, PySem.W.EachIs (Is2 K at_ ρ H) us bs → Vals (bs.map (·.2)) us ∧ RepL K at_ ρ H (bs.map (·.1)) (bs.map (·.2))
  | _, _, .nil => ⟨.nil, rfl⟩
  | _, _, .cons h t => ⟨.cons h.1 (is2_out t).1, _, _, rfl, h.2, (is2_out t).2⟩
theorem zip_fst : ∀ {α β : Type} {xs : List α} {ys : List β}, xs.length = ys.length → (xs.zip ys).map (·.1) = xs
  | _, _, [], _, _ => rfl
  | _, _, x :: xs, [], h => by simp at h
  | _, _, x :: xs, y :: ys, h => by simp [zip_fst (xs := xs) (ys := ys) (by simpa using h)]
/-- sorted(xs), data that are alike -/
theorem sortD_run (hu : X.A.units + 130 < cLine) {a : Addr} {ts us : List T} {vs : List V} (I : Inv X pins σ H s) (hs : SqL X.K H a vs) (sr : StRep X.K at_ ρ H st) (rl : RepL X.K at_ ρ H ts vs) (e : sortD ts = some us)
    (q : ∀ ys p, RepL X.K at_ ρ H us ys → H p = none → Q (.ref p) (upd H p (.lst ys))) : wpAny (model X.prog X.w) X.A (call (.builtin "sorted") [.ref a]) (EP X pins σ Q) X.xe s := by
  unfold sortD at e
  split at e
  · rename_i ds hd
    split at e
    · rename_i hc
      obtain ⟨h1, h2, h3⟩ := hc
      cases e
      obtain ⟨em, ee⟩ := toPyL_each hd
      obtain ⟨its, rv, hl, hz⟩
            := I.list hs
      have hlen : ts.length = vs.length := rl.length
      have hb : (ts.zip vs).map (fun b => dOf b.1) = ds := by
        rw [← em]
        conv => rhs; rw [← zip_fst hlen, List.map_map]
        rfl
      have al : PySem.W.AllAlike ((ts.zip vs).map fun b => dOf b.1) := by
        rw [hb]
        intro d hd' d' hd2
        exact List.all_eq_true.mp (List.all_eq_true.mp h1 d hd') d' hd2
      have so : PySem.W.Sortable ((ts.zip vs).map fun b => dOf b.1) := by
        rw [hb]
        rcases h2 with h2 | h2
        · refine .inl fun d hd' => ?_
          have := List.all_eq_true.mp h2 d hd'
          unfold tupD at this
          split at this
          · exact ⟨_, _, rfl⟩
          · cases this
        · refine .inr fun d hd' => ?_
          have := List.all_eq_true.mp h2 d hd'
          refine ⟨fun z => ?_, fun xs z => ?_⟩ <;> (subst z; cases this)
      have each := is2_zip (K := X.K) (at_ := at_) (ρ := ρ) (H := H) rl rv
      have er : PySem.W.EachIs (fun v b => ∃ as, Reads s.heap v (dOf b.1) as) its (ts.zip vs) := by
        refine (PySem.W.each_mem each).mono fun v b hvb => ?_
        obtain ⟨⟨r1, r2⟩, hm⟩ := hvb
        have hm1 : b.1 ∈ ts := (List.of_mem_zip (show (b.1, b.2) ∈ ts.zip vs from hm)).1
        have hp : pyOf st b.1 = some (dOf b.1) := by simp only [pyOf, toPy_res (ee _ hm1), Option.bind_some, ee _ hm1]
        exact Dp.reads I _ _ v (rep_pyOf sr r2 hp) r1
      refine PySem.W.sorted_data (enc := fun b : T × V => dOf b.1) hl.isList each er al so (by rw [List.length_zip, hlen, Nat.min_self]; exact hz) (fun b hb' => ?_) fun out hol ho => ?_
      · have hm1 : b.1 ∈ ts := (List.of_mem_zip (show (b.1, b.2) ∈ ts.zip vs from hb')).1
        have : dOf b.1 ∈ ds := em ▸ List.mem_map.mpr ⟨_, hm1, rfl⟩
        have := of_decide_eq_true (List.all_eq_true.mp h3 _ this)
        omega
      · obtain ⟨ro, rr⟩ := is2_out ho
        have ef : ((ts.zip vs).mergeSort (PySem.W.dataLe false fun b => dOf b.1)).map (·.1) = isort (fun x y => ltDat (dOf x) (dOf y)) ts := by
          have e1 := PySem.W.sort_maps (r := PySem.W.dataLe false fun b : T × V => dOf b.1) (s := PySem.W.dataLe false dOf) (fun b : T × V => b.1) (l := ts.zip vs) (fun _ _ _ _ => rfl)
          rw [zip_fst hlen] at e1
          rw [isort_merge]
          exact e1
        rw [ef] at rr
        obtain ⟨ep, he'⟩ := PyProof.Rows.sortedAll_at s.heap its (List.toArray out)
        have hl2 : (((ts.zip vs).mergeSort (PySem.W.dataLe false fun b => dOf b.1)).map (·.2)).length ≤ sizeLine := by
          rw [List.length_map, List.length_mergeSort, List.length_zip, hlen, Nat.min_self]
          exact hz
        exact ⟨.ref _, upd H (s.heap.objs.size + 1) (.lst _), I.laid (t' := s.toks) (fun _ _ => PyProof.Rows.sortedAll_old) (Nat.le_succ _) ⟨hl2, _, ep, ro, he'⟩, rfl, q _ _ rr (I.hok.fresh (Nat.le_succ _))⟩
    · cases e
  · cases e
end
end Lw
set_option Elab.async false
set_option linter.all false
set_option maxRecDepth 100000
/-! Lw7: dict(..), tuple(d), sorted, repr, isinstance. -/
namespace Lw
open PySem PySem.Spec L2 PyProof.Rows
open PySem.AutoSeq1 (wpAny_loadPart')

section
variable {prog : Program}
      {w : World} {A : Around} {E : Value → Shared → Prop} {s : Shared}
/-- tuple(d), d anything that is gathered -/
theorem code_tuple_new {Q₁ : Value → Shared → Prop} {T : String} {r d : Addr} {n : Nat} {P : Nat → Value → Prop} {OK : Heap → Prop} (K : PySem.W.KdlSrc prog w T r d n P OK) (hT : s.TypeIs (.ref r) T) (hTn : (Value.type T == Value.type "tuple") = false) (hh : A.handled = none) (hok : OK s.heap) (hn : n ≤ sizeLine)
    (h : ∀ (h' : Heap) (tk : Nat) (acc : Array Value), (∀ b o, s.heap.get? b = some o → h'.get? b = some o) → ItemsOf P acc n →
      Q₁ (.ref h'.objs.size) { s with heap := h'.push { cls := .type "tuple", data := .seq acc }, toks := tk })
            :
    codeAny (model prog w) A
          (.call (.builtin "tuple.__new__") ⟨[.type "tuple", .ref r], []⟩) (wants Q₁ E) s := by
  refine codeAny_of_tree ?_
  show wpAny _ A.in1
        (do checkBuiltinCall "tuple.__new__" ⟨[.type "tuple", .ref r], []⟩; again (.builtin "tuple.__new__" ⟨[.type "tuple", .ref r], []⟩)) _ _ s
  refine wpAny_bind
        (wpAny_of_eq (F.newCall_tuple_1 _) (wpAny_pure ⟨plainId_quiet F.plain_tuple_new _, codeAny_builtin F.entry_tuple_new ?_⟩))
  rw [Around.under_plainId
        F.plain_tuple_new _]
  have hsub := sub_tuple_self
  have hinit :=
        init_tuple_lookup
  have hmh := madeHere_tuple
  have hh1 : A.in1.handled
        = none := hh
  wp_walk using wpAny_typeOf hT, PySem.W.kdu_collect (A := A.in1) K hh1 hok hn
  intro h' tk acc hk hacc
  show wpAny _ _
        (Builtin.Tuple.tupleExact acc.toList.toArray >>= fun v => ret v) _ _ _
  unfold
        Builtin.Tuple.tupleExact
  have hle : acc.toList.toArray.size ≤ sizeLine := by
    rw [Array.toArray_toList, hacc.1]
    exact hn
  refine wpAny_bind (wpAny_newObj_type ?_ hle)
  refine wpAny_pure ?_
  rw [Array.toArray_toList]
  exact h h' tk acc hk hacc
theorem call_tuple_src {Q : Value → Shared → Prop} {T : String} {r d : Addr} {n : Nat} {P : Nat → Value → Prop} {OK : Heap → Prop} (K : PySem.W.KdlSrc prog w T r d n P OK) (hT : s.TypeIs (.ref r) T) (hTn : (Value.type T == Value.type "tuple") = false) (hh : A.handled = none) (hok : OK s.heap) (hn : n ≤ sizeLine)
    (hQ : ∀ (h' : Heap) (tk : Nat) (acc : Array Value), (∀ b o, s.heap.get? b = some o → h'.get? b = some o) → ItemsOf P acc n →
      Q (.ref h'.objs.size) { s with heap := h'.push { cls := .type "tuple", data := .seq acc }, toks := tk }) : wpAny (model prog w) A (call (.type "tuple") [.ref r]) Q E s := by
  refine callType_codes (Q₁ := fun obj s₁ => s₁.TypeIs obj "tuple" ∧ Q obj s₁)
        F.called_tuple (F.typeCall_tuple_1 _) F.entry_object_init
    (code_tuple_new (A := A.in1) K hT hTn hh hok hn fun h' tk acc hk hacc => ⟨⟨_, Heap.get?_push_size _ rfl, rfl⟩, hQ h' tk acc hk hacc⟩) fun obj s₁ ⟨h₁, h₂⟩ => ?_
  exact ⟨h₁, F.args_object_init_2 obj _, object_init_meets F.called_tuple.init.lookup F.called_tuple.made (by decide) prog w A.in1 _ s₁ ⟨h₁, rfl, h₂⟩⟩
end

section
variable {X : Cx} {at_ : At}
/-- tuple(d) of a dict: its keys -/
theorem tup_dict (hcalm : X.calm = true) {pins : List (Addr × Obj)} {s : Shared} {σ : L2.St} {H : Hp} {a : Addr} {kvs : List (Key × V)} {us : List Value} {Q : VK} (I : Inv X pins σ H s) (rs : Vals [.ref a] us) (hd : Rd H a (.dK kvs))
    (q : ∀ p ob, H p = none → ob.dict = none → Q (.ref p) (upd H p (.frz ob (.tup (kvs.map fun kv => kV kv.1))))) : wpAny (model X.prog X.w) X.A (call (.type "tuple") us) (EP X pins σ Q) X.xe s := by
  rw [Vals.ref1 rs]
  obtain ⟨z, lo, vs, rel, dd⟩
        := dk_rd I.hok hd
  obtain ⟨ep, hat⟩ := dd.dictAt
  have ek : (kvs.map fun kv => kV kv.1)
        = vs.map fun p => kV p.1 := by
    have e := congrArg
          (List.map kV) rel.keys
    rw [List.map_map,
          List.map_map] at e
    exact e
  refine call_tuple_src (PySem.W.kdl_dict (knd := mixKind X.prog X.w) (kvs := vs) (ep := ep) lo) dd.typeIs (by decide) (I.ok.hd hcalm) hat (by rw [← rel.length]; exact z) fun h' tk acc hk hacc => ?_
  have hv : Vals (vs.map fun p => kV p.1) acc.toList := keys_at (by rw [Array.length_toList]; exact hacc.1)
        fun j v e => hacc.2 j v (by rw [← Array.getElem?_toList]; exact e)
  have I1 : Inv X pins σ H
        { s with heap := h', toks := tk } := I.kept hk
  exact ⟨.ref h'.objs.size, _, Inv_newT (t' := tk) (n := 0) (its := acc.toList) I1 (fun b o e => Heap.get?_push_of_some _ e) (Nat.le_refl _) (Heap.get?_push_size _ rfl) rfl (by rw [Array.toArray_toList]) (by rw [ek]; exact hv) (by rw [List.length_map]; exact z), rfl, q _ _ (I1.hok.fresh (Nat.le_refl _)) rfl⟩
theorem bi_tuple (hcalm : X.calm = true) : CallR X (.type "tuple") (rB X.K at_ (biE .tuple)) := by
  refine rB_one (fun st ts h => ?_) fun pins s σ H x us Q ρ st t Z I rs sr r o => ?_
  · match ts, h with
    | [], _ => rfl
    | [t], h => exact absurd rfl (h t)
    | _ :: _ :: _, _ => simp only [biE]
  · simp only [biE] at o
    cases e : seqOf st t with
    | none =>
      rw [e] at o
      obtain ⟨u, e', q⟩ := o.ofSome sr
      obtain ⟨kvs, e1, rfl⟩ := Option.map_eq_some_iff.mp e'
      obtain ⟨a, ks, rfl, h1, h2⟩ := rep_dct sr r e1
      have o2 : Out X.K at_ ρ H (.ok (.tup (kvs.map (·.1))) st) (Got X.K at_ Q) Z := by rw [e1] at o; exact o
      exact tup_dict hcalm I rs h1 fun p ob hp hd => fin_tup o2 sr (repP_keys h2) hp hd
    | some ts =>
      rw [e] at o
      obtain ⟨a, vs, rfl, h1, h2, h3⟩ := rep_seq sr r e
      rcases h1 with h1 | h1
      · exact tup_list I rs h1 fun p ob hp hd => fin_tup o sr h2 hp hd
      · refine call_tuple_of pins s σ H _ us Q I rs ⟨a, vs, rfl, .inr ⟨h1.seq, fin_val o sr ⟨a, vs, rfl, h1, h2⟩⟩⟩

/-! ### dict(..) of pairs -/
theorem pairs_real {pins : List (Addr × Obj)} {s : Shared} {σ : L2.St} {H : Hp} {ρ : Pl} (I : Inv X pins σ H s) : ∀ {ts : List T} {kvs : List (T × T)} {vs : List V}, pairsOf ts = some kvs → RepL X.K at_ ρ H ts vs →
    ∃ (as : List Addr) (ps : List (Value × Value)) (ks : List (Key × V)) (rs : List (Key × Value)), vs = as.map .ref ∧ RepP X.K at_ ρ H kvs ks ∧ KV ks rs ∧ ps.length = as.length ∧ rs.length = as.length ∧
      ∀ (j : Nat) (k v : Value), ps[j]? = some (k, v) → ∃ a q, as[j]? = some a ∧ s.heap.IsTuple a #[k, v] ∧ rs[j]? = some (q, v) ∧ keyIs q k = true
  | [], _, _, h, r => by cases h; cases r; exact ⟨[], [], [], [], rfl, rfl, .nil, rfl, rfl, fun j k v e => by simp at e⟩
  | t :: ts, kvs, _, h, r => by
    obtain ⟨v, vs, rfl, h1, h2⟩ := r
    match t, h with
    | .tup [k, y], h =>
      simp only [pairsOf] at h
      split at h
      · rename_i hk
        obtain ⟨kvs', e, rfl⟩ := Option.map_eq_some_iff.mp h
        obtain ⟨as, ps, ks, rs, rfl, i2, i3, i4, i5, i6⟩ := pairs_real I e h2
        obtain ⟨a, ws, rfl, g1, g2⟩ := h1
        obtain ⟨wk, wy, rfl, gk, gy⟩ := g2.two
        obtain ⟨q, kq, rfl⟩ := keyIs_of hk gk
        obtain ⟨its, o, n, rv, ho, hc, hd, hdt, _⟩ := Inv_plT I g1
        obtain ⟨u1, u2, rfl, r1, r2⟩ := vals2 rv
        refine ⟨a :: as, (u1, u2) :: ps, (q, wy) :: ks, (q, u2) :: rs, rfl, ⟨q, wy, ks, rfl, kq, gy, i2⟩, .cons ⟨rfl, r2⟩ i3, by simp [i4], by simp [i5], fun j k' v' e' => ?_⟩
        cases j with
        | zero =>
          simp at e'
          obtain ⟨rfl, rfl⟩ := e'
          exact ⟨a, q, rfl, ⟨o, ho, hc, n, hdt⟩, rfl, kV_is (P := X.prog) (w := X.w) r1⟩
        | succ j =>
          obtain ⟨a', q', e1, e2, e3, e4⟩ := i6 j k' v' (by simpa using e')
          exact ⟨a', q', by simpa using e1, e2, by simpa using e3, e4⟩
      · cases h
    | .non, h | .bl _, h | .int _, h | .str _, h | .lst _, h | .dct _, h | .loc _, h | .fn _, h | .act, h | .scr _, h | .tup [], h | .tup [_], h | .tup (_ :: _ :: _ :: _), h => simp only [pairsOf] at h; cases h
theorem items_vals {as : List Addr} {its : List Value} (r : Vals (as.map V.ref) its) : its = as.map Value.ref := refs_at r
theorem bi_dict (hcalm : X.calm = true) (fz : Bool) : CallR X (.type "dict") (rB X.K at_ (biE (.dict fz))) := by
  refine rB_one (fun st ts h => ?_) fun pins s σ H x us Q ρ st t Z I rs sr r o => ?_
  · match ts, h with
    | [], _ => rfl
    | [t], h => exact absurd rfl (h t)
    | _ :: _ :: _, _ => simp only [biE]
  · simp only [biE] at o
    cases e : (seqOf st t).bind pairsOf with
    | none => rw [e] at o; exact o.elim
    | some kvs =>
      rw [e] at o
      obtain ⟨ts, e1, e2⟩ := Option.bind_eq_some_iff.mp e
      obtain ⟨a, vs, rfl, h1, h2, _⟩ := rep_seq sr r e1
      obtain ⟨as, ps, ks, rr, rfl, i2, i3, i4, i5, i6⟩ := pairs_real I e2 h2
      rw [Vals.ref1 rs]
      have hm : (s.heap.objs.size == sysModules) =
            false := beq_eq_false_iff_ne.mpr (Nat.ne_of_gt I.big)
      have fin : (as.map V.ref).length ≤ sizeLine → ∀ (h' : Heap) (tk : Nat), h'.DictOf (mixKind X.prog X.w) s.heap.objs.size (merged [] rr) → (∀ b o, s.heap.get? b = some o → h'.get? b = some o) →
          EP X pins σ Q (.ref s.heap.objs.size) { s with heap := h', toks := tk } := fun hz h' tk hd' hk => by
        have hlen : (mergeK [] ks).length ≤ sizeLine := by
          refine Nat.le_trans (length_mergeK ks []) ?_
          rw [List.length_nil, Nat.zero_add, i3.length, i5]
          simpa using hz
        exact ⟨.ref s.heap.objs.size, _, I.laid (t' := tk) hk (Nat.le_refl _) (show ObjOk X.prog X.w _ _ _ (.dK (mergeK [] ks)) from ⟨hlen, hm, merged [] rr, KV.merge i3 .nil, hd'⟩), rfl, fin_dct o sr (repP_merge i2 rfl) I.fresh⟩
      have Ts : ∀ {its : List Value}, its = as.map Value.ref → PairItems s.heap its.toArray (fun j => as.getD j 0) ps := fun {its} ei => by
        refine ⟨by simp [ei, i4], fun j k v ej => ?_⟩
        obtain ⟨a', q', f1, f2, f3, f4⟩ := i6 j k v ej
        have fa : as.getD j 0 = a' := by rw [List.getD_eq_getElem?_getD, f1]; rfl
        exact ⟨by simp [ei, f1, fa], by show PairAt s.heap (as.getD j 0) k v; rw [fa]; exact .inl f2⟩
      have have_ : PairsHave (mixKind X.prog X.w) ps.length (PairRel ps) rr := ⟨by rw [i5, i4], fun i k v hr => by
        obtain ⟨a', q', f1, f2, f3, f4⟩ := i6 i k v hr
        exact ⟨q', f3, f4⟩⟩
      rcases h1 with h1 | h1
      · obtain ⟨its, rv, ⟨o', n, ho, hc, hd, hdt⟩, hz⟩ := I.list h1
        exact PySem.call_dict_pairs (PairArg.list a its.toArray (fun j => as.getD j 0) ps) (I.ok.hd hcalm) ⟨⟨o', n, ho, hc, hd, hdt⟩, Ts (items_vals rv)⟩ have_ (by rw [i4]; simpa using hz) fun h' tk hd' hk => fin hz h' tk hd' fun b o e => hk b o (by simp) e
      · obtain ⟨its, o', n, rv, ho, hc, hd, hdt, hz⟩ := Inv_plT I h1
        exact PySem.call_dict_pairs (PairArg.tuple a its.toArray (fun j => as.getD j 0) ps) (I.ok.hd hcalm) ⟨⟨o', n, ho, hc, hd, hdt⟩, Ts (items_vals rv)⟩ have_ (by rw [i4]; simpa using hz) fun h' tk hd' hk => fin hz h' tk hd' fun b o e => hk b o (by simp) e

/-! ### sorted of ints -/
theorem insI_perm (x : Int) : ∀ l : List Int, (insI x l).Perm (x :: l)
  | [] => .refl _
  | y :: ys => by
    unfold insI
    split
    · exact .refl _
    · exact ((insI_perm x ys).cons y).trans (.swap x y ys)
theorem sortI_perm : ∀ l : List Int, (sortI l).Perm l
  | [] => .refl _
  | x :: xs => (insI_perm x _).trans ((sortI_perm xs).cons x)
theorem insI_sorted (x : Int) : ∀ l : List Int, l.Pairwise (· ≤ ·) → (insI x l).Pairwise (· ≤ ·)
  | [], _ => by simp [insI]
  | y :: ys, h => by
    obtain ⟨h1, h2⟩ :=
          List.pairwise_cons.mp h
    unfold insI
    split
    · rename_i hx
      refine List.pairwise_cons.mpr ⟨fun z hz => ?_, h⟩
      rcases List.mem_cons.mp
            hz with rfl | hz
      · exact hx
      · exact Int.le_trans hx (h1 z hz)
    · rename_i hx
      refine List.pairwise_cons.mpr ⟨fun z hz => ?_, insI_sorted x ys h2⟩
      rcases List.mem_cons.mp ((insI_perm x ys).mem_iff.mp hz) with rfl | hz
      · omega
      · exact h1 z hz
theorem sortI_sorted : ∀ l : List Int, (sortI l).Pairwise (· ≤ ·)
  | [] => .nil
  | x :: xs => insI_sorted x _ (sortI_sorted xs)
theorem sorted_uniq : ∀ {l m : List Int}, l.Perm m → l.Pairwise (· ≤ ·) → m.Pairwise (· ≤ ·) → l = m
  | [], m, h, _, _ => (List.Perm.eq_nil h.symm).symm
  | x :: l, [], h, _, _ => absurd h.length_eq (by simp)
  | x :: l, y :: m, h, hl, hm => by
    obtain ⟨a1, a2⟩ := List.pairwise_cons.mp hl
    obtain ⟨b1, b2⟩ := List.pairwise_cons.mp hm
    have e : x = y := by
      have p : x ∈ y :: m := h.mem_iff.mp List.mem_cons_self
      have q : y ∈ x :: l := h.mem_iff.mpr List.mem_cons_self
      rcases List.mem_cons.mp p with p | p
      · exact p
      · rcases
              List.mem_cons.mp q with q | q
        · exact q.symm
        · exact Int.le_antisymm (a1 y q) (b1 x p)
    subst e
    rw [sorted_uniq (h.cons_inv) a2 b2]
theorem bi_sorted (hcalm : X.calm = true) (hu : X.A.units + 130 < cLine) (fz : Bool) : CallR X (.builtin "sorted") (rB X.K at_ (biE (.sorted fz))) := by
  refine rB_one (fun st ts h => ?_) fun pins s σ H x us Q ρ st t Z I rs sr r o => ?_
  · match ts, h with
    | [], _ => rfl
    | [t], h => exact absurd rfl (h t)
    | _ :: _ :: _, _ => simp only [biE]
  · simp only [biE] at o
    cases e : lstOf st t with
    | some ts =>
      rw [e] at o
      obtain ⟨a, vs, rfl, h1, h2⟩ := rep_lst sr r e
      simp only [sortT] at o
      cases e2 : intsOf ts with
      | none =>
        rw [e2] at o
        simp only at o
        cases e3 : prsOf ts with
        | none =>
          rw [e3] at o
          simp only at o
          cases e4 : sortD ts with
          | none => rw [e4] at o; exact o.elim
          | some ws =>
            rw [e4] at o
            obtain ⟨u, rfl, ru⟩ := vals1 rs
            cases ru
            exact sortD_run hu I (.of h1) sr h2 e4 fun ys p hy hn => fin_lst o sr hy hn
        | some ps =>
          rw [e3] at o
          simp only at o
          by_cases hk : sameK ps = true
          · rw [if_pos hk] at o
            refine cr_sortedKP pins s σ H _ us Q I rs ⟨a, vs, ps, rfl, .of h1, prs_rep e3 h2, hk, fun ys p hy hn => ?_⟩
            exact fin_lst o sr (prs_back hy) hn
          · rw [if_neg hk] at o
            exact o.elim
      | some ns =>
        rw [e2] at o
        cases repL_ints e2 h2
        refine cr_sortedI pins s σ H _ us Q I rs ⟨a, ns, rfl, .of h1, fun ns' p hp hs hn => ?_⟩
        rw [sorted_uniq (hp.trans (sortI_perm ns).symm) hs (sortI_sorted ns)]
        exact fin_lst o sr (repL_ofInts _) hn
    | none =>
      rw [e] at o
      cases e1 : dctOf st t with
      | none => rw [e1] at o; exact o.elim
      | some kvs =>
        rw [e1] at o
        obtain ⟨h64, o⟩ := o.iteN
        obtain ⟨a, ks, rfl, h1, h2⟩ := rep_dct sr r e1
        cases e2 : intsOf (kvs.map (·.1)) with
        | none =>
          rw [e2] at o
          simp only at o
          cases e3 : strsOf (kvs.map (·.1)) with
          | none => rw [e3] at o; exact o.elim
          | some ss =>
            rw [e3] at o
            have ev := repL_strs e3 (repP_keys h2)
            have ek : ks.map (·.1) = ss.map Sum.inr := by
              have : (ks.map (·.1)).map kV = (ss.map Sum.inr).map kV := by
                rw [List.map_map,
                      List.map_map]
                exact ev
              exact kVs_inj this
            have hl : ss.length = kvs.length := by
              have := congrArg List.length ek
              simp at this
              rw [← this, repP_length h2]
            refine call_sortedD hcalm pins s σ H _ us Q I rs ⟨a, ks, ss, rfl, h1, ek, by omega, fun ss' p hp hs hn => ?_⟩
            rw [sortS_uniq hp hs]
            exact fin_lst o sr (repL_ofStrs _) hn
        | some ns =>
          rw [e2] at o
          have ev := repL_ints e2 (repP_keys h2)
          have ek : ks.map (·.1) = ns.map Sum.inl := by
            have : (ks.map (·.1)).map kV = (ns.map Sum.inl).map kV := by
              rw [List.map_map,
                    List.map_map]
              exact ev
            exact kVs_inj this
          have hl : ns.length = kvs.length := by
            have := congrArg List.length ek
            simp at this
            rw [← this, repP_length h2]
          refine call_sortedDI hcalm pins s σ H _ us Q I rs ⟨a, ks, ns, rfl, h1, ek, by omega, fun ns' p hp hs hn => ?_⟩
          rw [sorted_uniq (hp.trans (sortI_perm ns).symm) hs (sortI_sorted ns)]
          exact fin_lst o sr (repL_ofInts _) hn

/-! ### repr -/
theorem bi_repr (hg : X.A.guards = some []) (hu : X.A.units + 130 < cLine) : CallR X (.builtin "repr") (rB X.K at_ (biE .repr)) := by
  refine rB_one (fun st ts h => ?_) fun pins s σ H x us Q ρ st t Z I rs sr r o => ?_
  · match ts, h with
    | [], _ => rfl
    | [t], h => exact absurd rfl (h t)
    | _ :: _ :: _, _ => simp only [biE]
  · simp only [biE] at o
    obtain ⟨u, e, q⟩ := o.ofSome sr
    obtain ⟨z, e', rfl⟩ := Option.map_eq_some_iff.mp e
    have q := q _ rfl
    unfold showT at e'
    split at e'
    · rename_i d hd
      split at e'
      · rename_i hs
        simp only [Bool.and_eq_true, Bool.not_eq_true', decide_eq_true_eq] at hs
        obtain ⟨⟨⟨s1, s2⟩, s3⟩, s4⟩ := hs
        rw [big_line] at s4
        cases e'
        have dp := rep_pyOf sr r hd
        obtain ⟨v, rfl, rv⟩ := vals1 rs
        cases dp with
        | non => cases rv; exact PySem.P.repr_of_none ⟨.str _, H, I.tok _, ⟨_, rfl⟩, q⟩
        | bl b => cases rv; exact PySem.P.repr_of_bool ⟨.str _, H, I.tok _, ⟨_, rfl⟩, q⟩
        | int i =>
          obtain ⟨t, rfl⟩ := rv
          exact PySem.P.repr_of_int (by simpa [PyData.showable] using s1) ⟨.str _, H, I.tok _, ⟨_, rfl⟩, q⟩
        | str y =>
          obtain ⟨t, rfl⟩ := rv
          exact PySem.P.repr_of_str ⟨.str _, H, I.tok _, ⟨_, rfl⟩, q⟩ s4
        | @lst a xs ds h1 h2 =>
          cases rv
          obtain ⟨as, rd⟩ := Dp.reads I _ _ _ (Dp.lst h1 h2) rfl
          exact repr_of_reads' rd s1 (PyData.noDict_hsm s2) hg (by omega) (fun _ _ e => e) (fun h' u tk hk => ⟨.str _, H, I.kept hk, ⟨_, rfl⟩, q⟩) s4
        | @tup a xs ds h1 h2 =>
          cases rv
          obtain ⟨as, rd⟩ := Dp.reads I _ _ _ (Dp.tup h1 h2) rfl
          exact repr_of_reads' rd s1 (PyData.noDict_hsm s2) hg (by omega) (fun _ _ e => e) (fun h' u tk hk => ⟨.str _, H, I.kept hk, ⟨_, rfl⟩, q⟩) s4
      · cases e'
    · cases e'
/-! ### isinstance -/
def tyV' : Ty → String
  | .int => "int" | .bool => "bool" | .str => "str" | .tuple => "tuple" | .list => "list" | .dict => "dict"

def tyN : T → String
  | .non => "NoneType" | .bl _ => "bool" | .int _ => "int" | .str _ => "str" | .tup _ => "tuple" | .lst _ => "list" | .dct _ => "dict" | _ => "list"
theorem kit_non (K : PySem.W.Frag) : ∀ t : Ty, PySem.W.kitOne K (.type "NoneType") (.type (tyV' t)) = some false := by intro t; cases t <;> kernel_rfl
theorem kit_bool (K : PySem.W.Frag) : ∀ t : Ty, PySem.W.kitOne K (.type "bool") (.type (tyV' t)) = some (match t with | .int | .bool => true | _ => false) := by intro t; cases t <;> kernel_rfl
theorem kit_int (K : PySem.W.Frag) : ∀ t : Ty, PySem.W.kitOne K (.type "int") (.type (tyV' t)) = some (match t with | .int => true | _ => false) := by intro t; cases t <;> kernel_rfl
theorem kit_str (K : PySem.W.Frag) : ∀ t : Ty, PySem.W.kitOne K (.type "str") (.type (tyV' t)) = some (match t with | .str => true | _ => false) := by intro t; cases t <;> kernel_rfl
theorem kit_tuple (K : PySem.W.Frag) : ∀ t : Ty, PySem.W.kitOne K (.type "tuple") (.type (tyV' t)) = some (match t with | .tuple => true | _ => false) := by intro t; cases t <;> kernel_rfl
theorem kit_list (K : PySem.W.Frag) : ∀ t : Ty, PySem.W.kitOne K (.type "list") (.type (tyV' t)) = some (match t with | .list => true | _ => false) := by intro t; cases t <;> kernel_rfl
theorem kit_dict (K : PySem.W.Frag) : ∀ t : Ty, PySem.W.kitOne K (.type "dict") (.type (tyV' t)) = some (match t with | .dict => true | _ => false) := by intro t; cases t <;> kernel_rfl
/-- isinstance(x, T): the type of what x is worth -/
theorem isi_ty {K : PySem.W.Frag} {ρ : Pl} {H : Hp} {st : Store} {t : Ty} {x : T} {v : V} {b : Bool} (s : StRep K at_ ρ H st) (r : Rep K at_ ρ H x v) (h : isiE t st x = some b) : ∃ ty, TyX K H v ty ∧ PySem.W.kitOne K ty (.type (tyV' t)) = some b := by
  cases x with
  | non => cases h; cases r; exact ⟨_, .base .non, kit_non K t⟩
  | bl k => simp only [isiE] at h; cases r; exact ⟨_, .base (.bl k), (kit_bool K t).trans h⟩
  | int k => simp only [isiE] at h; cases r; exact ⟨_, .base (.int k), (kit_int K t).trans h⟩
  | str k => simp only [isiE] at h; cases r; exact ⟨_, .base (.str k), (kit_str K t).trans h⟩
  | tup ts =>
    simp only [isiE] at h
    obtain ⟨a, vs, rfl, h1, h2⟩ := r
    refine ⟨.type "tuple", ?_, (kit_tuple K t).trans h⟩
    rcases h1 with ⟨o, e, _⟩ | ⟨o, its, n, e, hc, _⟩
    · exact .fTuple e
    · exact .kTuple e hc
  | lst ts =>
    simp only [isiE] at h
    obtain ⟨a, vs, rfl, h1, h2⟩ := r
    exact ⟨.type "list", .base (.lst h1.1), (kit_list K t).trans h⟩
  | dct ts =>
    simp only [isiE] at h
    obtain ⟨a, vs, rfl, h1, h2⟩ := r
    refine ⟨.type "dict", ?_, (kit_dict K t).trans h⟩
    rcases h1.1 with e | ⟨o, e⟩
    · exact .base (.dK e)
    · exact .fDict e
  | loc l =>
    simp only [isiE] at h
    obtain ⟨a, rfl, hl⟩ := r
    split at h
    · rename_i ts e
      obtain ⟨vs, h1, h2⟩ := s.cell l a _ hl e
      exact ⟨.type "list", .base (.lst h1), (kit_list K t).trans h⟩
    · rename_i ts e
      obtain ⟨vs, h1, h2⟩ := s.cell l a _ hl e
      exact ⟨.type "dict", .base (.dK h1), (kit_dict K t).trans h⟩
    · cases h
  | fn f => cases h
  | act => cases h
  | scr ns => cases h
/-- isinstance(x, T) -/
theorem bi_isi (t : Ty) : CallR X (.builtin "isinstance") (fun xs H Q => ∃ (ρ : Pl) (st : Store) (x : T) (v : V) (b : Bool), xs = [v, .ty (tyV' t)] ∧ StRep X.K at_ ρ H st ∧ Rep X.K at_ ρ H x v ∧ isiE t st x = some b ∧ Q (.bl b) H) := by
  intro pins s σ
        H xs us Q I rs h
  obtain ⟨ρ, st, x, v, b, ex, sr, r, e, q⟩ := h
  subst ex
  obtain ⟨ty, h1, h2⟩ := isi_ty sr r e
  exact call_isi pins s σ H _ us Q I rs ⟨v, .ty (tyV' t), ty, .type (tyV' t), b, rfl, .ty _, h1, h2, q⟩
theorem bi_max2 (hc : X.calm = true) : CallR X (.builtin "max") (rB X.K at_ (biE .max2)) := by
  intro pins s σ
        H xs us Q I rs h
  obtain ⟨ρ, st, ts, Z, sr, r, o⟩ := h
  by_cases e : ∃ i j, ts = [.int i, .int j]
  · obtain ⟨i, j, rfl⟩ := e
    obtain ⟨v, w, rfl, r1, r2⟩ := r.two
    cases r1; cases r2
    exact call_max2 hc pins s σ H _ us Q I rs ⟨i, j, rfl, fin_val o sr rfl⟩
  · have : biE .max2 ts st = .no := by
      unfold biE
      split <;> simp_all
    rw [this] at o
    exact o.elim
theorem bi_min2 (hc : X.calm = true) : CallR X (.builtin "min") (rB X.K at_ (biE .min2)) := by
  intro pins s σ
        H xs us Q I rs h
  obtain ⟨ρ, st, ts, Z, sr, r, o⟩ := h
  by_cases e : ∃ i j, ts = [.int i, .int j]
  · obtain ⟨i, j, rfl⟩ := e
    obtain ⟨v, w, rfl, r1, r2⟩ := r.two
    cases r1; cases r2
    exact call_min2 hc pins s σ H _ us Q I rs ⟨i, j, rfl, fin_val o sr rfl⟩
  · have : biE .min2 ts st = .no := by
      unfold biE
      split <;> simp_all
    rw [this] at o
    exact o.elim
end
end Lw
set_option Elab.async false
set_option linter.all false
set_option maxRecDepth 100000
/-! Lw8: methods of built-in classes, subscripts, slices, stores. -/
namespace Lw
open PySem PySem.Spec L2 PyProof.Rows

/-! ### the receiver -/
def KindV (K : PySem.W.Frag) (H : Hp) (x : V) : Nat → Prop
  | 1 => ∃ p xs, x = .ref p ∧ SqL K H p xs
  | 2 => ∃ p xs, x = .ref p ∧ PlT K H p xs
  | 3 => ∃ p ks, x = .ref p ∧ Rd H p (.dK ks)
  | 4 => ∃ z, x = .str z
  | _ => False
def tyNm : Nat → String
  | 1 => "list" | 2 => "tuple" | 3 => "dict" | _ => "str"
section
variable {X : Cx} {at_ : At} {ρ : Pl} {H : Hp} {st : Store}
theorem kindOf_V {K : PySem.W.Frag} {t : T} {v : V} (s : StRep K at_ ρ H st) (r : Rep K at_ ρ H t v) (h : kindOf st t ≠ 0) : KindV K H v (kindOf st t) := by
  cases t with
  | lst ts => obtain ⟨a, vs, e, h1, _⟩ := r; exact ⟨a, vs, e, h1.seq⟩
  | scr ts => obtain ⟨a, e, h1⟩ := r; exact ⟨a, _, e, h1.seq⟩
  | tup ts => obtain ⟨a, vs, e, h1, _⟩ := r; exact ⟨a, vs, e, h1⟩
  | dct ts => obtain ⟨a, vs, e, h1, _⟩ := r; exact ⟨a, vs, e, h1.1⟩
  | str z => exact ⟨z, r⟩
  | loc l =>
    obtain ⟨a, rfl, hl⟩ := r
    simp only [kindOf] at h ⊢
    split at h
    · rename_i ts e; obtain ⟨vs, h1, h2⟩ := s.cell l a _ hl e; exact ⟨a, vs, rfl, .of h1⟩
    · rename_i ts e; obtain ⟨vs, h1, h2⟩ := s.cell l a _ hl e; exact ⟨a, vs, rfl, .inl h1⟩
    · rename_i ts e; obtain ⟨o, vs, h1, h2⟩ := s.cell l a _ hl e; exact ⟨a, vs, rfl, .inr ⟨o, h1⟩⟩
    · exact absurd rfl h
  | _ => exact absurd rfl h
theorem kindV_is {pins : List (Addr × Obj)} {σ : L2.St} {s : Shared} {k : Nat} {x : V} {v : Value} (I : Inv X pins σ H s) (r : RelV x v) (ty : KindV X.K H x k) :
    s.TypeIs v (tyNm k) ∧ ∀ a, v = .ref a → ∃ ob, s.heap.get? a = some ob ∧ ob.dict = none := by
  match k, ty with
  | 1, ⟨p, xs, e, hq⟩ =>
    subst e; cases r
    obtain ⟨its, _, pl, _⟩ := I.list hq
    refine
          ⟨pl.isList.typeIs, fun a e => ?_⟩
    cases e
    obtain
          ⟨o, n, e, c, hd, _⟩ := pl
    exact ⟨o, e, hd⟩
  | 2, ⟨p, xs, e, hq⟩ =>
    subst e; cases r
    obtain ⟨its, o, n, _, ho, hc, hd, _⟩ := Inv_plT I hq
    exact ⟨⟨o, ho, hc⟩, fun a e => by cases e; exact ⟨o, ho, hd⟩⟩
  | 3, ⟨p, ks, e, hq⟩ =>
    subst e; cases r
    obtain ⟨h1, h2, _⟩ := isD_at I (.inl ⟨ks, hq⟩)
    exact ⟨h1, h2⟩
  | 4, ⟨z, e⟩ =>
    subst e
    obtain ⟨t, rfl⟩ := r
    exact
          ⟨typeIs_str s z t, fun _ e => nomatch e⟩
end

/-- the method's name -/
def mnm : Mt → Str
  | .append => "append" | .extend => "extend" | .get1 => "get" | .get2 => "get" | .index => "index" | .insert => "insert" | .pop0 => "pop" | .pop1 => "pop" | .update => "update"
  | .join => "join" | .split => "split" | .startswith => "startswith" | .count => "count" | .values => "values" | .items => "items"
/-- what is called -/
def mid : Mt → Nat → String
  | .append, _ => "list.append" | .extend, _ => "list.extend" | .insert, _ => "list.insert" | .pop0, _ => "list.pop"
  | .pop1, 1 => "list.pop" | .pop1, _ => "dict.pop" | .update, _ => "dict.update" | .get1, _ => "dict.get" | .get2, _ => "dict.get"
  | .index, 1 => "list.index" | .index, _ => "tuple.index"
  | _, _ => ""
theorem mty_append : typeOf (.builtin "list.append") = pure (.type "method_descriptor") := PySem.F.type_list_append
theorem mt_look : ∀ (m : Mt) (k : Nat), mok m k = true → PlainAttrs (tyNm k) ∧ Slot (tyNm k) (mnm m) (mid m k) ∧ typeOf (.builtin (mid m k)) = pure (.type "method_descriptor") := by
  intro m k h
  unfold mok at h
  split at h
  · exact ⟨PySem.F.plainAttrs_list, PySem.F.slot_list_append, PySem.F.type_list_append⟩
  · exact ⟨PySem.F.plainAttrs_list, PySem.F.slot_list_extend, PySem.F.type_list_extend⟩
  · exact ⟨PySem.F.plainAttrs_list, PySem.F.slot_list_insert, PySem.F.type_list_insert⟩
  · exact ⟨PySem.F.plainAttrs_list, PySem.F.slot_list_pop, PySem.F.type_list_pop⟩
  · exact ⟨PySem.F.plainAttrs_list, PySem.F.slot_list_pop, PySem.F.type_list_pop⟩
  · exact ⟨PySem.F.plainAttrs_dict, PySem.F.slot_dict_pop, PySem.F.type_dict_pop⟩
  · exact ⟨PySem.F.plainAttrs_dict, PySem.F.slot_dict_update, PySem.F.type_dict_update⟩
  · exact ⟨PySem.F.plainAttrs_dict, PySem.F.slot_dict_get, PySem.F.type_dict_get⟩
  · exact ⟨PySem.F.plainAttrs_dict, PySem.F.slot_dict_get, PySem.F.type_dict_get⟩
  · exact ⟨PySem.F.plainAttrs_list, PySem.F.slot_list_index, PySem.F.type_list_index⟩
  · exact ⟨PySem.F.plainAttrs_tuple, PySem.F.slot_tuple_index, PySem.F.type_tuple_index⟩
  · cases h

/-! ### what the methods do -/
section
variable {X : Cx} {at_ : At} {pins : List (Addr × Obj)} {s : Shared} {σ : L2.St} {H : Hp} {ρ : Pl} {st : Store} {Q : VK} {Z : Value → Option Addr → Hp → Prop}
theorem d_update {a b : Addr} {kvs more : List (Key × V)} (I : Inv X pins σ H s) (e : H a = some (.dK kvs)) (e2 : Rd H b (.dK more)) (hne : a ≠ b) (hz : kvs.length + more.length ≤ sizeLine)
    (q : Q .non (upd H a (.dK (mergeK kvs more)))) : wpAny (model X.prog X.w) X.A (call (.builtin "dict.update") [.ref a, .ref b]) (EP X pins σ Q) X.xe s := by
  obtain ⟨z, hd, vs, rel, dd⟩
        := dk_of I.hok e
  obtain ⟨z2, hd2, vs2, rel2, dd2⟩ := dk_rd I.hok e2
  refine call_meetsIn PySem.F.slot_dict_update dd.typeIs PySem.F.entry_dict_update (PySem.F.args_dict_update_2 _ _) (meets_dict_update (mixKind X.prog X.w) a b hne hd2)
    ⟨vs, vs2, dd, dd2, (by rw [← rel.length, ← rel2.length]; exact hz), fun h' dd' _ hs => ?_⟩
  have he : ∃ q, h'.get? a = some q :=
        let ⟨q, _, _, hq, _⟩ := dd'; ⟨q, hq⟩
  exact ⟨.non, _, d_write (t' := s.toks) I (by rw [e]; exact True.intro) hs he (dk_new (by have := length_mergeK more kvs; omega) hd (KV.merge rel2 rel) dd'), rfl, q⟩

theorem rep1 {K : PySem.W.Frag} {t : T} {v : V} (r : Rep K at_ ρ H t v) : RepL K at_ ρ H [t] [v] := ⟨v, [], rfl, r, rfl⟩
theorem findIdx_of {ds : List PyData} {d : PyData} {j : Nat} (h : ds.findIdx? (fun z => PyData.eqv z d) = some j) : ∃ z, ds[j]? = some z ∧ PyData.eqv z d = true ∧ ∀ (m : Nat) (z' : PyData), m < j → ds[m]? = some z' → PyData.eqv z' d = false := by
  obtain ⟨hlt, h1, h2⟩ := List.findIdx?_eq_some_iff_getElem.mp h
  refine ⟨ds[j], List.getElem?_eq_getElem hlt, h1, fun m z' hm e => ?_⟩
  obtain ⟨hm', rfl⟩ := List.getElem?_eq_some_iff.mp e
  exact Bool.not_eq_true _ ▸ h2 m hm
theorem erase_rep {K : PySem.W.Frag} : ∀ {ts : List T} {vs : List V} (i : Nat), RepL K at_ ρ H ts vs → RepL K at_ ρ H (ts.eraseIdx i) (vs.eraseIdx i)
  | [], _, _, r => by cases r; exact rfl
  | t :: ts, _, 0, r => by obtain ⟨v, s, rfl, h1, h2⟩ := r; exact h2
  | t :: ts, _, i + 1, r => by obtain ⟨v, s, rfl, h1, h2⟩ := r; exact ⟨v, _, rfl, h1, erase_rep i h2⟩
theorem dropLast_rep {K : PySem.W.Frag} {ts : List T} {vs : List V} (r : RepL K at_ ρ H ts vs) : RepL K at_ ρ H ts.dropLast vs.dropLast := by
  rw [List.dropLast_eq_take, List.dropLast_eq_take, r.length]
  exact r.take _
theorem pyL_seq {x : T} {v : V} {us : List T} {ds : List PyData} (sr : StRep X.K at_ ρ H st) (r : Rep X.K at_ ρ H x v) (h : seqOf st x = some us) (hd : pyL st us = some ds) : (∃ a, v = .ref a ∧ kindOf st x = 1 ∧ Dp X.K H v (.list ds)) ∨ (∃ a vs, v = .ref a ∧ kindOf st x = 2 ∧ PlT X.K H a vs ∧ DpAll X.K H vs ds) := by
  obtain ⟨a, vs, rfl, h1, h2, _⟩ := rep_seq sr r h
  have dp := pyL_of sr h2 hd
  cases x with
  | lst ts => cases h; obtain ⟨a', vs', e, h3, h4⟩ := r; cases e; exact .inl ⟨a, rfl, rfl, .lst h3.seq (pyL_of sr h4 hd)⟩
  | scr ns => cases h; obtain ⟨a', e, h3⟩ := r; cases e; exact .inl ⟨a, rfl, rfl, .lst h3.seq (pyL_of sr (repL_ofInts ns) hd)⟩
  | tup ts => cases h; obtain ⟨a', vs', e, h3, h4⟩ := r; cases e; exact .inr ⟨a, vs', rfl, rfl, h3, pyL_of sr h4 hd⟩
  | loc l =>
    obtain ⟨a', e', hl⟩ := r
    cases e'
    simp only [seqOf] at h
    split at h
    · rename_i us' e
      cases h
      obtain ⟨vs', h3, h4⟩ := sr.cell l a _ hl e
      exact .inl ⟨a, rfl, by simp only [kindOf, e], .lst (.of h3) (pyL_of sr h4 hd)⟩
    · cases h
  | _ => cases h
theorem dctOf_kind {x : T} {kvs : List (T × T)} (h : dctOf st x = some kvs) : kindOf st x = 3 := by
  cases x with
  | dct ts => rfl
  | loc l =>
    simp only [dctOf] at h
    simp only [kindOf]
    split at h <;> simp_all
  | _ => cases h
theorem mt_run (hu : X.A.units + 130 < cLine) (m : Mt) {t : T} {ts : List T} {x : V} {xs : List V} {v : Value} {us : List Value} (I : Inv X pins σ H s) (rx : RelV x v) (rs : Vals xs us) (sr : StRep X.K at_ ρ H st)
    (r : Rep X.K at_ ρ H t x) (rl : RepL X.K at_ ρ H ts xs) (o : Out X.K at_ ρ H (mtE m t ts st) (Got X.K at_ Q) Z) : wpAny (model X.prog X.w) X.A (call (.builtin (mid m (kindOf st t))) (v :: us)) (EP X pins σ Q) X.xe s := by
  unfold mtE at o
  split at o
  · -- append
    rename_i l w
    obtain ⟨u, rfl, ru⟩ := rl.one
    obtain ⟨a, rfl, hl⟩ := r
    split at o
    · rename_i zs e
      obtain ⟨hz, o⟩ := o.iteN
      obtain ⟨vs, h1, h2⟩ := sr.cell l a _ hl e
      refine mt_append pins s σ H _ _ v us Q I rx rs ⟨a, vs, u, rfl, rfl, h1, by rw [← h2.length, ← big_line]; exact hz, ?_⟩
      refine fin_turn o sr hl ⟨_, upd_same, ?_⟩ rfl
      exact (RepL.mv sr.sep (Mv.turn (List.mem_of_getElem? hl) _) _ _ h2).append (rep1 (Rep.mv sr.sep (Mv.turn (List.mem_of_getElem? hl) _) _ _ ru))
    · exact o.elim
  · -- extend
    rename_i l w
    obtain ⟨u, rfl, ru⟩ := rl.one
    obtain ⟨a, rfl, hl⟩ := r
    split at o
    · rename_i zs ws e e2
      obtain ⟨hz, o⟩ := o.iteN
      obtain ⟨vs, h1, h2⟩ := sr.cell l a _ hl e
      obtain ⟨b, ys, rfl, h3, h4⟩ := rep_lst sr ru e2
      refine mt_extend pins s σ H _ _ v us Q I rx rs ⟨a, b, vs, ys, rfl, rfl, h1, h3, by rw [← h2.length, ← h4.length, ← big_line]; exact hz, ?_⟩
      exact fin_turn o sr hl ⟨_, upd_same, RepL.mv sr.sep (Mv.turn (List.mem_of_getElem? hl) _) _ _ (h2.append h4)⟩ rfl
    · exact o.elim
  · -- insert
    rename_i l i w
    obtain ⟨ui, u, rfl, ri, ru⟩ := rl.two
    cases ri
    obtain ⟨a, rfl, hl⟩ := r
    split at o
    · rename_i zs e
      obtain ⟨⟨hz, hi0, hi⟩, o⟩ := o.iteN
      obtain ⟨vs, h1, h2⟩ := sr.cell l a _ hl e
      have hb : (big : Nat) = 16777216 := rfl
      refine L2.mt_insert pins s σ H _ _ v us Q I rx rs ⟨a, vs, i, u, rfl, rfl, h1, by rw [← h2.length, ← big_line]; exact hz, hi0, by omega, ?_⟩
      refine fin_turn o sr hl ⟨_, upd_same, ?_⟩ rfl
      have m1 : Mv ρ H ρ (upd H a (.lst (vs.take i.toNat ++ [u] ++ vs.drop i.toNat))) := Mv.turn (List.mem_of_getElem? hl) _
      rw [show zs.take i.toNat ++ w :: zs.drop i.toNat = zs.take i.toNat ++ [w] ++ zs.drop i.toNat by simp]
      exact RepL.mv sr.sep m1 _ _ (((h2.take i.toNat).append (rep1 ru)).append (h2.drop i.toNat))
    · exact o.elim
  · -- pop0
    rename_i l
    cases rl
    obtain ⟨a, rfl, hl⟩ := r
    split at o
    · rename_i zs e
      split at o
      · rename_i w ew
        obtain ⟨vs, h1, h2⟩ := sr.cell l a _ hl e
        rw [List.getLast?_eq_getElem?, h2.length] at ew
        obtain ⟨u, hu', ru⟩ := h2.getT ew
        refine mt_pop pins s σ H _ _ v us Q I rx rs ⟨a, vs, u, rfl, rfl, h1, hu', ?_⟩
        exact fin_turn o sr hl ⟨_, upd_same, RepL.mv sr.sep (Mv.turn (List.mem_of_getElem? hl) _) _ _ (dropLast_rep h2)⟩ (Rep.mv sr.sep (Mv.turn (List.mem_of_getElem? hl) _) _ _ ru)
      · exact o.elim
    · exact o.elim
  · -- pop1
    rename_i l w
    obtain ⟨u, rfl, ru⟩ := rl.one
    obtain ⟨a, rfl, hl⟩ := r
    split at o
    · rename_i zs i e
      cases ru
      obtain ⟨hi0, o⟩ := o.iteN
      split at o
      · rename_i w ew
        obtain ⟨vs, h1, h2⟩ := sr.cell l a _ hl e
        obtain ⟨y, hy, ry⟩ := h2.getT ew
        obtain ⟨hlt, _⟩ := List.getElem?_eq_some_iff.mp hy
        obtain ⟨zz, _⟩ := I.lstM h1
        have hs := sizeLine_eq
        rw [show mid .pop1 (kindOf st (.loc l)) = "list.pop" by simp only [kindOf, e, mid]]
        refine mt_popAt pins s σ H _ _ v us Q I rx rs ⟨a, vs, i, i.toNat, y, rfl, rfl, h1, by omega, by omega, ?_, hy, ?_⟩
        · exact seqIndex_of hi0 (by omega)
        · exact fin_turn o sr hl ⟨_, upd_same, RepL.mv sr.sep (Mv.turn (List.mem_of_getElem? hl) _) _ _ (erase_rep _ h2)⟩ (Rep.mv sr.sep (Mv.turn (List.mem_of_getElem? hl) _) _ _ ry)
      · exact o.elim
    · rename_i kvs w e
      obtain ⟨hk, o⟩ := o.iteN
      obtain ⟨ks, h1, h2⟩ := sr.cell l a _ hl e
      obtain ⟨q, kq, rfl⟩ := keyIs_of hk ru
      have g := repP_get h2 kq
      split at o
      · rename_i y ey
        rw [ey] at g
        obtain ⟨z, hz, rz⟩ := g
        rw [show mid .pop1 (kindOf st (.loc l)) = "dict.pop" by simp only [kindOf, e, mid]]
        obtain ⟨u', rfl, ru'⟩ := vals1 rs
        cases rx
        refine d_pop I h1 ru' hz (.inl rfl) fun w' s' I' rw' => ⟨z, _, I', rw', ?_⟩
        exact fin_turn o sr hl ⟨_, upd_same, RepP.mv sr.sep (Mv.turn (List.mem_of_getElem? hl) _) _ _ (repP_drop h2 kq)⟩ (Rep.mv sr.sep (Mv.turn (List.mem_of_getElem? hl) _) _ _ rz)
      · exact o.elim
    · exact o.elim
  · -- update
    rename_i l w
    obtain ⟨u, rfl, ru⟩ := rl.one
    obtain ⟨a, rfl, hl⟩ := r
    split at o
    · rename_i kvs more e
      obtain ⟨hz, o⟩ := o.iteN
      obtain ⟨ks, h1, h2⟩ := sr.cell l a _ hl e
      obtain ⟨b, ms, rfl, ⟨h3, hnb⟩, h4⟩ := ru
      obtain ⟨u', rfl, ru'⟩ := vals1 rs
      cases rx
      cases ru'
      refine d_update I h1 h3 (fun z => hnb (z ▸ Pl.at_in hl)) (by rw [← repP_length h2, ← repP_length h4, ← big_line]; exact hz) ?_
      exact fin_turn o sr hl ⟨_, upd_same, RepP.mv sr.sep (Mv.turn (List.mem_of_getElem? hl) _) _ _ (repP_merge h4 h2)⟩ rfl
    · exact o.elim
  · -- get1
    rename_i k
    obtain ⟨u, rfl, ru⟩ := rl.one
    split at o
    · rename_i kvs e
      obtain ⟨hk, o⟩ := o.iteN
      obtain ⟨a, ks, rfl, h1, h2⟩ := rep_dct sr r e
      obtain ⟨q, kq, rfl⟩ := keyIs_of hk ru
      have g := repP_get h2 kq
      obtain ⟨u', rfl, ru'⟩ := vals1 rs
      cases rx
      show wpAny _ _ (call (.builtin "dict.get") _) _ _ _
      refine d_get1 (by omega) I (o := valV ks q) (.inl ⟨ks, q, h1, rfl, rfl⟩) ru' fun w' s' I' rw' => ⟨_, H, I', rw', ?_⟩
      refine fin_val o sr ?_
      cases e2 : dget kvs k with
      | none => rw [e2] at g; simp only at g; rw [g]; exact rfl
      | some t => rw [e2] at g; simp only at g; obtain ⟨z, hz, rz⟩ := g; rw [hz]; exact rz
    · exact o.elim
  · -- get2
    rename_i k d
    obtain ⟨u, w, rfl, ru, rw0⟩ := rl.two
    split at o
    · rename_i kvs e
      obtain ⟨hk, o⟩ := o.iteN
      obtain ⟨a, ks, rfl, h1, h2⟩ := rep_dct sr r e
      obtain ⟨q, kq, rfl⟩ := keyIs_of hk ru
      have g := repP_get h2 kq
      obtain ⟨u', w', rfl, ru', rw1⟩ := vals2 rs
      cases rx
      show wpAny _ _ (call (.builtin "dict.get") _) _ _ _
      refine d_get2 (by omega) I (o := valV ks q) (.inl ⟨ks, q, h1, rfl, rfl⟩) ru' rw1 fun w' s' I' rw' => ⟨_, H, I', rw', ?_⟩
      refine fin_val o sr ?_
      cases e2 : dget kvs k with
      | none => rw [e2] at g; simp only at g; rw [g]; exact rw0
      | some t => rw [e2] at g; simp only at g; obtain ⟨z, hz, rz⟩ := g; rw [hz]; exact rz
    · exact o.elim
  · -- index
    rename_i w
    obtain ⟨u, rfl, ru⟩ := rl.one
    split at o
    · rename_i zs e
      split at o
      · rename_i ds d e1 e2
        obtain ⟨hs, o⟩ := o.iteN
        obtain ⟨hs1, hs2⟩ := Bool.and_eq_true_iff.mp hs
        split at o
        · rename_i j ej
          obtain ⟨z, g1, g2, g3⟩ := findIdx_of ej
          have dd := rep_pyOf sr ru e2
          have q := fin_val o sr (v := .int j) rfl
          rcases pyL_seq sr r e e1 with ⟨a, rfl, hk, dp⟩ | ⟨a, vs, rfl, hk, pl, dp⟩
          · rw [hk]
            exact mt_indexD (by omega) pins s σ H _ _ v us Q I rx rs ⟨a, u, d, ds, j, z, rfl, rfl, dp, dd, hs1, hs2, g1, g2, g3, q⟩
          · rw [hk]
            obtain ⟨uy, rfl, ry⟩ := vals1 rs
            cases rx
            obtain ⟨bs, r1⟩ := Dp.reads I d _ uy dd ry
            have hxs : PyData.canLayAll0 ds = true := SeqAt.canLay_of_shaped hs1
            have hroom : X.A.units + 1 + min (PyData.depthAll ds) d.depth < cLine := room_in_shaped hs2 (by omega)
            obtain ⟨its, ⟨cls, dd0, data, sls⟩, n, rv, ho, hc, hdn, hdt, hlen⟩ := Inv_plT I pl
            simp only at hc hdt
            subst hc hdt
            obtain ⟨as, h4⟩ := Dp.readsAll I ds _ its dp rv
            have hn : its.length = ds.length
                  := SeqAt.ReadsAll.length ds its as h4
            have hmap : its.map (SeqAt.readOf s.heap)
                  = ds := SeqAt.readsAll_map ds its as hxs h4
            have hvl := rv.length
            have hsl := sizeLine_eq
            obtain ⟨hjd, _⟩ := List.getElem?_eq_some_iff.mp g1
            have hjl : j
                  < its.length := by omega
            have hj : j <
                  its.toArray.size := by simpa using hjl
            have at_ : ∀ (m : Nat) (hm : m < its.toArray.size) (z' : PyData),
                  ds[m]? = some z' → SeqAt.readOf s.heap its.toArray[m] = z' := by
              intro m hm z' hz'
              have hml : m <
                    its.length := by simpa using hm
              rw [← hmap, List.getElem?_map, List.getElem?_eq_getElem hml]
                    at hz'
              have e1 : SeqAt.readOf s.heap its[m] = z' := Option.some.inj
                    (show some (SeqAt.readOf s.heap its[m]) = some z' from hz')
              simpa using e1
            show wpAny _ _ (call (.builtin "tuple.index") _) _ _ _
            refine call_meets PySem.F.slot_tuple_index ⟨_, ho, rfl⟩ PySem.F.entry_tuple_index (PySem.F.args_tuple_index_2 _ _)
              (_root_.TI.tuple_indexAt a its.toArray n dd0 sls uy (fun u => PyData.eqv (SeqAt.readOf s.heap u) d) j hj ?_ ?_) ⟨ho, SeqAt.items_eqAt (vs := its.toArray) (show ReadsAll s.heap its.toArray.toList ds as from h4) r1 hxs (SeqAt.canLay_of_shaped hs2) hroom, ?_⟩
            · show PyData.eqv
                    (SeqAt.readOf s.heap its.toArray[j]) d = true
              rw [at_ j hj z g1]
              exact g2
            · intro m hm hmj
              have hmd :
                    m < ds.length := by omega
              have hz' : ds[m]? = some
                    ds[m] := List.getElem?_eq_getElem hmd
              show PyData.eqv
                    (SeqAt.readOf s.heap its.toArray[m]) d = false
              rw [at_ m hm _ hz']
              exact g3 m _ hmj hz'
            · exact
                    ⟨.int (j : Nat), H, I.tok _, ⟨_, rfl⟩, q⟩
        · exact o.elim
      · exact o.elim
    · exact o.elim
  · exact o.elim
end
end Lw
set_option Elab.async false
set_option linter.all false
set_option maxRecDepth 100000
set_option
      maxHeartbeats 4000000
/-! LwS: sorted(set(list of ints)). -/
namespace Lw
open PySem PySem.Spec L2 PyProof.Rows
theorem insU_mem {x k : Int} : ∀ {l : List Int}, k ∈ insU x l ↔ k = x ∨ k ∈ l
  | [] => by simp [insU]
  | y :: ys => by
    unfold insU
    split
    · simp
    · split
      · rename_i h; subst h; simp
      · simp only [List.mem_cons, insU_mem (l := ys)]
        constructor
        · rintro (h | h | h) <;> simp [h]
        · rintro (h | h | h) <;> simp [h]
theorem insU_up {x : Int} : ∀ {l : List Int}, l.Pairwise (· < ·) → (insU x l).Pairwise (· < ·)
  | [], _ => by simp [insU]
  | y :: ys, h => by
    obtain ⟨h1, h2⟩ :=
          List.pairwise_cons.mp h
    unfold insU
    split
    · rename_i hxy
      exact List.pairwise_cons.mpr ⟨fun z hz => by rcases List.mem_cons.mp hz with rfl | hz; exact hxy; have := h1 z hz; omega, h⟩
    · split
      · exact h
      · exact List.pairwise_cons.mpr ⟨fun z hz => by rcases insU_mem.mp hz with rfl | hz; omega; exact h1 z hz, insU_up h2⟩
theorem sortU_mem {k : Int} : ∀ {l : List Int}, k ∈ sortU l ↔ k ∈ l
  | [] => by simp [sortU]
  | x :: xs => by rw [sortU, insU_mem, sortU_mem (l := xs), List.mem_cons]
theorem sortU_up : ∀ {l : List Int}, (sortU l).Pairwise (· < ·)
  | [] => List.Pairwise.nil
  | x :: xs => insU_up sortU_up
theorem up_uniq : ∀ {l m : List Int}, l.Pairwise (· < ·) → m.Pairwise (· < ·) → (∀ k, k ∈ l ↔ k ∈ m) → l = m
  | [], [], _, _, _ => rfl
  | [], y :: m, _, _, h => absurd ((h y).mpr List.mem_cons_self) (by simp)
  | x :: l, [], _, _, h => absurd ((h x).mp List.mem_cons_self) (by simp)
  | x :: l, y ::
        m, hl, hm, h => by
    obtain ⟨a1, a2⟩ := List.pairwise_cons.mp hl
    obtain ⟨b1, b2⟩ := List.pairwise_cons.mp hm
    have e : x = y := by
      rcases List.mem_cons.mp ((h x).mp List.mem_cons_self) with e | e
      · exact e
      · rcases List.mem_cons.mp ((h y).mpr List.mem_cons_self) with e' | e'
        · exact e'.symm
        · have := b1 x e; have := a1 y e'; omega
    subst e
    rw [up_uniq a2 b2 fun k => ⟨fun z => ?_, fun z => ?_⟩]
    · rcases List.mem_cons.mp ((h k).mp (List.mem_cons_of_mem _ z)) with e | e
      · subst e; exact absurd (a1 k z) (Int.lt_irrefl k)
      · exact e
    · rcases List.mem_cons.mp ((h k).mpr (List.mem_cons_of_mem _ z)) with e | e
      · subst e; exact absurd (b1 k z) (Int.lt_irrefl k)
      · exact e

section
variable {P : Program} {w : World} {A : Around}
      {E : Value → Shared → Prop} {s : Shared}
/-- a new set's object -/
abbrev newSet (w : World) : Obj := { cls := .type "set", dict := none, data := .set #[] 0 (.fresh 0 0 (!w.params.followText "set-order")) }
/-- the twin of the kit's rule for tuples -/
theorem call_set_lstI {l : Addr} {items : Array Value} (ns : List Int) {Q : Value → Shared → Prop} (hh : A.handled = none) (hl : s.heap.IsList l items) (hit : IntsAre items.toList ns) (hb : ns.length + 1 < scanBound)
    (h : ∀ (h' : Heap) (tk c : Nat), SetR w h' s.heap.objs.size (fun j => decide (j ∈ ns)) c → c ≤ ns.length → (∀ b o, s.heap.get? b = some o → h'.get? b = some o) → Q (.ref s.heap.objs.size) { s with heap := h', toks := tk })
          :
    wpAny (model P w) A
          (call (.type "set") [.ref l]) Q E s := by
  have hisz : items.size = ns.length := by simpa using IntsAre.length hit
  obtain ⟨c, tl, hmro⟩
        := F.called_set.mro
  have hmade :=
        F.called_set.made
  have hsub := F.called_set.sub
  refine wpAny_call
        (codeAny_of_tree ?_)
  show wpAny _ _
        (callAny (.type "set") _) _ _ _
  refine wpAny_pure
        ⟨Code.quiet_builtin _ (by decide +kernel), codeAny_builtin F.entry_type_call ?_⟩
  rw [Around.under_plain
        (weight_type_call_type "set" [.ref l] []) rfl]
  have h1 :=
        F.called_set.notType
  have h2 :=
        F.called_set.canCreate
  have hct :=
        F.typeCall_set_1 (.ref l)
  repeat
        (any_goals (first | assumption | wp_step))

  refine codeAny_mono (code_set_led1 (.ref l) (E := E) (Q₁ := fun obj s₁ => obj = .ref s.heap.objs.size ∧ s₁ = { s with heap := s.heap.push (newSet w) }) ⟨rfl, rfl⟩) fun r s₁ hr => ?_
  match r, hr with
  | .error e, hr => exact hr
  | .ok (.ret obj), hr =>
      obtain ⟨rfl, rfl⟩ := hr
      have hS : (s.heap.push (newSet w)).get? s.heap.objs.size = some (newSet w) := Heap.get?_push_size _ rfl
      have hT : Shared.TypeIs { s with heap := s.heap.push (newSet w) } (.ref s.heap.objs.size) "set" := ⟨_, hS, rfl⟩
      have hli :=
            F.called_set.init.lookup
      have hbi := F.called_set.init.bind
            (.ref s.heap.objs.size)
      repeat
            (any_goals (first | assumption | wp_step))

      refine codeAny_mono
            (codeAny_call_builtin (R := wants (fun r s₂ => r = .none ∧ ∃ h' tk c, s₂ = { s with heap := h', toks := tk } ∧ SetR w h' s.heap.objs.size (fun j => decide (j ∈ ns)) c ∧ c ≤ ns.length ∧
          (∀ b o, s.heap.get? b = some o → h'.get? b = some o)) E) F.called_set.init.plain F.entry_set_init (check_set_init_1 hT ?_))
                fun r₂ s₂ hr₂ => ?_
      · obtain ⟨⟨ocls, odict, odata, oslots⟩, hol, hcl, nl, hdl⟩ := hl
        simp only at hcl hdl
        subst hcl; subst hdl
        have hol' : (s.heap.push (newSet w)).get? l = some { cls := .type "list", dict := odict, data := .seq items nl, slots := oslots } := Heap.get?_push_of_some _ hol
        have hsls := F.sub_list_set
        have hslf :=
              F.sub_list_frozenset
        have hne :
              (Value.type "list" == Value.type "dict") = false := by decide
        have hl1 : (s.heap.push (newSet w)).IsList l items := ⟨_, hol', rfl, nl, rfl⟩
        unfold Builtin.«set.__init__»
              noKeywords Builtin.Frozenset.updateFrom
        generalize hPI : pyIter = PI
        wp_walk
        subst hPI

        refine
              wpAny_pyIter_list hl1 ?_
        refine wpAny_bind
              (wpAny_runValue ?_)
        have hlS : l <
              s.heap.objs.size := Heap.lt_size hol
        have hh3 :
              A.in1.in1.in1.handled = none := by simp [hh]
        have hz1 : (s.heap.push (newSet w)).objs.size = s.heap.objs.size + 1 := Heap.size_push ..
        have hneI : l ≠ (s.heap.push (newSet w)).objs.size := Nat.ne_of_lt (by rw [hz1]; exact Nat.lt_succ_of_lt hlS)
        have hSf : s.heap.objs.size ∉ [(s.heap.push (newSet w)).objs.size, l] := by
          simp only [List.mem_cons, List.not_mem_nil, or_false, not_or]
          exact ⟨Nat.ne_of_lt (by rw [hz1]; exact Nat.lt_succ_self _), Nat.ne_of_gt hlS⟩
        have hval : ∀ (i : Nat) (v : Value), items[i]? = some
              v → ∃ k t, ns[i]? = some k ∧ v = .int k t := fun i v hv => by
          have hi
                : i < ns.length := by rw [← hisz]; exact (Array.getElem?_eq_some_iff.mp hv).1
          obtain ⟨t, e⟩ := PyProof.Rows.IntsAre.int_at
                hit i v (by rw [Array.getElem?_toList]; exact hv)
          refine
                ⟨ns[i], t, List.getElem?_eq_getElem hi, ?_⟩
          rw [e, List.getD_eq_getElem?_getD, List.getElem?_eq_getElem hi]
                <;> rfl
        refine set_update_ints ((Walks.list hh3 _ l hneI items).toS) s.heap.objs.size
          hSf ns hisz hb hval (items.size - 0)
                0 _ (by omega) (Nat.zero_le _)
          ⟨⟨_, Heap.get?_push_size _ rfl, rfl, rfl⟩, (hl1.push _)⟩
                ?hS0 ?hR
        case hS0 =>
          have hget : ((s.heap.push (newSet w)).push { cls := .type "list_iterator", data := .fields #[.ref l, .int 0 0] }).get? s.heap.objs.size = some (newSet w) := Heap.get?_push_of_some _ hS
          exact
                ⟨0, Nat.le_refl 0, setR_new_at hget⟩
        case hR =>
          intro s' c' hm hc' hS'
          obtain
                ⟨h', g2, d', tk', os'⟩ := s'
          cases (show g2 = s.gens from hm.gens)
          cases (show d' = s.drawn from hm.drawn)
          cases (show os' = s.os from hm.os)
          show wpAny _ _ _ _ _ _
          refine wpAny_pure ?_
          show wpAny _ _
                (ret Value.none) _ _ _
          rw [hisz] at hc'
          refine wpAny_pure
                ⟨rfl, h', tk', c', rfl, hS', hc', fun b o e => ?_⟩
          have hb0 : b <
                s.heap.objs.size := Heap.lt_size e
          refine hm.heap b o ?_ (Heap.get?_push_of_some _ (Heap.get?_push_of_some _ e))
          simp only [List.mem_cons, List.not_mem_nil, or_false, not_or]
          exact ⟨Nat.ne_of_lt hb0, Nat.ne_of_lt (by rw [hz1]; exact Nat.lt_succ_of_lt hb0)⟩

      · match r₂, hr₂ with
        | .error e, hr₂ => exact hr₂
        | .ok (.ret r), hr₂ =>
            obtain
                  ⟨rfl, h', tk, c', rfl, hS', hc', hk'⟩ := hr₂
            repeat
                  (any_goals (first | assumption | wp_step))
            exact h _ _ _ hS' hc' hk'
        | .ok .next, hr₂ => exact hr₂.elim
        | .ok .brk, hr₂ => exact hr₂.elim
        | .ok .cont, hr₂ => exact hr₂.elim
  | .ok .next, hr => exact hr.elim
  | .ok .brk, hr => exact hr.elim
  | .ok .cont, hr => exact hr.elim
end

end Lw
set_option Elab.async false
set_option linter.all false
set_option maxRecDepth 100000
set_option
      maxHeartbeats 4000000
/-! LwN: sorted(set(list of texts)), after the shape of the rules for ints. -/
namespace Lw
open PySem PySem.Spec L2 PyProof.Rows
/-! ### the plain part -/
def Mem2 (l m : List Str) : Prop := ∀ k, k ∈ l ↔ k ∈ m
theorem srS_set : ∀ {l m : List Str}, SrS l → SrS m → l.Nodup → m.Nodup → Mem2 l m → l = m
  | [], [], _, _,
        _, _, _ => rfl
  | [], y :: m, _, _, _, _, h => absurd ((h y).mpr List.mem_cons_self) (by simp)
  | x :: l, [], _, _, _, _, h => absurd ((h x).mp List.mem_cons_self) (by simp)
  | x :: l, y :: m, hl, hm, nl, nm, h => by
    obtain ⟨a1, a2⟩ := List.pairwise_cons.mp hl
    obtain ⟨b1, b2⟩ := List.pairwise_cons.mp hm
    obtain ⟨c1, c2⟩ := List.nodup_cons.mp nl
    obtain ⟨d1, d2⟩ := List.nodup_cons.mp nm
    have e : x = y := by
      rcases List.mem_cons.mp ((h x).mp List.mem_cons_self) with e | hx
      · exact e
      · rcases List.mem_cons.mp ((h y).mpr List.mem_cons_self) with e | hy
        · exact e.symm
        · exact str_eq (List.le_antisymm (a1 y hy) (b1 x hx))
    subst e
    rw [srS_set a2 b2 c2 d2 fun k => ⟨fun z => ?_, fun z => ?_⟩]
    · rcases List.mem_cons.mp ((h k).mp (List.mem_cons_of_mem _ z)) with e | e
      · subst e; exact absurd z c1
      · exact e
    · rcases List.mem_cons.mp ((h k).mpr (List.mem_cons_of_mem _ z)) with e | e
      · subst e; exact absurd z d1
      · exact e
theorem insS_mem {x z : Str} : ∀ {l : List Str}, z ∈ insS x l ↔ z = x ∨ z ∈ l
  | [] => by simp [insS]
  | y :: ys => by
    unfold insS
    split
    · rw [List.mem_cons, insS_mem (l := ys), List.mem_cons]
      constructor
      · rintro (h | h | h) <;> simp [h]
      · rintro (h | h | h) <;> simp [h]
    · simp
theorem insS_nodup {x : Str} : ∀ {l : List Str}, x ∉ l → l.Nodup → (insS x l).Nodup
  | [], _, _ => by simp [insS]
  | y :: ys, h, n => by
    obtain ⟨n1, n2⟩ := List.nodup_cons.mp n
    unfold insS
    split
    · refine List.nodup_cons.mpr ⟨fun z => ?_, insS_nodup (fun z => h (List.mem_cons_of_mem _ z)) n2⟩
      rcases insS_mem.mp z with e | z
      · exact h (e ▸ List.mem_cons_self)
      · exact n1 z
    · exact List.nodup_cons.mpr ⟨h, n⟩
theorem sortS_mem {z : Str} : ∀ {l : List Str}, z ∈ sortS l ↔ z ∈ l
  | [] => by simp [sortS]
  | x :: xs => by rw [sortS, insS_mem, sortS_mem (l := xs), List.mem_cons]
theorem sortS_nodup : ∀ {l : List Str}, l.Nodup → (sortS l).Nodup
  | [], _ => List.nodup_nil
  | x :: xs, n => by
    obtain ⟨n1, n2⟩ := List.nodup_cons.mp n
    exact insS_nodup (fun z => n1 (sortS_mem.mp z)) (sortS_nodup n2)
theorem dedS_mem {z : Str} : ∀ {l : List Str}, z ∈ dedS l ↔ z ∈ l
  | [] => by simp [dedS]
  | x :: xs => by
    unfold dedS
    split
    · rename_i h
      rw [dedS_mem (l := xs), List.mem_cons]
      exact ⟨.inr, fun q => q.elim (fun e => e ▸ h) id⟩
    · rw [List.mem_cons, dedS_mem (l := xs), List.mem_cons]
theorem dedS_nodup : ∀ l : List Str, (dedS l).Nodup
  | [] => List.nodup_nil
  | x :: xs => by
    unfold dedS
    split
    · exact dedS_nodup xs
    · rename_i h
      exact List.nodup_cons.mpr ⟨fun z => h (dedS_mem.mp z), dedS_nodup xs⟩
theorem strs_get : ∀ {vs : List Value} {ss : List Str}, StrsAre vs ss → ∀ (i : Nat) (v : Value), vs[i]? = some v → ∃ k t, ss[i]? = some k ∧ v = .str k t := fun h i v e => by
  obtain ⟨y, t, a, b⟩ := PyProof.Rows.StrsAre.item h i v e
  exact ⟨y, t, b, a⟩

/-! ### a set of texts: its rows, its table -/
def txOf (e : Int × Value) : Str := match e.2 with
  | .str k _ => k
  | _ => Str.empty
def TxGood (w : World) (e : Int × Value) : Prop := ∃ k tk, e = (hashStr w k, Value.str k tk)
structure TxRow (w : World) (S : Str → Bool) (n : Nat) (es : Array (Int × Value)) (t : SetTable) : Prop where
  good : ∀ e ∈ es.toList, TxGood w e
  nd : (es.toList.map txOf).Nodup
  mem : ∀ k, S k = true ↔ k ∈ es.toList.map txOf
  few : es.size < scanBound
  fits : t.fits es.size = true
  size : es.size = n
  ris : Ris t.place.toList
  led : w.params.followText
        "set-order" = true ∨ t.led = true
def TxR (w : World) (h : Heap) (a : Addr) (S : Str → Bool) (n : Nat) : Prop := ∃ o es ep t, h.get? a = some o ∧ o.ExactSet ∧ o.data = .set es ep t ∧ TxRow w S n es t
section
variable {P : Program} {w : World} {h h' : Heap} {a : Addr} {S : Str → Bool} {n : Nat}
theorem TxR.at (R : TxR w h a S n) (k : ∀ o, h.get? a = some o → h'.get? a = some o) : TxR w h' a S n := by
  obtain
        ⟨o, es, ep, t, ho, r⟩ := R
  exact
        ⟨o, es, ep, t, k o ho, r⟩
theorem TxR.congr {S' : Str → Bool} (R : TxR w h a S n) (e : ∀ k, S' k = S k) : TxR w h a S' n := (funext e : S' = S) ▸ R
theorem tx_is (k : Str) (u : Tok) : (strKind P w).is k (.str k u) = true := by show (k == k) = true; exact beq_self_eq_true k
theorem tx_elems {l : List (Int × Value)} (g : ∀ e ∈ l, TxGood w e) : ElemsOf (strKind P w) l := fun e he => by
  obtain ⟨k, tk, rfl⟩ := g e he
  exact ⟨⟨k, tx_is k tk, rfl⟩, rfl⟩
theorem tx_key {e : Int × Value} (g : TxGood w e) (k : Str) : (strKind P w).is k e.2 = true ↔ txOf e = k := by
  obtain ⟨q, tk, rfl⟩ := g
  constructor
  · intro z
    exact (strKind P w).inj _ _ _ (tx_is q tk) z
  · intro z
    rw [show q = k from z]
    exact tx_is k tk
theorem tx_mem {l : List (Int × Value)} (g : ∀ e ∈ l, TxGood w e) (k : Str) : k ∈ l.map txOf ↔ ∃ e ∈ l, (strKind P w).is k e.2 = true := by
  rw [List.mem_map]
  exact ⟨fun ⟨e, he, q⟩ => ⟨e, he, (tx_key (g e he) k).mpr q⟩, fun ⟨e, he, q⟩ => ⟨e, he, (tx_key (g e he) k).mp q⟩⟩
end
section
variable {P : Program} {w : World} {A : Around} {E : Value → Shared → Prop} {s : Shared} {a : Addr} {S : Str → Bool} {n : Nat}
/-- the row is stored; the table is laid anew where it is too full -/
theorem tx_tail {g : Bool → Sem Unit} (hg : ∀ (b : Bool) (s₁ : Shared) (Q' : Unit → Shared → Prop), Q' () s₁ → wpAny (model P w) A (g b) Q' E s₁)
    {o : Obj} {es : Array (Int × Value)} {ep : Nat} {t : SetTable}
          (ho : s.heap.get? a = some o) (hex : o.ExactSet) (hd : o.data = .set es ep t)
    {es1 : Array (Int × Value)} {t2 : SetTable} {S' : Str → Bool} (T : TxRow w S' es1.size es1 t2) {dm : Bool} {R : Option Bool → Shared → Prop}
    (hR : ∀ h', Heap.SameBut a s.heap h' → TxR w h' a S' es1.size → R (some true) { s with heap := h' }) :
    wpAny (model P w) A (do
        storeSet a es1 t2
        if (!dm && t2.tooFull) = true then do
            g (relayAll t2 es1
                  (SetTable.grown es1.size)).2.2
            storeSet a (relayAll t2 es1 (SetTable.grown es1.size)).1
                  (relayAll t2 es1 (SetTable.grown es1.size)).2.1
            pure (some true)
          else pure (some true))
                R E s := by
  refine wpAny_bind (wpAny_storeSet_of ho hd ?_ (fits_of_scanBound T.few))
  have o1 := store_at (es' := es1) (t' := t2) ho hd
  have b1 := Heap.SameBut.update s.heap a (Obj.putSet es1 t2)
  split
  · have pm := relayAll_perm t2
          es1 (SetTable.grown es1.size)
    have f3 := relayAll_fits t2 es1 (SetTable.grown es1.size)
    have r3 := relayAll_ris t2 es1 (SetTable.grown es1.size)
    have l3 := relayAll_led t2 es1 (SetTable.grown es1.size)
    generalize relayAll t2 es1 (SetTable.grown es1.size) = Z at pm f3 r3 l3 ⊢
    obtain ⟨es2, t3, gave⟩ := Z
    dsimp only at pm f3 r3 l3 ⊢
    have sz : es2.size = es1.size := by rw [← Array.length_toList, pm.length_eq, Array.length_toList]
    have few2 : es2.size < scanBound := sz ▸ T.few
    refine wpAny_bind
          (hg _ _ _ ?_)
    refine wpAny_bind (wpAny_storeSet_of o1 rfl ?_ (fits_of_scanBound few2))
    have o2 := store_at (es' := es2) (t' := t3) o1 rfl
    refine wpAny_pure (hR _ (b1.trans (Heap.SameBut.update _ a _)) ⟨_, es2, _, t3, o2, hex, rfl, ?_⟩)
    exact ⟨fun e he => T.good e (pm.mem_iff.mp he), (pm.map txOf).nodup_iff.mpr T.nd, fun k => (T.mem k).trans (pm.map txOf).mem_iff.symm, few2, f3, sz, r3, T.led.imp id fun z => by rw [l3]; exact z⟩
  · exact wpAny_pure (hR _ b1 ⟨_, es1, _, t2, o1, hex, rfl, T⟩)
/-- a text comes to the set -/
theorem tx_add {k : Str} {tk : Tok} {Q : Bool → Shared → Prop} (R : TxR w s.heap a S n) (room : n + 1 < scanBound)
    (hQ : ∀ h', Heap.SameBut a s.heap h' → TxR w h' a (fun j => S j || decide (j = k)) (if S k = true then n else n + 1) → Q (!S k) { s with heap := h' }) :
    wpAny (model P w) A (setAddHashed a (.str k tk) ((strKind P w).hash k)) Q E s := by
  obtain ⟨o, es, ep, t, ho, hex, hd, T⟩ := R
  have hk : (strKind P w).is k (.str k tk) = true := tx_is k tk
  have sc : (Value.str k tk).scannable = true := rfl
  have el : ElemsOf (strKind P w) es.toList := tx_elems T.good
  unfold setAddHashed
        setAddHashedIn
  refine wpAny_holding (wpAny_bind (wpAny_setState_of ho hd T.fits ?_))
  dsimp only
  rw [byScan_of sc T.few el]
  simp only [↓reduceIte]
  unfold setAddByScan
  refine wpAny_bind ?_
  refine wpAny_bind
        (wpAny_rule ?_)
  refine wpAny_bind (wpAny_setScan_of hk ho hd T.fits el ?_)
  cases hfi : List.findIdx? (fun e => (strKind P w).is k e.2) es.toList with
  | some j =>
    dsimp only
    obtain ⟨hj, pj, _⟩ :=
          List.findIdx?_eq_some_iff_getElem.mp hfi
    have hS : S k = true := (T.mem k).mpr ((tx_mem (P := P) (w := w) T.good k).mpr ⟨es.toList[j], List.getElem_mem hj, pj⟩)
    refine wpAny_pure
          (wpAny_pure ?_)
    have q := hQ s.heap (Heap.SameBut.refl a s.heap) ⟨o, es, ep, t, ho, hex, hd, T.good, T.nd, fun i => by
      rw [Bool.or_eq_true, decide_eq_true_eq, ← T.mem i]
      exact ⟨fun z => z.elim id (fun e => e ▸ hS), .inl⟩, T.few, T.fits, by rw [if_pos hS]; exact T.size, T.ris, T.led⟩
    rw [hS] at q
    exact q
  | none =>
    dsimp only
    have nk : k ∉ es.toList.map txOf := fun z => by
      obtain ⟨e, he, q⟩ := (tx_mem (P := P) (w := w) T.good k).mp z
      have c :=
            List.findIdx?_eq_none_iff.mp hfi e he
      rw [q] at c
      cases c
    have hS : S k = false := by
      cases q : S k with
      | false => rfl
      | true => exact absurd ((T.mem k).mp q) nk
    have gw : ∀ (b : Bool) {s₁ : Shared} {Q' : Unit → Shared → Prop}, Q' () s₁ → wpAny (model P w) A (match b with | true => rule "set.scan.the-table-gave-way" | false => pure ()) Q' E s₁ :=
      fun b
            s₁ Q' q => by cases b <;> first | exact wpAny_pure q | exact wpAny_rule q
    have pm := layNew_perm t es ((strKind P w).hash k) (.str k tk)
    have f1 := layNew_fits t es ((strKind P w).hash k) (.str k tk)
    have r1 := layNew_ris t es ((strKind P w).hash k) (.str k tk) T.ris
    have l1 := layNew_led t es ((strKind P w).hash k) (.str k tk)
    generalize layNew t es ((strKind P w).hash k) (.str k tk) = Z at pm f1 r1 l1 ⊢
    obtain ⟨es1, t1, dm, gave⟩ := Z
    dsimp only at pm f1 r1 l1 ⊢
    rw [Array.toList_push] at pm
    have pc : es1.toList.Perm (((strKind P w).hash k, Value.str k tk) :: es.toList) := pm.trans (List.perm_append_singleton _ _)
    have pk : (es1.toList.map txOf).Perm (k :: es.toList.map txOf) := pc.map txOf
    have sz : es1.size = n + 1 := by rw [← Array.length_toList, pc.length_eq, List.length_cons, Array.length_toList, T.size]
    have T1 : TxRow w (fun j => S j || decide (j = k)) es1.size es1 t1 := by
      refine ⟨fun e he => ?_, pk.nodup_iff.mpr (List.nodup_cons.mpr ⟨nk, T.nd⟩), fun i => ?_, by rw [sz]; exact room, f1, rfl, r1, T.led.imp id fun z => by rw [l1]; exact z⟩
      · rcases List.mem_cons.mp (pc.mem_iff.mp he) with z | z
        · exact ⟨k, tk, z⟩
        · exact T.good e z
      · show (S i || decide (i = k)) = true ↔ _
        rw [Bool.or_eq_true, decide_eq_true_eq, T.mem i, pk.mem_iff, List.mem_cons]
        exact Or.comm
    have fin : ∀ h', Heap.SameBut a s.heap h' → TxR w h' a (fun j => S j || decide (j = k)) es1.size → Q true { s with heap := h' } := fun h' sb r => by
      have q := hQ h' sb
      rw [hS] at q
      rw [sz] at r
      exact q r
    have hgg : ∀ (b : Bool) (s₁ : Shared) (Q' : Unit → Shared → Prop), Q' () s₁ → wpAny (model P w) A (match b with | true => rule "set.scan.the-table-gave-way" | false => pure ()) Q' E s₁ := fun b s₁ Q' q => gw b q
    refine wpAny_bind (gw _ ?_)
    split
    · refine wpAny_bind ?_
      rw [hashByValue_scannable 8 sc]
      refine wpAny_pure ?_
      refine tx_tail (S' := fun j => S j || decide (j = k)) ?_ ho hex hd ?_ ?_
      · intro b
              s₁ Q' q; cases b <;> first | exact wpAny_pure q | exact wpAny_rule q
      · split
        · first | exact ⟨T1.good, T1.nd, T1.mem, T1.few, T1.fits, T1.size, T1.ris, T1.led⟩ | exact ⟨T1.good, T1.nd, T1.mem, T1.few, SetTable.fits_plain_off T1.fits, T1.size, T1.ris, T1.led⟩
        · first | exact ⟨T1.good, T1.nd, T1.mem, T1.few, T1.fits, T1.size, T1.ris, T1.led⟩ | exact ⟨T1.good, T1.nd, T1.mem, T1.few, SetTable.fits_plain_off T1.fits, T1.size, T1.ris, T1.led⟩
      · intro h' sb r; dsimp only;
              exact wpAny_pure (fin h' sb r)
    · refine wpAny_bind
            (wpAny_pure ?_)
      simp only [↓reduceIte]
      refine tx_tail ?_ ho hex hd T1 ?_
      · intro b
              s₁ Q' q; cases b <;> first | exact wpAny_pure q | exact wpAny_rule q
      · intro h' sb r; dsimp only;
              exact wpAny_pure (fin h' sb r)
theorem txR_new_at {h : Heap} {a : Addr} (ho : h.get? a = some { cls := .type "set", dict := none, data := .set #[] 0 (.fresh 0 0 (!w.params.followText "set-order")) }) : TxR w h a (fun k => decide (k ∈ ([] : List Str))) 0 :=
  ⟨_, #[], 0, _, ho,
        ⟨rfl, rfl, rfl⟩, rfl, (fun e he => by simp at he), (by simp), (fun k => by simp), (by decide), (by rfl), rfl, List.Pairwise.nil, by
    show _ ∨
          (!w.params.followText "set-order") = true
    cases w.params.followText "set-order" <;> simp⟩
/-- a walk's texts come to the set -/
theorem set_update_txts {I : Addr} {fp wr : List Addr} {G : Array GenState → Array GenState → Prop} {n : Nat} {Pv : Nat → Value → Prop} {St : Nat → Shared → Prop} {R : Result → Shared → Prop}
    (W : WalksS P w A.in1 I fp wr G n Pv St) (S : Addr) (out : S ∉ fp) (ns : List Str) (hn : n = ns.length) (hb : ns.length + 1 < scanBound) (hval : ∀ i v, Pv i v → ∃ k t, ns[i]? = some k ∧ v = .str k t) :
    ∀ (k i : Nat) (s : Shared), n - i = k → i ≤ n → St i s → (∃ c, c ≤ i ∧ TxR w s.heap S (fun j => decide (j ∈ ns.take i)) c) →
      (∀ s' c, Moved (S :: wr) G s s' → c ≤ n → TxR w s'.heap S (fun j => decide (j ∈ ns)) c → R (.ok (.ret .none)) s') →
      codeAny (model P w) A
            (.builtin "set.update.loop" ⟨[.ref S, .ref I], []⟩) R s := by
  have sw : S ∉ wr := fun h => out (W.sub _ h)
  have su : ∀ b ∈ wr, b ∈ S :: wr := fun b hb => List.mem_cons_of_mem _ hb
  intro k
  induction k with
  | zero =>
    intro i s hk hi hst ⟨c, hc, hS⟩ hR
    obtain rfl : i = n := by omega
    refine codeAny_builtin
          F.entry_set_update_loop ?_
    rw [Around.under_plainId
          F.plain_set_update_loop _]
    show wpAny _ A.in1
          (pyNext (.ref I) >>= _) _ _ s
    refine wpAny_bind
          (W.done s _ _ hst fun s' hm => ?_)
    show wpAny _ A.in1
          (ret Value.none) _ _ s'
    rw [show ns.take i = ns from List.take_of_length_le (by omega)] at hS
    exact wpAny_pure (hR s' c (hm.mono su) hc (hS.at fun o e => hm.heap S o sw e))
  | succ k ih =>
    intro i s hk hi hst ⟨c, hc, hS⟩ hR
    have lt : i < n := by omega
    refine codeAny_builtin
          F.entry_set_update_loop ?_
    rw [Around.under_plainId
          F.plain_set_update_loop _]
    show wpAny _ A.in1
          (pyNext (.ref I) >>= _) _ _ s
    refine wpAny_bind (W.item i s _ _ lt hst fun v s' hP hst' hm => ?_)
    obtain ⟨z, t, hz, rfl⟩
          := hval i v hP
    have h1 : TxR w s'.heap S (fun j => decide (j ∈ ns.take i)) c := hS.at fun o e => hm.heap S o sw e
    show wpAny _ A.in1 (holding [Value.str z t] (setAdd S (.str z t)) >>= _) _ _ s'
    refine wpAny_bind
          (wpAny_holding ?_)
    unfold setAdd
    refine wpAny_holding ?_
    refine wpAny_bind ((strKind P w).pyHash (k := z) (tx_is z t) ?_)
    refine tx_add (s := { s' with toks := s'.toks + 1 }) h1 (by omega) fun h' sb h2 => ?_
    have h3 : TxR w h' S (fun j => decide (j ∈ ns.take (i + 1))) (if decide (z ∈ ns.take i) = true then c else c + 1) := h2.congr fun j => by
      rw [List.take_add_one, hz]
      simp [List.mem_append]
    have c3 : (if decide (z ∈ ns.take i) = true then c else c + 1) ≤ i + 1 := by
      split <;> omega
    refine wpAny_pure ⟨plainId_quiet F.plain_set_update_loop _, ih (i + 1) _ (by omega) lt (W.frame _ s' _ _ hst' (Nat.le_succ _) fun b hb o e => ?_) ⟨_, c3, h3⟩ fun s'' c2 m2 c4 h4 => ?_⟩
    · rw [sb.2 b fun h : b = S => out (h ▸ hb)]
      exact e
    · refine hR s'' c2 (Moved.trans W.gtrans ((hm.mono su).then_heap (Nat.le_succ _) fun b o hb e => ?_) m2) c4 h4
      rw [sb.2 b fun h : b = S => hb (by rw [h]; exact List.mem_cons_self)]
      exact e
abbrev newSet2 (w : World) : Obj := { cls := .type "set", dict := none, data := .set #[] 0 (.fresh 0 0 (!w.params.followText "set-order")) }
/-- set(list of texts) -/
theorem call_set_lstT {l : Addr} {items : Array Value} (ns : List Str) {Q : Value → Shared → Prop} (hh : A.handled = none) (hl : s.heap.IsList l items) (hit : StrsAre items.toList ns) (hb : ns.length + 1 < scanBound)
    (h : ∀ (h' : Heap) (tk c : Nat), TxR w h' s.heap.objs.size (fun j => decide (j ∈ ns)) c → c ≤ ns.length → (∀ b o, s.heap.get? b = some o → h'.get? b = some o) → Q (.ref s.heap.objs.size) { s with heap := h', toks := tk })
          :
    wpAny (model P w) A
          (call (.type "set") [.ref l]) Q E s := by
  have hisz : items.size = ns.length := by simpa using StrsAre.length hit
  obtain ⟨c, tl, hmro⟩
        := F.called_set.mro
  have hmade :=
        F.called_set.made
  have hsub := F.called_set.sub
  refine wpAny_call
        (codeAny_of_tree ?_)
  show wpAny _ _
        (callAny (.type "set") _) _ _ _
  refine wpAny_pure
        ⟨Code.quiet_builtin _ (by decide +kernel), codeAny_builtin F.entry_type_call ?_⟩
  rw [Around.under_plain
        (weight_type_call_type "set" [.ref l] []) rfl]
  have h1 :=
        F.called_set.notType
  have h2 :=
        F.called_set.canCreate
  have hct :=
        F.typeCall_set_1 (.ref l)
  repeat
        (any_goals (first | assumption | wp_step))

  refine codeAny_mono (code_set_led1 (.ref l) (E := E) (Q₁ := fun obj s₁ => obj = .ref s.heap.objs.size ∧ s₁ = { s with heap := s.heap.push (newSet2 w) }) ⟨rfl, rfl⟩) fun r s₁ hr => ?_
  match r, hr with
  | .error e, hr => exact hr
  | .ok (.ret obj), hr =>
      obtain ⟨rfl, rfl⟩ := hr
      have hS : (s.heap.push (newSet2 w)).get? s.heap.objs.size = some (newSet2 w) := Heap.get?_push_size _ rfl
      have hT : Shared.TypeIs { s with heap := s.heap.push (newSet2 w) } (.ref s.heap.objs.size) "set" := ⟨_, hS, rfl⟩
      have hli :=
            F.called_set.init.lookup
      have hbi := F.called_set.init.bind
            (.ref s.heap.objs.size)
      repeat
            (any_goals (first | assumption | wp_step))

      refine codeAny_mono
            (codeAny_call_builtin (R := wants (fun r s₂ => r = .none ∧ ∃ h' tk c, s₂ = { s with heap := h', toks := tk } ∧ TxR w h' s.heap.objs.size (fun j => decide (j ∈ ns)) c ∧ c ≤ ns.length ∧
          (∀ b o, s.heap.get? b = some o → h'.get? b = some o)) E) F.called_set.init.plain F.entry_set_init (check_set_init_1 hT ?_))
                fun r₂ s₂ hr₂ => ?_
      · obtain ⟨⟨ocls, odict, odata, oslots⟩, hol, hcl, nl, hdl⟩ := hl
        simp only at hcl hdl
        subst hcl; subst hdl
        have hol' : (s.heap.push (newSet2 w)).get? l = some { cls := .type "list", dict := odict, data := .seq items nl, slots := oslots } := Heap.get?_push_of_some _ hol
        have hsls := F.sub_list_set
        have hslf :=
              F.sub_list_frozenset
        have hne :
              (Value.type "list" == Value.type "dict") = false := by decide
        have hl1 : (s.heap.push (newSet2 w)).IsList l items := ⟨_, hol', rfl, nl, rfl⟩
        unfold Builtin.«set.__init__»
              noKeywords Builtin.Frozenset.updateFrom
        generalize hPI : pyIter = PI
        wp_walk
        subst hPI

        refine
              wpAny_pyIter_list hl1 ?_
        refine wpAny_bind
              (wpAny_runValue ?_)
        have hlS : l <
              s.heap.objs.size := Heap.lt_size hol
        have hh3 :
              A.in1.in1.in1.handled = none := by simp [hh]
        have hz1 : (s.heap.push (newSet2 w)).objs.size = s.heap.objs.size + 1 := Heap.size_push ..
        have hneI : l ≠ (s.heap.push (newSet2 w)).objs.size := Nat.ne_of_lt (by rw [hz1]; exact Nat.lt_succ_of_lt hlS)
        have hSf : s.heap.objs.size ∉ [(s.heap.push (newSet2 w)).objs.size, l] := by
          simp only [List.mem_cons, List.not_mem_nil, or_false, not_or]
          exact ⟨Nat.ne_of_lt (by rw [hz1]; exact Nat.lt_succ_self _), Nat.ne_of_gt hlS⟩
        have hval : ∀ (i : Nat) (v : Value), items[i]? = some v → ∃ k t, ns[i]? = some k ∧ v = .str k t := fun i v hv => strs_get hit i v (by rw [Array.getElem?_toList]; exact hv)
        refine set_update_txts ((Walks.list hh3 _ l hneI items).toS) s.heap.objs.size
          hSf ns hisz hb hval (items.size - 0)
                0 _ (by omega) (Nat.zero_le _)
          ⟨⟨_, Heap.get?_push_size _ rfl, rfl, rfl⟩, (hl1.push _)⟩
                ?hS0 ?hR
        case hS0 =>
          have hget : ((s.heap.push (newSet2 w)).push { cls := .type "list_iterator", data := .fields #[.ref l, .int 0 0] }).get? s.heap.objs.size = some (newSet2 w) := Heap.get?_push_of_some _ hS
          exact
                ⟨0, Nat.le_refl 0, txR_new_at hget⟩
        case hR =>
          intro s' c' hm hc' hS'
          obtain
                ⟨h', g2, d', tk', os'⟩ := s'
          cases (show g2 = s.gens from hm.gens)
          cases (show d' = s.drawn from hm.drawn)
          cases (show os' = s.os from hm.os)
          show wpAny _ _ _ _ _ _
          refine wpAny_pure ?_
          show wpAny _ _
                (ret Value.none) _ _ _
          rw [hisz] at hc'
          refine wpAny_pure
                ⟨rfl, h', tk', c', rfl, hS', hc', fun b o e => ?_⟩
          have hb0 : b <
                s.heap.objs.size := Heap.lt_size e
          refine hm.heap b o ?_ (Heap.get?_push_of_some _ (Heap.get?_push_of_some _ e))
          simp only [List.mem_cons, List.not_mem_nil, or_false, not_or]
          exact ⟨Nat.ne_of_lt hb0, Nat.ne_of_lt (by rw [hz1]; exact Nat.lt_succ_of_lt hb0)⟩

      · match r₂, hr₂ with
        | .error e, hr₂ => exact hr₂
        | .ok (.ret r), hr₂ =>
            obtain
                  ⟨rfl, h', tk, c', rfl, hS', hc', hk'⟩ := hr₂
            repeat
                  (any_goals (first | assumption | wp_step))
            exact h _ _ _ hS' hc' hk'
        | .ok .next, hr₂ => exact hr₂.elim
        | .ok .brk, hr₂ => exact hr₂.elim
        | .ok .cont, hr₂ => exact hr₂.elim
  | .ok .next, hr => exact hr.elim
  | .ok .brk, hr => exact hr.elim
  | .ok .cont, hr => exact hr.elim
end
end Lw
set_option Elab.async false
set_option linter.all false
set_option maxRecDepth 100000
set_option
      maxHeartbeats 4000000
/-! LwO: sorted of a set of texts; the two as values. -/
namespace Lw
open PySem PySem.Spec L2 PyProof.Rows
def tvOf : Value → Str
  | .str k _ => k
  | _ => Str.empty
def IsTx (v : Value) (k : Str) : Prop := ∃ t, v = .str k t
theorem each_tx : ∀ {vs : List Value}, (∀ v ∈ vs, ∃ k t, v = Value.str k t) → PySem.W.EachIs IsTx vs (vs.map tvOf)
  | [], _ => .nil
  | v :: vs, h => by
    obtain ⟨k, t, rfl⟩ := h v List.mem_cons_self
    exact .cons ⟨t, rfl⟩ (each_tx fun u hu => h u (List.mem_cons_of_mem _ hu))
theorem each_strs : ∀ {vs : List Value} {ss : List Str}, PySem.W.EachIs IsTx vs ss → StrsAre vs ss
  | _, _, .nil => .nil
  | _, _, .cons h t => by
    obtain ⟨u, rfl⟩ := h
    exact .cons _ _ (each_strs t)
theorem each_vals : ∀ {vs : List Value} {ss : List Str}, StrsAre vs ss → Vals (ss.map V.str) vs
  | _, _, .nil => .nil
  | _, _, .cons x t r => .cons ⟨t, rfl⟩ (each_vals r)
section
variable {P : Program} {w : World} {A : Around} {E : Value → Shared → Prop} {s : Shared} {a : Addr} {S : Str → Bool} {n : Nat}
/-- sorted(set) -/
theorem sorted_txts {Q : Value → Shared → Prop} (R : TxR w s.heap a S n) (hh : A.handled = none) (hu : A.units + 130 < cLine) (h64 : n < 64)
    (hQ : ∀ s' p (out : Array Value) (c : Nat) (ns : List Str), (∀ b o, s.heap.get? b = some o → s'.heap.get? b = some o) → s'.gens = s.gens → s'.os = s.os → s.heap.objs.size ≤ p →
      s'.heap.get? p = some (seqObj "list" out c) → StrsAre out.toList ns → SrS ns → ns.Nodup → (∀ k, k ∈ ns ↔ S k = true) → ns.length = n → Q (.ref p) s') :
    wpAny (model P w) A
          (call (.builtin "sorted") [.ref a]) Q E s := by
  obtain ⟨o, es, ep, t, ho, hex, hd, T⟩ := R
  refine Calls.call_function_entry kind_sorted
        plain_sorted entry_sorted (args_sorted1 _) ?_
  unfold Builtin.«sorted»
  refine wpAny_bind
        (m := checkCount "sorted" 1 1 _) (wpAny_pure ?_)
  refine wpAny_bind (collect_set (A := A.in1) hh ⟨o, ho, hex.1, hd⟩ T.fits T.few T.ris T.led fun s1 vs k1 hz g1 o1 pm => ?_)
  have vl : vs.length = n := by rw [pm.length_eq, List.length_map, Array.length_toList]; exact T.size
  have ev : PySem.W.EachIs IsTx vs (vs.map tvOf) := each_tx fun v hv => by
    obtain ⟨e, he, q⟩ :=
          List.mem_map.mp (pm.mem_iff.mp hv)
    obtain ⟨k, tk, rfl⟩ := T.good e he
    exact ⟨k, tk, q.symm⟩
  have pk : (vs.map tvOf).Perm (es.toList.map txOf) := by
    have q := pm.map tvOf
    rw [List.map_map] at q
    exact q
  have ll : vs.length ≤ sizeLine := by rw [vl, sizeLine_eq]; omega
  refine wpAny_bind (wpAny_newList ?_ ll)
  have hoL : (s1.heap.push (seqObj "list" vs.toArray 0)).get? s1.heap.objs.size
        = some (seqObj "list" vs.toArray 0) := Heap.get?_push_size _ rfl
  refine wpAny_bind (wpAny_holding (PySem.W.list_sort_data (bs := vs.map tvOf) (enc := fun k => PyData.str k) (R := IsTx) hoL ev (ev.mono fun v k h => ?_) ?_ ?_ (by rw [List.length_map]; exact ll) (fun b _ => ?_) fun out hl eo => ?_))
  · obtain ⟨t, rfl⟩ := h
    exact ⟨[], .str _ _, by simp⟩
  · intro d hd d' hd'
    obtain ⟨x, _, rfl⟩ := List.mem_map.mp hd
    obtain ⟨y, _, rfl⟩ := List.mem_map.mp hd'
    rfl
  · refine .inr fun d hd => ?_
    obtain ⟨x, _, rfl⟩ := List.mem_map.mp hd
    exact ⟨fun z => (by cases z), fun xs z => (by cases z)⟩
  · have : (PyData.str b).depth = 0 := by simp [PyData.depth]
    show A.units + 1 + 1 + _ < cLine
    omega
  obtain ⟨c, hc⟩ := sortedHeap_at (vs := vs) (out := List.toArray out) hoL
  have e1 : (vs.map tvOf).mergeSort (PySem.W.dataLe false fun k => PyData.str k) = (vs.map tvOf).mergeSort fun a b => decide (a.cps.toList ≤ b.cps.toList) := by
    rw [PySem.W.dataLe_str (fun k : Str => k)]
  have pn : ((vs.map tvOf).mergeSort (PySem.W.dataLe false fun k => PyData.str k)).Perm (es.toList.map txOf) := (List.mergeSort_perm _ _).trans pk
  have sr : SrS ((vs.map tvOf).mergeSort (PySem.W.dataLe false fun k => PyData.str k)) := by
    rw [← sortG_merge (dataLe_total fun k : Str => PyData.str k)]
    refine (sortG_sr (dataLe_total fun k : Str => PyData.str k) _).imp fun {x y} h => ?_
    rw [PySem.W.dataLe_str (fun k : Str => k)] at h
    exact of_decide_eq_true h
  refine wpAny_pure ⟨_, rfl, hQ _ s1.heap.objs.size (List.toArray out) c _ (fun b u e => ?_) g1 o1 hz hc (each_strs eo) sr (pn.nodup_iff.mpr T.nd) (fun k => by rw [pn.mem_iff, ← T.mem k]) ?_⟩
  · have q := k1 b u e
    have lt := Heap.lt_size q
    show (sortedHeap (s1.heap.push (seqObj "list" vs.toArray 0)) s1.heap.objs.size vs (List.toArray out)).get? b = some u
    rw [sortedHeap_old (Nat.ne_of_lt lt) (by rw [Heap.size_push]; exact Nat.lt_succ_of_lt lt)]
    exact
          Heap.get?_push_of_some _ q
  · rw [pn.length_eq, List.length_map, Array.length_toList]; exact T.size
end
/-! ### as values -/
/-- the set of texts at a -/
def TxO (w : World) (a : Addr) (S : Str → Bool) (n : Nat) : HO := .ext fun h => TxR w h a S n
section
variable {X : Cx}
theorem txO_new {w : World} {P : Program} {H : Hp} {h : Heap} {a : Addr} {S : Str → Bool} {n : Nat} (R : TxR w h a S n) : ObjOk P w H h a (TxO w a S n) := by
  have ⟨o, _, _, _, ho, _⟩ := R
  exact ⟨R, ⟨o, ho⟩, fun h1 h2 p k => TxR.at p k⟩
def rSetT (K : PySem.W.Frag) (w : World) : List V → Hp → VK → Prop := fun xs H Q => ∃ (a : Addr) (ns : List Str), xs = [.ref a] ∧ SqL K H a (ns.map V.str) ∧ ns.length < 64 ∧ ∀ p n, H p = none → n ≤ ns.length → Q (.ref p) (upd H p (TxO w p (fun j => decide (j ∈ ns)) n))
theorem cr_setT (hc : X.calm = true) : CallR X (.type "set") (rSetT X.K X.w) := by
  intro pins s σ
        H vs us Q I r h
  obtain
        ⟨a, ns, rfl, hs, h64, q⟩ := h
  obtain ⟨its, rv, hl, hz⟩
        := I.list hs
  cases Vals.ref1 r
  have hi := strsAre_of rv
  refine call_set_lstT ns (I.ok.hd hc) hl.isList (by simpa using hi) (by unfold scanBound; omega) fun h' tk cc R hcc kk => ?_
  have hp : H s.heap.objs.size = none := I.hok.fresh (Nat.le_refl _)
  exact ⟨.ref _, _, I.laid (t' := tk) kk (Nat.le_refl _) (txO_new R), rfl, q _ cc hp hcc⟩
def rSortedTx (w : World) : List V → Hp → VK → Prop := fun vs H Q => ∃ (a : Addr) (S : Str → Bool) (n : Nat), vs = [V.ref a] ∧ H a = some (TxO w a S n) ∧ n < 64 ∧
  ∀ (ns : List Str) (p : Addr), SrS ns → ns.Nodup → (∀ k : Str, k ∈ ns ↔ S k = true) → ns.length = n → H p = none → Q (.ref p) (upd H p (.lst (ns.map V.str)))
theorem cr_sortedTx (hc : X.calm = true) (hu : X.A.units + 130 < cLine) : CallR X (.builtin "sorted") (rSortedTx X.w) := by
  intro pins s σ
        H vs us Q I r h
  obtain
        ⟨a, S, n, rfl, ha, h64, q⟩ := h
  have R : TxR X.w s.heap a S n := (I.hok a _ ha).1
  rw [Vals.ref1 r]
  refine sorted_txts R (I.ok.hd hc) hu h64 fun s' p out c ns k g o hp hg hi hs hd hm hl => ?_
  have len : (ns.map V.str).length ≤ sizeLine := by rw [List.length_map, hl, sizeLine_eq]; omega
  have hn : H p = none
        := I.hok.fresh hp
  have J : Inv X pins σ (upd H p (.lst (ns.map V.str))) { s with heap := s'.heap, gens := s'.gens, drawn := s'.drawn, toks := s'.toks } :=
    I.call (ch := []) (Un.laid k hp hn) (I.hok.laid k hp ⟨len, out.toList, c, each_vals hi, hg⟩) (by rw [g]; exact I.bare) (fun _ z => nomatch z)
  have e : s' =
        { s with heap := s'.heap, gens := s'.gens, drawn := s'.drawn, toks := s'.toks } := by
    cases s'; cases s; cases o; rfl
  rw [e]
  exact ⟨.ref p, _, J, rfl, q ns p hs hd hm hl hn⟩
end
end Lw
set_option Elab.async false
set_option linter.all false
set_option maxRecDepth 100000
/-! LwT: sorted(set(list of ints)), by the evaluator. -/
namespace Lw
open PySem PySem.Spec L2 PyProof.Rows
/-! ### as a value -/
section
variable {X : Cx} {at_ : At} {W : WX} {c : Cf}
def rSetL (K : PySem.W.Frag) (w : World) : List V → Hp → VK → Prop := fun xs H Q => ∃ (a : Addr) (ns : List Int), xs = [.ref a] ∧ SqL K H a (ns.map V.int) ∧ ns.length < 64 ∧ ∀ p n, H p = none → n ≤ ns.length → Q (.ref p) (upd H p (SetO w p (fun j => decide (j ∈ ns)) n))
theorem cr_setL (hc : X.calm = true) : CallR X (.type "set") (rSetL X.K X.w) := by
  intro pins s σ
        H vs us Q I r h
  obtain
        ⟨a, ns, rfl, hs, h64, q⟩ := h
  obtain ⟨its, rv, hl, hz⟩
        := I.list hs
  cases Vals.ref1 r
  have hi := rv.ints
  refine call_set_lstI ns (I.ok.hd hc) hl.isList (by simpa using hi) (by unfold scanBound; omega) fun h' tk cc R hcc kk => ?_
  have hp : H s.heap.objs.size = none := I.hok.fresh (Nat.le_refl _)
  exact ⟨.ref _, _, I.laid (t' := tk) kk (Nat.le_refl _) (setO_new R), rfl, q _ cc hp hcc⟩
/-- a set of either kind, sorted -/
theorem cr_setE (hc : X.calm = true) : CallR X (.type "set") (fun xs H Q => rSetL X.K X.w xs H Q ∨ rSetT X.K X.w xs H Q) := by
  intro pins s σ
        H vs us Q I r h
  rcases h with h | h
  · exact cr_setL hc pins s σ H vs us Q I r h
  · exact cr_setT hc pins s σ H vs us Q I r h
theorem cr_sortedE (hc : X.calm = true) (hu : X.A.units + 130 < cLine) : CallR X (.builtin "sorted") (fun xs H Q => rSortedSet X.w xs H Q ∨ rSortedTx X.w xs H Q) := by
  intro pins s σ
        H vs us Q I r h
  rcases h with h | h
  · exact cr_sortedSet hc pins s σ H vs us Q I r h
  · exact cr_sortedTx hc hu pins s σ H vs us Q I r h
/-- sorted(set(e)) -/
theorem e_sortset {e : Expr} {u : E} {p p1 p2 pos : Pos} {fz : Bool} (hc : X.calm = true) (hu : X.A.units + 130 < cLine) (g1 : Gl X "sorted") (m1 : X.mg "sorted" = none) (g2 : Gl X "set") (m2 : X.mg "set" = none) (hn : starEach [e] X.env = [(false, eval e X.env)])
    (h : PE X e (tE X.K at_ W fun env st => evE c u env st)) : PE X (.Call (.Name "sorted" p) [.Call (.Name "set" p1) [e] [] p2] [] pos) (tE X.K at_ W fun env st => evE c (.bi (.sortset fz) [u]) env st) := by
  have inner := pe_callTy (p := p1) (pos := p2) (cr_setE hc) g2 m2 PyProof.Rows.boot_set (pa_cons h pa_nil hn) (by decide) (by decide) hn rfl
  refine PE_imp (pe_callB (p := p) (pos := pos) (cr_sortedE hc hu) g1 m1 (by decide +kernel) (pa_cons inner pa_nil)) fun σ H Q ⟨ρ, env, st, er, sr, o⟩ => ?_
  simp only [evE, evEs] at o
  show tE X.K at_ W (fun env st => evE c u env st) σ H fun v H1 => (fun xs H Q => rSetL X.K X.w xs H Q ∨ rSetT X.K X.w xs H Q) [v] H1 fun v2 H2 => (fun xs H Q => rSortedSet X.w xs H Q ∨ rSortedTx X.w xs H Q) [v2] H2 Q
  have ea : ((evE c u env st).bind fun t st => (Res.ok [] st).bind fun ts st => Res.ok (t :: ts) st).bind (fun ts st => biE (.sortset fz) ts st) = (evE c u env st).bind fun t st => biE (.sortset fz) [t] st := by
    cases evE c u env st <;> rfl
  rw [ea] at o
  refine tE_then (g := fun t env st => biE (.sortset fz) [t] st) er sr o fun t ρ1 H1 st1 v er1 s1 m1 r1 o1 => ?_
  · simp only [biE] at o1
    cases e1 : lstOf st1 t with
    | none => simp only [e1, Option.bind_none] at o1; exact o1.elim
    | some ts =>
      obtain ⟨a, vs, rfl, h1, h2⟩ := rep_lst s1 r1 e1
      cases e2 : intsOf ts with
      | none =>
        cases e3 : strsOf ts with
        | none => simp only [e1, e2, e3, Option.bind_some] at o1; exact o1.elim
        | some ns =>
          simp only [e1, e2, e3, Option.bind_some] at o1
          obtain ⟨h64, o1⟩ := o1.iteN
          cases repL_strs e3 h2
          refine .inr ⟨a, ns, rfl, .of h1, h64, fun p n hp hn => ?_⟩
          refine .inr ⟨p, _, n, rfl, upd_same .., by omega, fun ms p' hup hd hm hl hp' => ?_⟩
          have e : ms = sortS (dedS ns) := srS_set hup (sortS_sr _) hd (sortS_nodup (dedS_nodup ns)) fun k => by rw [hm k, sortS_mem, dedS_mem, decide_eq_true_eq]
          subst e
          have m2 := Mv.new s1 hp (TxO X.w p (fun j => decide (j ∈ ns)) n)
          exact fin_lst (o1.mv m2) (s1.new hp _) (repL_ofStrs _) hp'
      | some ns =>
        simp only [e1, e2, Option.bind_some] at o1
        obtain ⟨h64, o1⟩ := o1.iteN
        cases repL_ints e2 h2
        refine .inl ⟨a, ns, rfl, .of h1, h64, fun p n hp hn => ?_⟩
        refine .inl ⟨p, _, n, rfl, upd_same .., by omega, fun ms p' hup hm hl hp' => ?_⟩
        have e : ms = sortU ns := up_uniq hup sortU_up fun k => by rw [hm k, sortU_mem, decide_eq_true_eq]
        subst e
        have m2 := Mv.new s1 hp (SetO X.w p (fun j => decide (j ∈ ns)) n)
        exact fin_lst (o1.mv m2) (s1.new hp _) (repL_ofInts _) hp'
end
end Lw
set_option Elab.async false
set_option linter.all false
set_option maxRecDepth 100000
/-! Lw9: expressions. -/
namespace Lw
open PySem PySem.Spec L2 PyProof.Rows

section
variable {K : PySem.W.Frag} {at_ : At} {α β : Type} {ρ ρ1 : Pl} {H H1 : Hp} {Z : Value → Option Addr → Hp → Prop}
/-- .. with what the outcome is -/
theorem Out.impE {r : Res α} {P P' : α → Pl → Hp → Store → Prop} (h : Out K at_ ρ H r P Z) (hP : ∀ a ρ' H' st, r = .ok a st → Mv ρ H ρ' H' → StRep K at_ ρ' H' st → P a ρ' H' st → P' a ρ' H' st) : Out K at_ ρ H r P' Z := by
  cases r with
  | ok a st => exact fun ρ' H' k s => hP a ρ' H' st rfl k s (h ρ' H' k s)
  | exc x st => exact h
  | no => exact h
end

/-- the evaluator of lists of pairs, with their lengths -/
theorem evEs_len {c : Cf} : ∀ {es : List E} {env : Env} {st st' : Store} {ts : List T}, evEs c es env st = .ok ts st' → ts.length = es.length
  | [], _, _, _, _, h => by simp only [evEs] at h; cases h; rfl
  | e :: es, env, st, st', ts, h => by
    simp only [evEs] at h
    cases h1 : evE c e env st with
    | ok t st1 =>
      rw [h1, Res.bind_ok] at h
      cases h2 : evEs c es env st1 with
      | ok us st2 => rw [h2, Res.bind_ok] at h; cases h; simp [evEs_len h2]
      | exc x st2 => rw [h2] at h; cases h
      | no => rw [h2] at h; cases h
    | exc x st2 => rw [h1] at h; cases h
    | no => rw [h1] at h; cases h
theorem evPs_len {c : Cf} : ∀ {es : List (E × E)} {env : Env} {st st' : Store} {ts : List (T × T)}, evPs c es env st = .ok ts st' → ts.length = es.length
  | [], _, _, _, _, h => by simp only [evPs] at h; cases h; rfl
  | (k, e) :: es, env, st, st', ts, h => by
    simp only [evPs] at h
    cases h0 : evE c k env st with
    | ok t st0 =>
      rw [h0, Res.bind_ok] at h
      cases h1 : evE c e env st0 with
      | ok t st1 =>
        rw [h1, Res.bind_ok] at h
        cases h2 : evPs c es env st1 with
        | ok us st2 => rw [h2, Res.bind_ok] at h; cases h; simp [evPs_len h2]
        | exc x st2 => rw [h2] at h; cases h
        | no => rw [h2] at h; cases h
      | exc x st2 => rw [h1] at h; cases h
      | no => rw [h1] at h; cases h
    | exc x st2 => rw [h0] at h; cases h
    | no => rw [h0] at h; cases h

section
variable {X : Cx} {at_ : At} {W : WX}

/-! ### names, constants -/
theorem e_var {i : Nat} {x : Str} {pos : Pos} (hN : X.N[i]? = some x) (hv : Vis X.env.scope x) (hd : (x == ("__debug__" : Str)) = false) (hcd : (x == ("__classdict__" : Str)) = false) {c : Cf} : PE X (.Name x pos) (tE X.K at_ W fun env st => evE c (.var i) env st) := by
  refine PE_imp (pe_var hN hv hd hcd) fun σ H Q ⟨ρ, env, st, er, sr, o⟩ => ?_
  simp only [evE] at o
  cases e : env[i]? with
  | none => simp only [e] at o; exact o.elim
  | some y =>
    cases y with
    | none => simp only [e] at o; exact o.elim
    | some t =>
      simp only [e] at o
      obtain ⟨v, h1, h2⟩ := er.val i t e
      exact ⟨v, h1, fin_val o sr h2⟩
theorem e_lit {e : Expr} {v : V} {t : T} (h : PE X e (tC v)) (r : ∀ ρ H, Rep X.K at_ ρ H t v) {c : Cf} : PE X e (tE X.K at_ W fun env st => evE c (.lit t) env st) := by
  refine PE_imp h fun σ H Q ⟨ρ, env, st, er, sr, o⟩ => ?_
  simp only [evE] at o
  exact fin_val o sr (r _ _)

/-! ### argument lists -/
theorem a_nil {c : Cf} : PA X [] (tEs X.K at_ W fun env st => evEs c [] env st) := by
  refine PA_imp pa_nil fun σ H Q ⟨ρ, env, st, er, sr, o⟩ => ?_
  simp only [evEs] at o
  exact o ρ H Mv.refl sr [] rfl
theorem a_cons {e : Expr} {es : List Expr} {c : Cf} {u : E} {us : List E} (ha : PE X e (tE X.K at_ W fun env st => evE c u env st)) (hr : PA X es (tEs X.K at_ W fun env st => evEs c us env st)) (hs : starEach (e :: es) X.env = (false, eval e X.env) :: starEach es X.env) :
    PA X (e :: es) (tEs X.K at_ W fun env st => evEs c (u :: us) env st) := by
  refine PA_imp (pa_cons ha hr hs) fun σ H Q ⟨ρ, env, st, er, sr, o⟩ => ?_
  simp only [evEs] at o
  refine tE_then (f := fun env st => evE c u env st) (g := fun t env st => (evEs c us env st).bind fun ts st => .ok (t :: ts) st) er sr o fun t ρ1 H1 st1 v er1 s1 m1 r1 o1 => ?_
  refine tEs_then (f := fun env st => evEs c us env st) (g := fun ts env st => .ok (t :: ts) st) er1 s1 o1 fun ts ρ2 H2 st2 vs er2 s2 m2 r2 o2 => ?_
  exact o2 ρ2 H2 Mv.refl s2 (v :: vs) ⟨v, vs, rfl, Rep.mv s1.sep m2 _ _ r1, r2⟩

/-! ### displays -/
theorem e_tup {es : List Expr} {k : Nat} {pos : Pos} {c : Cf} {us : List E} (h : PA X es (tEs X.K at_ W fun env st => evEs c us env st)) (hl : us.length ≤ big) : PE X (.Tuple es k pos) (tE X.K at_ W fun env st => evE c (.tup us) env st) := by
  refine
        ⟨fun pins s σ H Q I hq => ?_⟩
  obtain ⟨ρ, env, st, er, sr, o⟩ := hq
  simp only [evE] at o
  refine wpAny_Tuple_spliced (thn (h.run pos pins s σ H (fun vs H1 => vs.length ≤ sizeLine ∧ ∀ p ob, H1 p = none → ob.dict = none → Q (.ref p) (upd H1 p (.frz ob (.tup vs)))) I ?_) fun us' s1 ⟨xs, H1, I1, r, z, q⟩ => ⟨by rw [← r.length]; exact z, ?_⟩)
  · refine ⟨ρ, env, st, er, sr, o.bind.impE fun ts ρ1 H1 st1 e m1 s1 o1 vs r1 => ⟨?_, fun p ob hp hd => fin_tup o1 s1 r1 hp hd⟩⟩
    rw [← r1.length, evEs_len e, ← big_line]
    exact hl
  · exact ⟨.ref _, _, Inv_newT (t' := s1.toks) (n := 0) I1 (fun b o e => Heap.get?_push_of_some _ e) (Nat.le_refl _) (Heap.get?_push_size _ rfl) rfl rfl r z, rfl, q _ _ (I1.hok.fresh (Nat.le_refl _)) rfl⟩
theorem e_lst {es : List Expr} {pos : Pos} {c : Cf} {us : List E} {fz : Bool} (h : PA X es (tEs X.K at_ W fun env st => evEs c us env st)) (hl : us.length ≤ big) : PE X (.List es pos) (tE X.K at_ W fun env st => evE c (.lst fz us) env st) := by
  refine PE_imp (pe_lst h) fun σ H Q ⟨ρ, env, st, er, sr, o⟩ => ?_
  simp only [evE] at o
  refine ⟨ρ, env, st, er, sr, o.bind.impE fun ts ρ1 H1 st1 e m1 s1 o1 vs r1 => ⟨?_, fun p hp => fin_lst o1 s1 r1 hp⟩⟩
  rw [← r1.length, evEs_len e, ← big_line]
  exact hl

/-! ### operators -/
theorem e_bin (o : Bop) {a b : Expr} {pos : Pos} {c : Cf} {u v : E} (ha : PE X a (tE X.K at_ W fun env st => evE c u env st)) (hb : PE X b (tE X.K at_ W fun env st => evE c v env st)) : PE X (.BinOp a (bopOf o) b pos) (tE X.K at_ W fun env st => evE c (.bin o u v) env st) := by
  refine PE_imp (pe_op (op_bin (at_ := at_) o) ha hb) fun σ H Q h => ?_
  simp only [evE] at h
  exact tE_two (g := fun x y st => binE o x y st) h fun t u ρ1 H1 st1 v w s1 r1 r2 o1 => ⟨ρ1, st1, t, u, _, s1, r1, r2, o1⟩
theorem e_neg {a : Expr} {pos : Pos} {c : Cf} {u : E} (ha : PE X a (tE X.K at_ W fun env st => evE c u env st)) : PE X (.UnaryOp .USub a pos) (tE X.K at_ W fun env st => evE c (.neg u) env st) := by
  refine PE_imp (pe_un un_neg ha) fun σ H Q h => ?_
  simp only [evE] at h
  refine tE_one (f := fun env st => evE c u env st) h fun t ρ1 H1 st1 v s1 r1 o1 => ?_
  cases t <;> first | exact o1.elim | skip
  cases r1
  exact ⟨_, rfl, fin_val o1 s1 rfl⟩
theorem e_not {a : Expr} {pos : Pos} {c : Cf} {u : E} (ha : PE X a (tE X.K at_ W fun env st => evE c u env st)) : PE X (.UnaryOp .Not a pos) (tE X.K at_ W fun env st => evE c (.not u) env st) := by
  refine PE_imp (pe_not ha) fun σ H Q h => ?_
  simp only [evE] at h
  refine tE_one (f := fun env st => evE c u env st) h fun t ρ1 H1 st1 v s1 r1 o1 => ?_
  cases t <;> first | exact o1.elim | skip
  cases r1
  exact ⟨_, rfl, fin_val o1 s1 rfl⟩
/-- the second part runs where the first one ended -/
theorem Out.tail {α : Type} {K : PySem.W.Frag} {f : Env → Store → Res T} {σ : L2.St} {H : Hp} {ρ : Pl} {env : Env} {st : Store} {Q : VK} (er : EnvRep K at_ ρ H σ env) (sr : StRep K at_ ρ H st) (o : Out K at_ ρ H (f env st) (Got K at_ Q) (fun cls d H' => W cls d σ H')) : tE K at_ W f σ H Q := ⟨ρ, env, st, er, sr, o⟩
theorem e_and {a b : Expr} {rest : List Expr} {pos : Pos} {c : Cf} {u v : E} (ha : PE X a (tE X.K at_ W fun env st => evE c u env st)) (hb : PE X (.BoolOp .And (b :: rest) pos) (tE X.K at_ W fun env st => evE c v env st)) : PE X (.BoolOp .And (a :: b :: rest) pos) (tE X.K at_ W fun env st => evE c (.and u v) env st) := by
  refine PE_imp (pe_and ha hb) fun σ H Q ⟨ρ, env, st, er, sr, o⟩ => ?_
  simp only [evE] at o
  refine tE_then (f := fun env st => evE c u env st) (g := fun t env st => match t with | .bl true => evE c v env st | .bl false => .ok (.bl false) st | _ => .no) er sr o fun t ρ1 H1 st1 w er1 s1 m1 r1 o1 => ?_
  cases t <;> first | exact o1.elim | skip
  rename_i k
  cases r1
  cases k with
  | true => exact ⟨true, rfl, Out.tail (α := T) (f := fun env st => evE c v env st) er1 s1 o1⟩
  | false => exact ⟨false, rfl, fin_val o1 s1 rfl⟩
theorem e_or {a b : Expr} {rest : List Expr} {pos : Pos} {c : Cf} {u v : E} (ha : PE X a (tE X.K at_ W fun env st => evE c u env st)) (hb : PE X (.BoolOp .Or (b :: rest) pos) (tE X.K at_ W fun env st => evE c v env st)) : PE X (.BoolOp .Or (a :: b :: rest) pos) (tE X.K at_ W fun env st => evE c (.or u v) env st) := by
  refine PE_imp (pe_or ha hb) fun σ H Q ⟨ρ, env, st, er, sr, o⟩ => ?_
  simp only [evE] at o
  refine tE_then (f := fun env st => evE c u env st) (g := fun t env st => match t with | .bl true => .ok (.bl true) st | .bl false => evE c v env st | _ => .no) er sr o fun t ρ1 H1 st1 w er1 s1 m1 r1 o1 => ?_
  cases t <;> first | exact o1.elim | skip
  rename_i k
  cases r1
  cases k with
  | true => exact ⟨true, rfl, fin_val o1 s1 rfl⟩
  | false => exact ⟨false, rfl, Out.tail (α := T) (f := fun env st => evE c v env st) er1 s1 o1⟩
theorem e_cmp (hu : X.A.units + 130 < cLine) (o : Cop) {a b : Expr} {pos : Pos} {c : Cf} {u v : E} (ha : PE X a (tE X.K at_ W fun env st => evE c u env st)) (hb : PE X b (tE X.K at_ W fun env st => evE c v env st)) (hm : behindInMarks (copOf o) b = false) :
    PE X (.Compare a [copOf o] [b] pos) (tE X.K at_ W fun env st => evE c (.cmp o u v) env st) := by
  refine PE_imp (pe_cmpR (op_cmp (at_ := at_) hu o) ha hb hm) fun σ H Q h => ?_
  simp only [evE] at h
  refine tE_two (g := fun x y st => .of ((cmpE o x y st).map T.bl) st) h fun t u ρ1 H1 st1 v w s1 r1 r2 o1 => ?_
  obtain ⟨z, e, q⟩ := o1.ofSome s1
  obtain ⟨k, e', rfl⟩ := Option.map_eq_some_iff.mp e
  exact ⟨ρ1, st1, t, u, k, s1, r1, r2, e', q _ rfl⟩
theorem e_chain (hu : X.A.units + 130 < cLine) (o p : Cop) {a b d : Expr} {pos : Pos} {c : Cf} {u v w : E} (ha : PE X a (tE X.K at_ W fun env st => evE c u env st)) (hb : PE X b (tE X.K at_ W fun env st => evE c v env st)) (hd : PE X d (tE X.K at_ W fun env st => evE c w env st))
    (hm : lastMarks [copOf o, copOf p] [b, d] = false) : PE X (.Compare a [copOf o, copOf p] [b, d] pos) (tE X.K at_ W fun env st => evE c (.chain o p u v w) env st) := by
  refine PE_imp (pe_chain (op_cmp (at_ := at_) hu o) (op_cmp (at_ := at_) hu p) ha hb hd hm) fun σ H Q ⟨ρ, env, st, er, sr, oo⟩ => ?_
  simp only [evE] at oo
  refine tE_then (f := fun env st => evE c u env st) (g := fun x env st => (evE c v env st).bind fun y st => match cmpE o x y st with
    | some true => (evE c w env st).bind fun z st => .of ((cmpE p y z st).map T.bl) st
    | some false => .ok (T.bl false) st
    | none => .no) er sr oo fun t ρ1 H1 st1 x er1 s1 m1 r1 o1 => ?_
  refine tE_then (f := fun env st => evE c v env st) (g := fun y env st => match cmpE o t y st with
    | some true => (evE c w env st).bind fun z st => .of ((cmpE p y z st).map T.bl) st
    | some false => .ok (T.bl false) st
    | none => .no) er1 s1 o1 fun t2 ρ2 H2 st2 y er2 s2 m2 r2 o2 => ?_
  have r1' := Rep.mv s1.sep m2 _ _ r1
  cases e : cmpE o t t2 st2 with
  | none => simp only [e] at o2; exact o2.elim
  | some k =>
    simp only [e] at o2
    refine ⟨ρ2, st2, t, t2, k, s2, r1', r2, e, k, rfl, ?_⟩
    cases k with
    | false => exact fin_val o2 s2 rfl
    | true =>
      rw [if_pos rfl]
      refine tE_then (f := fun env st => evE c w env st) (g := fun z env st => .of ((cmpE p t2 z st).map T.bl) st) er2 s2 o2 fun t3 ρ3 H3 st3 z er3 s3 m3 r3 o3 => ?_
      obtain ⟨q, e3, q3⟩ := o3.ofSome s3
      obtain ⟨k3, e4, rfl⟩ := Option.map_eq_some_iff.mp e3
      exact ⟨ρ3, st3, t2, t3, k3, s3, Rep.mv s2.sep m3 _ _ r2, r3, e4, q3 _ rfl⟩
theorem e_ite {t a b : Expr} {pos : Pos} {c : Cf} {x u v : E} (ht : PT X t (tT X.K at_ W fun env st => evE c x env st)) (ha : PE X a (tE X.K at_ W fun env st => evE c u env st)) (hb : PE X b (tE X.K at_ W fun env st => evE c v env st)) :
    PE X (.IfExp t a b pos) (tE X.K at_ W fun env st => evE c (.ite x u v) env st) := by
  refine PE_imp (pe_ifExp ht ha hb) fun σ H Q ⟨ρ, env, st, er, sr, o⟩ => ?_
  simp only [evE] at o
  refine ⟨ρ, env, st, er, sr, o.bind.imp fun t ρ1 H1 st1 m1 s1 o1 => ?_⟩
  cases t <;> first | exact o1.elim | skip
  rename_i k
  refine ⟨k, rfl, ?_⟩
  cases k with
  | true => exact Out.tail (α := T) (f := fun env st => evE c u env st) (er.mv sr.sep m1) s1 o1
  | false => exact Out.tail (α := T) (f := fun env st => evE c v env st) (er.mv sr.sep m1) s1 o1

/-! ### calls of builtins -/
theorem tEs_rB {c : Cf} {us : List E} {g : List T → Store → Res T} {σ : L2.St} {H : Hp} {Q : VK} (h : tE X.K at_ W (fun env st => (evEs c us env st).bind fun ts st => g ts st) σ H Q) : tCB (rB X.K at_ g) (tEs X.K at_ W fun env st => evEs c us env st) σ H Q := by
  obtain ⟨ρ, env, st, er, sr, o⟩ := h
  exact tEs_then (f := fun env st => evEs c us env st) (g := fun ts env st => g ts st) er sr o fun ts ρ1 H1 st1 vs er1 s1 m1 r1 o1 => ⟨ρ1, st1, ts, _, s1, r1, o1⟩
theorem e_biB {x : Str} {p pos : Pos} {e : Expr} {es : List Expr} {id : String} {b : Bi} {c : Cf} {us : List E} (hc : CallR X (.builtin id) (rB X.K at_ (biE b))) (hg : Gl X x) (hm : X.mg x = none) (hv : bootBuiltins x = some (.builtin id))
    (ha : PA X (e :: es) (tEs X.K at_ W fun env st => evEs c us env st)) (hn : x ≠ "__name__") (hdb : (x == ("__debug__" : Str)) = false) (he : starEach (e :: es) X.env = (false, eval e X.env) :: starEach es X.env) (hpl : (backTo pos (starEach es X.env)).any (·.1) = false) :
    PE X (.Call (.Name x p) (e :: es) [] pos) (tE X.K at_ W fun env st => evE c (.bi b us) env st) :=
  PE_imp (pe_callB hc hg hm hv ha hn hdb he hpl) fun σ H Q h => tEs_rB h
theorem e_biT {x : Str} {p pos : Pos} {e : Expr} {es : List Expr} {id : String} {b : Bi} {c : Cf} {us : List E} (hc : CallR X (.type id) (rB X.K at_ (biE b))) (hg : Gl X x) (hm : X.mg x = none) (hv : bootBuiltins x = some (.type id))
    (ha : PA X (e :: es) (tEs X.K at_ W fun env st => evEs c us env st)) (hn : x ≠ "__name__") (hdb : (x == ("__debug__" : Str)) = false) (he : starEach (e :: es) X.env = (false, eval e X.env) :: starEach es X.env) (hpl : (backTo pos (starEach es X.env)).any (·.1) = false) :
    PE X (.Call (.Name x p) (e :: es) [] pos) (tE X.K at_ W fun env st => evE c (.bi b us) env st) :=
  PE_imp (pe_callTy hc hg hm hv ha hn hdb he hpl) fun σ H Q h => tEs_rB h
/-- isinstance(e, T) -/
theorem e_isi {x y : Str} {p p2 pos : Pos} {e : Expr} {t : Ty} {c : Cf} {u : E} (hg : Gl X x) (hm : X.mg x = none) (hv : bootBuiltins x = some (.builtin "isinstance")) (he : PE X e (tE X.K at_ W fun env st => evE c u env st)) (hy : PE X (.Name y p2) (tC (.ty (tyV' t))))
    (hn : x ≠ "__name__") (hdb : (x == ("__debug__" : Str)) = false) (h1 : starEach (e :: [.Name y p2]) X.env = (false, eval e X.env) :: starEach [.Name y p2] X.env) (hpl : (backTo pos (starEach [.Name y p2] X.env)).any (·.1) = false) :
    PE X (.Call (.Name x p) [e, .Name y p2] [] pos) (tE X.K at_ W fun env st => evE c (.bi (.isi t) [u]) env st) := by
  refine PE_imp (pe_callB (bi_isi (at_ := at_) t) hg hm hv (pa_cons he (pa_cons hy pa_nil rfl) h1) hn hdb h1 hpl) fun σ H Q ⟨ρ, env, st, er, sr, o⟩ => ?_
  simp only [evE, evEs] at o
  have o : Out X.K at_ ρ H ((evE c u env st).bind fun x st => .of ((isiE t st x).map T.bl) st) (Got X.K at_ Q) (fun cls d H' => W cls d σ H') := by
    cases q : evE c u env st <;> rw [q] at o <;> exact o
  refine tE_then (f := fun env st => evE c u env st) (g := fun x env st => .of ((isiE t st x).map T.bl) st) er sr o fun z ρ1 H1 st1 v er1 s1 m1 r1 o1 => ?_
  obtain ⟨k, ek, q⟩ := o1.ofSome s1
  obtain ⟨b, eb, rfl⟩ := Option.map_eq_some_iff.mp ek
  exact ⟨ρ1, st1, z, v, b, rfl, s1, r1, eb, q _ rfl⟩

/-! ### methods -/
def rM (K : PySem.W.Frag) (at_ : At) (m : Mt) (k : Nat) (x : V) : List V → Hp → VK → Prop := fun vs H Q => ∃ (ρ : Pl) (st : Store) (t : T) (ts : List T) (Z : Value → Option Addr → Hp → Prop),
  StRep K at_ ρ H st ∧ Rep K at_ ρ H t x ∧ RepL K at_ ρ H ts vs ∧ kindOf st t = k ∧ Out K at_ ρ H (mtE m t ts st) (Got K at_ Q) Z
theorem mok_ne {m : Mt} {k : Nat} (h : mok m k = true) : k ≠ 0 := by
  intro e
  subst e
  cases m <;> cases h
theorem e_mt (hu : X.A.units + 130 < cLine) (m : Mt) {oe e : Expr} {es : List Expr} {apos cpos : Pos} {c : Cf} {u : E} {us : List E} {nm : Str} (hnm : nm = mnm m) (ho : PE X oe (tE X.K at_ W fun env st => evE c u env st)) (ha : PA X (e :: es) (tEs X.K at_ W fun env st => evEs c us env st))
    (hbase : attributeBase oe nm X.env (eval oe X.env) = eval oe X.env)
    (hfew :
          ((backTo cpos (starEach (e :: es) X.env)).all (fun x => !x.1) && (backToKw cpos (keywordEach [] X.env)).all (fun x => x.1.isSome)
      && decide ((e :: es).length + ([] : List Keyword).length + (if ([] : List Keyword).isEmpty then 0 else 1) < 30)) = true)
    (hline : (apos.endLine == cpos.line) = true) (hs : starEach (e :: es) X.env = (false, eval e X.env) :: starEach es X.env) (hplain : (backTo cpos (starEach es X.env)).any (·.1) = false) :
    PE X (.Call (.Attribute oe nm apos) (e :: es) [] cpos) (tE X.K at_ W fun env st => evE c (.mt m u us) env st) := by
  subst hnm
  refine
        ⟨fun pins s σ H Q I h => ?_⟩
  obtain ⟨ρ, env, st, er, sr, o⟩ := h
  simp only [evE] at o
  refine wpAny_Call_method_late hbase hfew hline rfl (thn (ho.run pins s σ H (fun x H1 => ∃ k, mok m k = true ∧ KindV X.K H1 x k ∧ tEs X.K at_ W (fun env st => evEs c us env st) σ H1 fun vs H2 => rM X.K at_ m k x vs H2 Q) I ?_) fun v s1 ⟨x, H1, I1, r1, k, hk, ty, q1⟩ => ?_)
  · refine tE_then (f := fun env st => evE c u env st) (g := fun x env st => if mok m (kindOf st x) = true then (evEs c us env st).bind fun ts st' => if kindOf st' x = kindOf st x then mtE m x ts st' else Res.no else Res.no) er sr o fun t ρ1 H1 st1 v er1 s1 m1 r1 o1 => ?_
    obtain ⟨hk, o1⟩ := o1.iteN
    refine ⟨kindOf st1 t, hk, kindOf_V s1 r1 (mok_ne hk), ?_⟩
    refine tEs_then (f := fun env st => evEs c us env st) (g := fun ts env st' => if kindOf st' t = kindOf st1 t then mtE m t ts st' else .no) er1 s1 o1 fun ts ρ2 H2 st2 vs er2 s2 m2 r2 o2 => ?_
    obtain ⟨hk2, o2⟩ := o2.iteN
    exact ⟨ρ2, st2, t, ts, _, s2, Rep.mv s1.sep m2 _ _ r1, r2, hk2, o2⟩
  · obtain ⟨h1, h2⟩ := kindV_is I1 r1 ty
    obtain ⟨pa, slot, hty⟩ := mt_look m k hk
    refine ⟨tyNm k, mid m k, pa, slot, hty, h1, h2, ?_⟩
    have hA := ha.run
          cpos pins s1 σ H1 _ I1 q1
    rw [hs] at hA ⊢
    refine Calls.callWith_builtin
          (by show (false || (backTo cpos (starEach es X.env)).any (·.1)) = false; rw [hplain] <;> rfl) (Calls.evalArgs_plain ?_)
    refine thn hA fun us s2 ⟨vs, H2, I2, r2, ρ2, st2, t, ts, Z, sr2, rt, rts, hk2, o2⟩ => ?_
    rw [← hk2]
    exact mt_run hu m I2 r1 r2 sr2 rt rts o2
theorem e_mt0 (hu : X.A.units + 130 < cLine) (m : Mt) {oe : Expr} {apos cpos : Pos} {c : Cf} {u : E} {nm : Str} (hnm : nm = mnm m) (ho : PE X oe (tE X.K at_ W fun env st => evE c u env st))
    (hbase : attributeBase oe nm X.env (eval oe X.env) = eval oe X.env) (hline : (apos.endLine == cpos.line) = true) :
    PE X (.Call (.Attribute oe nm apos) [] [] cpos) (tE X.K at_ W fun env st => evE c (.mt m u []) env st) := by
  subst hnm
  refine
        ⟨fun pins s σ H Q I h => ?_⟩
  obtain ⟨ρ, env, st, er, sr, o⟩ := h
  simp only [evE, evEs, Res.bind_ok] at o
  refine wpAny_Call_method0_late hbase hline (thn (ho.run pins s σ H (fun x H1 => ∃ k, mok m k = true ∧ KindV X.K H1 x k ∧ rM X.K at_ m k x [] H1 Q) I ?_) fun v s1 ⟨x, H1, I1, r1, k, hk, ty, ρ2, st2, t, ts, Z, sr2, rt, rts, hk2, o2⟩ => ?_)
  · refine tE_then (f := fun env st => evE c u env st) (g := fun x env st => if mok m (kindOf st x) = true then (if True then mtE m x [] st else Res.no) else Res.no) er sr o fun t ρ1 H1 st1 v er1 s1 m1 r1 o1 => ?_
    obtain ⟨hk, o1⟩ := o1.iteN
    obtain ⟨_, o1⟩ := o1.iteN
    exact ⟨kindOf st1 t, hk, kindOf_V s1 r1 (mok_ne hk), ρ1, st1, t, [], _, s1, r1, rfl, rfl, o1⟩
  · obtain ⟨h1, h2⟩ := kindV_is I1 r1 ty
    obtain ⟨pa, slot, hty⟩ := mt_look m k hk
    refine ⟨tyNm k, mid m k, pa, slot, hty, h1, h2, Calls.callWith_builtin rfl (PySem.evalArgs_none ?_)⟩
    rw [← hk2]
    exact mt_run hu m I1 r1 .nil sr2 rt rts o2
end
end Lw
set_option Elab.async false
set_option linter.all false
set_option maxRecDepth 100000
/-! Lw10: tests, subscripts, slices, dict displays. -/
namespace Lw
open PySem PySem.Spec L2 PyProof.Rows

section
variable {X : Cx} {at_ : At} {W : WX} {c : Cf}

/-! ### tests -/
theorem p_val {e : Expr} {u : E} (h : PE X e (tE X.K at_ W fun env st => evE c u env st)) (he : ∀ whole, isTrue e X.env whole = (do let v ← whole; standAt e.pos; holding [v] (truthy v))) : PT X e (tT X.K at_ W fun env st => evE c u env st) := by
  refine PT_imp (pt_val h he) fun σ H Q ⟨ρ, env, st, er, sr, o⟩ => ?_
  refine ⟨ρ, env, st, er, sr, o.imp fun t ρ1 H1 st1 m1 s1 o1 v r => ?_⟩
  obtain ⟨b, rfl, q⟩ := o1
  exact ⟨b, r, q⟩
theorem p_test {e : Expr} {u : E} {t : TE} (h : PT X e (tTest t)) (ht : ∀ σ H Q, tE X.K at_ W (fun env st => evE c u env st) σ H Q → t σ H Q) : PT X e (tT X.K at_ W fun env st => evE c u env st) := by
  refine PT_imp h fun σ H Q ⟨ρ, env, st, er, sr, o⟩ => ?_
  refine ht _ _ _ ⟨ρ, env, st, er, sr, o.imp fun t ρ1 H1 st1 m1 s1 o1 v r => ?_⟩
  obtain ⟨b, rfl, q⟩ := o1
  exact ⟨b, r, q⟩
theorem tC_cmp (o : Cop) {u v : E} {σ : L2.St} {H : Hp} {Q : VK} (h : tE X.K at_ W (fun env st => evE c (.cmp o u v) env st) σ H Q) : tOp (rC X.K at_ (cmpE o)) (tE X.K at_ W fun env st => evE c u env st) (tE X.K at_ W fun env st => evE c v env st) σ H Q := by
  simp only [evE] at h
  refine tE_two (g := fun x y st => .of ((cmpE o x y st).map T.bl) st) h fun t u ρ1 H1 st1 v w s1 r1 r2 o1 => ?_
  obtain ⟨z, e, q⟩ := o1.ofSome s1
  obtain ⟨k, e', rfl⟩ := Option.map_eq_some_iff.mp e
  exact ⟨ρ1, st1, t, u, k, s1, r1, r2, e', q _ rfl⟩
theorem p_cmp (hu : X.A.units + 130 < cLine) (o : Cop) {a b : Expr} {pos : Pos} {u v : E} (ha : PE X a (tE X.K at_ W fun env st => evE c u env st)) (hb : PE X b (tE X.K at_ W fun env st => evE c v env st)) (hm : behindInMarks (copOf o) b = false) :
    PT X (.Compare a [copOf o] [b] pos) (tT X.K at_ W fun env st => evE c (.cmp o u v) env st) := p_test (pt_cmpR (op_cmp (at_ := at_) hu o) ha hb hm) fun σ H Q h => tC_cmp o h
theorem tC_chain (o p : Cop) {u v w : E} {σ : L2.St} {H : Hp} {Q : VK} (h : tE X.K at_ W (fun env st => evE c (.chain o p u v w) env st) σ H Q) :
    tChain (rC X.K at_ (cmpE o)) (rC X.K at_ (cmpE p)) (tE X.K at_ W fun env st => evE c u env st) (tE X.K at_ W fun env st => evE c v env st) (tE X.K at_ W fun env st => evE c w env st) σ H Q := by
  obtain ⟨ρ, env, st, er, sr, oo⟩ := h
  simp only [evE] at oo
  refine tE_then (f := fun env st => evE c u env st) (g := fun x env st => (evE c v env st).bind fun y st => match cmpE o x y st with
    | some true => (evE c w env st).bind fun z st => .of ((cmpE p y z st).map T.bl) st
    | some false => .ok (T.bl false) st
    | none => .no) er sr oo fun t ρ1 H1 st1 x er1 s1 m1 r1 o1 => ?_
  refine tE_then (f := fun env st => evE c v env st) (g := fun y env st => match cmpE o t y st with
    | some true => (evE c w env st).bind fun z st => .of ((cmpE p y z st).map T.bl) st
    | some false => .ok (T.bl false) st
    | none => .no) er1 s1 o1 fun t2 ρ2 H2 st2 y er2 s2 m2 r2 o2 => ?_
  have r1' := Rep.mv s1.sep m2 _ _ r1
  cases e : cmpE o t t2 st2 with
  | none => simp only [e] at o2; exact o2.elim
  | some k =>
    simp only [e] at o2
    refine ⟨ρ2, st2, t, t2, k, s2, r1', r2, e, k, rfl, ?_⟩
    cases k with
    | false => exact fin_val o2 s2 rfl
    | true =>
      rw [if_pos rfl]
      refine tE_then (f := fun env st => evE c w env st) (g := fun z env st => .of ((cmpE p t2 z st).map T.bl) st) er2 s2 o2 fun t3 ρ3 H3 st3 z er3 s3 m3 r3 o3 => ?_
      obtain ⟨q, e3, q3⟩ := o3.ofSome s3
      obtain ⟨k3, e4, rfl⟩ := Option.map_eq_some_iff.mp e3
      exact ⟨ρ3, st3, t2, t3, k3, s3, Rep.mv s2.sep m3 _ _ r2, r3, e4, q3 _ rfl⟩
theorem p_chain (hu : X.A.units + 130 < cLine) (o p : Cop) {a b d : Expr} {pos : Pos} {u v w : E} (ha : PE X a (tE X.K at_ W fun env st => evE c u env st)) (hb : PE X b (tE X.K at_ W fun env st => evE c v env st)) (hd : PE X d (tE X.K at_ W fun env st => evE c w env st))
    (hm : lastMarks [copOf o, copOf p] [b, d] = false) : PT X (.Compare a [copOf o, copOf p] [b, d] pos) (tT X.K at_ W fun env st => evE c (.chain o p u v w) env st) :=
  p_test (pt_chain (op_cmp (at_ := at_) hu o) (op_cmp (at_ := at_) hu p) ha hb hd hm) fun σ H Q h => tC_chain o p h
theorem p_not {a : Expr} {pos : Pos} {u : E} (ha : PT X a (tT X.K at_ W fun env st => evE c u env st)) : PT X (.UnaryOp .Not a pos) (tT X.K at_ W fun env st => evE c (.not u) env st) := by
  refine PT_imp (pt_not ha) fun σ H Q ⟨ρ, env, st, er, sr, o⟩ => ?_
  simp only [evE] at o
  refine ⟨ρ, env, st, er, sr, o.bind.imp fun t ρ1 H1 st1 m1 s1 o1 => ?_⟩
  cases t <;> first | exact o1.elim | skip
  rename_i k
  obtain ⟨b, e, q⟩ := o1.here s1
  cases e
  exact ⟨k, rfl, q⟩
theorem w_and {a b : Expr} {rest : List Expr} {pos : Pos} {u v : E} (ha : PT X a (tT X.K at_ W fun env st => evE c u env st)) (hb : PW X (.BoolOp .And (b :: rest) pos) (tT X.K at_ W fun env st => evE c v env st)) : PW X (.BoolOp .And (a :: b :: rest) pos) (tT X.K at_ W fun env st => evE c (.and u v) env st) := by
  refine ⟨fun wh pins s σ H Q I h => (pw_and ha hb).run wh pins s σ H Q I ?_⟩
  obtain ⟨ρ, env, st, er, sr, o⟩ := h
  simp only [evE] at o
  refine ⟨ρ, env, st, er, sr, o.bind.imp fun t ρ1 H1 st1 m1 s1 o1 => ?_⟩
  cases t <;> first | exact o1.elim | skip
  rename_i k
  refine ⟨k, rfl, ?_⟩
  cases k with
  | true => exact ⟨ρ1, env, st1, er.mv sr.sep m1, s1, o1⟩
  | false =>
    obtain ⟨b, e, q⟩ := o1.here s1
    cases e
    exact q
theorem w_or {a b : Expr} {rest : List Expr} {pos : Pos} {u v : E} (ha : PT X a (tT X.K at_ W fun env st => evE c u env st)) (hb : PW X (.BoolOp .Or (b :: rest) pos) (tT X.K at_ W fun env st => evE c v env st)) : PW X (.BoolOp .Or (a :: b :: rest) pos) (tT X.K at_ W fun env st => evE c (.or u v) env st) := by
  refine ⟨fun wh pins s σ H Q I h => (pw_or ha hb).run wh pins s σ H Q I ?_⟩
  obtain ⟨ρ, env, st, er, sr, o⟩ := h
  simp only [evE] at o
  refine ⟨ρ, env, st, er, sr, o.bind.imp fun t ρ1 H1 st1 m1 s1 o1 => ?_⟩
  cases t <;> first | exact o1.elim | skip
  rename_i k
  refine ⟨k, rfl, ?_⟩
  cases k with
  | false => exact ⟨ρ1, env, st1, er.mv sr.sep m1, s1, o1⟩
  | true =>
    obtain ⟨b, e, q⟩ := o1.here s1
    cases e
    exact q

/-! ### subscripts -/
def rI (K : PySem.W.Frag) (at_ : At) : R2 := fun x y H Q => ∃ (ρ : Pl) (st : Store) (t u r : T), StRep K at_ ρ H st ∧ Rep K at_ ρ H t x ∧ Rep K at_ ρ H u y ∧ idxE t u st = some r ∧ ∀ v, Rep K at_ ρ H r v → Q v H
theorem atI_rep {ρ : Pl} {H : Hp} {ts : List T} {vs : List V} {i : Int} {r : T} (h : RepL X.K at_ ρ H ts vs) (e : L2.atI ts i = some r) : ∃ v, L2.atI vs i = some v ∧ Rep X.K at_ ρ H r v := by
  unfold L2.atI at e ⊢
  rw [h.length] at e
  obtain ⟨j, h1, h2⟩ := Option.bind_eq_some_iff.mp e
  obtain ⟨v, h3, h4⟩ := h.getT h2
  exact ⟨v, by rw [h1]; exact h3, h4⟩
theorem ix_all (hu : X.A.units + 130 < cLine) : IxR X (rI X.K at_) := by
  intro value slice pins s
        σ H x y v u Q I rx ry h hs
  obtain ⟨ρ, st, t, k, r, sr, rt, rk, e, q⟩ := h
  have seq : ∀ {a : Addr} {vs : List V} {ts : List T} {i : Int}, x = .ref a → y = .int i → (SqL X.K H a vs ∨ SqT X.K H a vs) → RepL X.K at_ ρ H ts vs → L2.atI ts i = some r → wpAny (model X.prog X.w) X.A (subscriptTail value slice v u) (EP X pins σ Q) X.xe s := by
    intro a vs ts i ex ey hq hl he
    obtain ⟨z, h1, h2⟩ := atI_rep hl he
    rcases hq with hq | hq
    · exact ix_list value slice pins s σ H x y v u Q I rx ry ⟨a, vs, i, z, ex, ey, hq, h1, q z h2⟩ hs
    · exact ix_tup value slice pins s σ H x y v u Q I rx ry ⟨a, vs, i, z, ex, ey, hq, h1, q z h2⟩ hs
  have dic : ∀ {a : Addr} {ks : List (Key × V)} {kvs : List (T × T)}, x = .ref a → Rd H a (.dK ks) → RepP X.K at_ ρ H kvs ks → (if keyOk k = true then dget kvs k else none) = some r → wpAny (model X.prog X.w) X.A (subscriptTail value slice v u) (EP X pins σ Q) X.xe s := by
    intro a ks kvs ex hd hp he
    split at he
    · rename_i hk
      obtain ⟨q', kq, rfl⟩ := keyIs_of hk rk
      have g := repP_get hp kq
      rw [he] at g
      obtain ⟨z, hz, rz⟩ := g
      subst ex
      cases rx
      obtain ⟨_, _, vs, _, dd⟩ := dk_rd I.hok hd
      exact tail_any dd.typeIs PySem.F.slot_dict_getitem.lookup (d_getItem (by omega) I (.inl ⟨ks, q', hd, rfl, hz.symm⟩) ry fun w' s' I' rw' => ⟨z, H, I', rw', q z rz⟩) hs
    · cases he
  unfold idxE at e
  split at e
  · rename_i z i
    split at e
    · rename_i hz
      obtain ⟨ch, e1, rfl⟩ := Option.map_eq_some_iff.mp e
      cases rt; cases rk
      exact ix_str value slice pins s σ H _ _ v u Q I rx ry ⟨z, i, ch, rfl, rfl, by rw [← big_line]; exact hz, e1, q _ rfl⟩ hs
    · cases e
  · rename_i ts i
    obtain ⟨a, vs, ex, h1, h2⟩ := rt
    exact seq ex rk (.inr h1.seq) h2 e
  · rename_i ns i
    obtain ⟨a, ex, h1⟩ := rt
    exact seq ex rk (.inl h1.seq) (repL_ofInts ns) e
  · rename_i ts i
    obtain ⟨a, vs, ex, h1, h2⟩ := rt
    exact seq ex rk (.inl h1.seq) h2 e
  · rename_i kvs k'
    obtain ⟨a, ks, ex, h1, h2⟩ := rt
    exact dic ex h1.1 h2 e
  · rename_i l
    obtain ⟨a, ex, hl⟩ := rt
    split at e
    · rename_i ts el
      obtain ⟨vs, h1, h2⟩ := sr.cell l a _ hl el
      split at e
      · exact seq ex rk (.inl (.of h1)) h2 e
      · cases e
    · rename_i kvs el
      obtain ⟨vs, h1, h2⟩ := sr.cell l a _ hl el
      exact dic ex (.inl h1) h2 e
    · rename_i kvs el
      obtain ⟨o, vs, h1, h2⟩ := sr.cell l a _ hl el
      exact dic ex (.inr ⟨o, h1⟩) h2 e
    · cases e
  · cases e
theorem e_idx (hu : X.A.units + 130 < cLine) {a b : Expr} {pos : Pos} {u v : E} (ha : PE X a (tE X.K at_ W fun env st => evE c u env st)) (hb : PE X b (tE X.K at_ W fun env st => evE c v env st)) (hs : PlainIx b) : PE X (.Subscript a b pos) (tE X.K at_ W fun env st => evE c (.idx u v) env st) := by
  refine PE_imp (pe_ix (ix_all (at_ := at_) hu) ha hb hs) fun σ H Q h => ?_
  simp only [evE] at h
  refine tE_two (g := fun x y st => .of (idxE x y st) st) h fun t u ρ1 H1 st1 v w s1 r1 r2 o1 => ?_
  obtain ⟨z, e, q⟩ := o1.ofSome s1
  exact ⟨ρ1, st1, t, u, z, s1, r1, r2, e, q⟩

/-! ### slices -/
def tO (K : PySem.W.Frag) (at_ : At) (W : WX) (f : Env → Store → Res (Option Int)) : TO := fun σ H Q => ∃ ρ env st, EnvRep K at_ ρ H σ env ∧ StRep K at_ ρ H st ∧
  Out K at_ ρ H (f env st) (fun t _ H' _ => Q t H') (fun cls d H' => W cls d σ H')
theorem o_none : PO X none (tO X.K at_ W fun env st => evO c none env st) := by
  refine ⟨fun pins s σ H Q I h => po_none.run pins s σ H Q I ?_⟩
  obtain ⟨ρ, env, st, er, sr, o⟩ := h
  simp only [evO] at o
  exact o.here sr
theorem o_some {e : Expr} {u : E} (he : PE X e (tE X.K at_ W fun env st => evE c u env st)) : PO X (some e) (tO X.K at_ W fun env st => evO c (some u) env st) := by
  refine ⟨fun pins s σ H Q I h => (po_some he).run pins s σ H Q I ?_⟩
  obtain ⟨ρ, env, st, er, sr, o⟩ := h
  simp only [evO] at o
  refine tE_then (f := fun env st => evE c u env st) (g := fun x env st => match x with | .int i => .ok (some i) st | _ => .no) er sr o fun t ρ1 H1 st1 v er1 s1 m1 r1 o1 => ?_
  cases t <;> first | exact o1.elim | skip
  cases r1
  exact ⟨_, rfl, o1.here s1⟩
def rSl (K : PySem.W.Frag) (at_ : At) : V → Option Int → Option Int → Hp → VK → Prop := fun x lo hi H Q => ∃ (ρ : Pl) (st : Store) (t : T) (Z : Value → Option Addr → Hp → Prop), StRep K at_ ρ H st ∧ Rep K at_ ρ H t x ∧ Out K at_ ρ H (sliE t lo hi st) (Got K at_ Q) Z
theorem cut_rep {ρ : Pl} {H : Hp} {ts : List T} {vs : List V} (r : RepL X.K at_ ρ H ts vs) (lo hi : Option Int) : RepL X.K at_ ρ H (cutT ts lo hi) (cutV vs lo hi) := by
  unfold cutT cutV
  rw [r.length]
  exact (r.drop _).take _
theorem sl_all : SlR X (rSl X.K at_) := by
  intro pins s σ H x v vl vu
        lo hi sl Q I rx hs pl pu h
  obtain ⟨ρ, st, t, Z, sr, rt, o⟩ := h
  have lst : ∀ {a : Addr} {vs : List V} {ts : List T}, x = .ref a → SqL X.K H a vs → RepL X.K at_ ρ H ts vs → Out X.K at_ ρ H (.ok (.lst (cutT ts lo hi)) st) (Got X.K at_ Q) Z → ∃ T id, typeLookup (.type T) "__getitem__" = pure (some (.builtin id)) ∧ s.TypeIs v T ∧ wpAny (model X.prog X.w) X.A (getItem v (.ref sl)) (EP X pins σ Q) X.xe s := by
    intro a vs ts ex hq hl o
    exact sl_list pins s σ H x v vl vu lo hi sl Q I rx hs pl pu ⟨a, vs, ex, hq, fun p hp => fin_lst (fz := true) o sr (cut_rep hl lo hi) hp⟩
  unfold sliE at o
  split at o
  · rename_i ts
    obtain ⟨a, vs, rfl, h1, h2⟩ := rt
    cases rx
    obtain ⟨its, o', n, rv, ho, hc, hd, hdt, hz⟩ := Inv_plT I h1
    have ht : IsTup s.heap a its.toArray := ⟨o', ho, hc, n, hdt⟩
    have hlen : its.toArray.size = vs.length := by rw [List.size_toArray]; exact rv.length.symm
    by_cases hw : HT.sIx vs.length 0 lo = 0 ∧ HT.sIx vs.length vs.length hi = vs.length
    · refine ⟨"tuple", _, PyProof.Rows.slot_tuple_getitem.lookup, ht.typeIs, ?_⟩
      refine getItem_tuple_whole ht hs pl pu (by rw [hlen]; exact hw) ⟨.ref a, H, I, rfl, fin_val o sr ⟨a, vs, rfl, h1, ?_⟩⟩
      have e : cutT ts lo hi = ts := by
        unfold cutT
        rw [h2.length, hw.1, hw.2, ← h2.length]
        simp
      rw [e]
      exact h2
    · refine ⟨"tuple", _, PyProof.Rows.slot_tuple_getitem.lookup, ht.typeIs, ?_⟩
      refine HT.getItem_tuple_cut ht hs pl pu
            (by rw [hlen]; exact hw) ?_ (by rw [hlen]; exact hz)
      rw [hlen]
      refine ⟨.ref s.heap.objs.size, _, Inv_newT (t' := s.toks) (n := 0) I (fun b o e => Heap.get?_push_of_some _ e) (Nat.le_refl _) (Heap.get?_push_size _ rfl) rfl rfl ((rv.drop (HT.sIx vs.length 0 lo)).take (HT.sIx vs.length vs.length hi - HT.sIx vs.length 0 lo)) (Nat.le_trans (cutV_length vs lo hi) hz), rfl, ?_⟩
      exact fin_tup o sr (cut_rep h2 lo hi) I.fresh rfl
  · rename_i ns
    obtain ⟨a, ex, h1⟩ := rt
    exact lst ex h1.seq (repL_ofInts ns) o
  · split at o
    · rename_i ts e
      obtain ⟨a, vs, ex, h1, h2⟩ := rep_lst sr rt e
      exact lst ex (.of h1) h2 o
    · exact o.elim
theorem e_sli {a : Expr} {lo hi : Option Expr} {pos p2 : Pos} {u : E} {l h : Option E} (ha : PE X a (tE X.K at_ W fun env st => evE c u env st)) (hl : PO X lo (tO X.K at_ W fun env st => evO c l env st)) (hh : PO X hi (tO X.K at_ W fun env st => evO c h env st)) :
    PE X (.Subscript a (.Slice lo hi none p2) pos) (tE X.K at_ W fun env st => evE c (.sli u l h) env st) := by
  refine PE_imp (pe_slice (sl_all (at_ := at_)) ha hl hh) fun σ H Q ⟨ρ, env, st, er, sr, o⟩ => ?_
  simp only [evE] at o
  refine tE_then (f := fun env st => evE c u env st) (g := fun x env st => (evO c l env st).bind fun l st => (evO c h env st).bind fun h st => sliE x l h st) er sr o fun t ρ1 H1 st1 v er1 s1 m1 r1 o1 => ?_
  refine ⟨ρ1, env, st1, er1, s1, o1.bind.imp fun lo ρ2 H2 st2 m2 s2 o2 => ?_⟩
  refine ⟨ρ2, env, st2, er1.mv s1.sep m2, s2, o2.bind.imp fun hi ρ3 H3 st3 m3 s3 o3 => ?_⟩
  exact ⟨ρ3, st3, t, _, s3, Rep.mv s2.sep m3 _ _ (Rep.mv s1.sep m2 _ _ r1), o3⟩

/-! ### dict displays -/
def tP (K : PySem.W.Frag) (at_ : At) (W : WX) (f : Env → Store → Res (List (T × T))) (σ : L2.St) (H : Hp) (Q : List (V × V) → Hp → Prop) : Prop := ∃ ρ env st, EnvRep K at_ ρ H σ env ∧ StRep K at_ ρ H st ∧
  Out K at_ ρ H (f env st) (fun ts ρ' H' _ => ∀ vs ws, RepL K at_ ρ' H' (ts.map (·.1)) vs → RepL K at_ ρ' H' (ts.map (·.2)) ws → Q (vs.zip ws) H') (fun cls d H' => W cls d σ H')
structure PD (X : Cx) (pos : Pos) (keys : List (Option Expr)) (values : List Expr) (t : L2.St → Hp → (List (V × V) → Hp → Prop) → Prop) : Prop where
  run : ∀ (pins : List (Addr × Obj)) (s : Shared) (σ : L2.St) (H : Hp) (Q : List (V × V) → Hp → Prop), Inv X pins σ H s → t σ H Q →
    wpAny (model X.prog X.w) X.A (evalPairs (pairTrees keys values X.env pos))
          (fun vs s' => ∃ ps H', Inv X pins σ H' s' ∧ VV ps vs ∧ Q ps H') X.xe s
theorem d_nil {pos : Pos} : PD X pos [] [] (tP X.K at_ W fun env st => evPs c [] env st) := by
  refine ⟨fun pins s σ H Q I ⟨ρ, env, st, er, sr, o⟩ => pairTrees_nil_walk ⟨[], H, I, .nil, ?_⟩⟩
  simp only [evPs] at o
  exact o.here sr [] [] rfl rfl
theorem d_cons {pos : Pos} {k v : Expr} {ks : List (Option Expr)} {vs : List Expr} {u w : E} {us : List (E × E)} (hk : PE X k (tE X.K at_ W fun env st => evE c u env st)) (hv : PE X v (tE X.K at_ W fun env st => evE c w env st)) (hr : PD X pos ks vs (tP X.K at_ W fun env st => evPs c us env st)) :
    PD X pos (some k :: ks) (v :: vs) (tP X.K at_ W fun env st => evPs c ((u, w) :: us) env st) := by
  refine ⟨fun pins s σ H Q I ⟨ρ, env, st, er, sr, o⟩ => ?_⟩
  simp only [evPs] at o
  refine pairTrees_cons_walk (thn (hk.run pins s σ H (fun x H1 => tE X.K at_ W (fun env st => evE c w env st) σ H1 fun y H2 => tP X.K at_ W (fun env st => evPs c us env st) σ H2 fun ps H3 => Q ((x, y) :: ps) H3) I ?_) fun u' s1 ⟨x, H1, I1, rx, q1⟩ => thn (hv.run pins s1 σ H1 _ I1 q1) fun w2 s2 ⟨y, H2, I2, ry, q2⟩ =>
    thn (hr.run pins s2 σ H2 _ I2 q2) fun ws s3 ⟨ps, H3, I3, rel, q3⟩ => ⟨(x, y) :: ps, H3, I3, .cons ⟨rx, ry⟩ rel, q3⟩)
  refine tE_then (f := fun env st => evE c u env st) (g := fun t env st => (evE c w env st).bind fun u st => (evPs c us env st).bind fun ts st => .ok ((t, u) :: ts) st) er sr o fun t ρ1 H1 st1 x er1 s1 m1 r1 o1 => ?_
  refine tE_then (f := fun env st => evE c w env st) (g := fun u env st => (evPs c us env st).bind fun ts st => .ok ((t, u) :: ts) st) er1 s1 o1 fun t2 ρ2 H2 st2 y er2 s2 m2 r2 o2 => ?_
  refine ⟨ρ2, env, st2, er2, s2, o2.bind.imp fun ts ρ3 H3 st3 m3 s3 o3 vs ws rv rw' => ?_⟩
  exact o3.here s3 (x :: vs) (y :: ws) ⟨x, vs, rfl, Rep.mv s2.sep m3 _ _ (Rep.mv s1.sep m2 _ _ r1), rv⟩ ⟨y, ws, rfl, Rep.mv s2.sep m3 _ _ r2, rw'⟩
end
end Lw
set_option Elab.async false
set_option linter.all false
set_option maxRecDepth 100000
/-! LwC: tuple(range(..)), list(range(..)). -/
namespace Lw
open PySem PySem.Spec L2 PyProof.Rows
section
variable {X : Cx} {at_ : At} {W : WX} {c : Cf}
theorem rgE_ok {a b : Int} {ts : List T} (h : rgE a b = some ts) : RgOk a b ∧ ∃ ns : List Int, ts = ns.map .int ∧ rgV a b = ns.map .int := by
  unfold rgE at h
  split at h
  · rename_i hr
    cases h
    refine ⟨⟨by omega, by omega, by omega, by omega, by omega⟩, (List.range (b - a).toNat).map fun i => a + (i : Nat), by rw [List.map_map]; rfl, by unfold rgV; rw [List.map_map]; rfl⟩
  · cases h
def tTupR (te : L2.St → Hp → (Int → Int → Hp → Prop) → Prop) : TE := fun σ H Q => te σ H fun a b H1 => RgOk a b ∧ ∀ q ob, H1 q = none → ob.dict = none → Q (.ref q) (upd H1 q (.frz ob (.tup (rgV a b))))
theorem pe_tupR {e : Expr} {te : L2.St → Hp → (Int → Int → Hp → Prop) → Prop} {p pos : Pos} (hc : X.calm = true) (hg : Gl X "tuple") (hm : X.mg "tuple" = none) (he : PRg X e te) (na : starEach [e] X.env = (false, eval e X.env) :: starEach [] X.env) : PE X (.Call (.Name "tuple" p) [e] [] pos) (tTupR te) := by
  refine
        ⟨fun pins s σ H Q I h => ?_⟩
  refine Call_
        (ld_blt I hg hm boot_tuple (PyProof.Rows.callWith_type1 (args_cons (thn (he pins s σ H _ I h) fun x s1 ⟨r, a, b, t, u, v, H1, ex, hr, I1, ok, q⟩ => args_nil ?_) na) na))
  subst ex
  obtain
        ⟨b1, b2, b3, b4, b5⟩ := ok
  refine call_tuple_range (n := (b - a).toNat) (I1.ok.hd hc) hr
        (small_one b1 b2 b3 b4) (rangeSize_nat a b) b5 fun h' tk acc hk hi => ?_
  have I2 : Inv X pins σ H1
        { s1 with heap := h', toks := tk } := I1.kept hk
  have hz : (rgV a b).length ≤ sizeLine := by rw [rgV_length, sizeLine_eq]; omega
  exact ⟨.ref h'.objs.size, _, Inv_newT (t' := tk) (its := acc.toList) (n := 0) I2 (fun c o e => Heap.get?_push_of_some _ e) (Nat.le_refl _) (Heap.get?_push_size _ rfl) rfl (by rfl) (vals_rg hi) hz, rfl, q _ _ (I2.hok.fresh (Nat.le_refl _)) rfl⟩
theorem fin_rgt {H : Hp} {ρ : Pl} {st : Store} {a b : Int} {Q : VK} {Z : Value → Option Addr → Hp → Prop} (s : StRep X.K at_ ρ H st) (o : Out X.K at_ ρ H (.of ((rgE a b).map .tup) st) (Got X.K at_ Q) Z) :
    RgOk a b ∧ ∀ q ob, H q = none → ob.dict = none → Q (.ref q) (upd H q (.frz ob (.tup (rgV a b)))) := by
  cases e : rgE a b with
  | none => rw [e] at o; exact o.elim
  | some ts =>
    rw [e] at o
    obtain ⟨h1, ns, rfl, h2⟩ := rgE_ok e
    refine ⟨h1, fun q ob hq hd => ?_⟩
    rw [h2]
    exact fin_tup o s (repL_ofInts ns) hq hd
theorem fin_rgl {H : Hp} {ρ : Pl} {st : Store} {a b : Int} {fz : Bool} {Q : VK} {Z : Value → Option Addr → Hp → Prop} (s : StRep X.K at_ ρ H st)
    (o : Out X.K at_ ρ H (match rgE a b with | some ts => mkL fz ts st | none => .no) (Got X.K at_ Q) Z) : RgOk a b ∧ ∀ q, H q = none → Q (.ref q) (upd H q (.lst (rgV a b))) := by
  cases e : rgE a b with
  | none => rw [e] at o; exact o.elim
  | some ts =>
    rw [e] at o
    obtain ⟨h1, ns, rfl, h2⟩ := rgE_ok e
    refine ⟨h1, fun q hq => ?_⟩
    rw [h2]
    exact fin_lst o s (repL_ofInts ns) hq
variable {p p2 pos pos2 : Pos}
theorem e_tupr1 {a : Expr} {u : E} (hc : X.calm = true) (g1 : Gl X "tuple") (m1 : X.mg "tuple" = none) (g2 : Gl X "range") (m2 : X.mg "range" = none) (na : starEach [a] X.env = (false, eval a X.env) :: starEach [] X.env) (h : PE X a (tE X.K at_ W fun env st => evE c u env st)) :
    PE X (.Call (.Name "tuple" p) [.Call (.Name "range" p2) [a] [] pos2] [] pos) (tE X.K at_ W fun env st => evE c (.bi .tupr [u]) env st) := by
  refine PE_imp (pe_tupR hc g1 m1 (prg_1 g2 m2 h na) rfl) fun σ H Q h => ?_
  simp only [evE, evEs] at h
  have ea : (fun env st => ((evE c u env st).bind fun t st => (Res.ok [] st).bind fun ts st => Res.ok (t :: ts) st).bind (fun ts st => biE .tupr ts st)) = fun env st => (evE c u env st).bind fun x st => biE .tupr [x] st := by
    funext env st
    cases evE c u env st <;> rfl
  rw [ea] at h
  refine tE_one (f := fun env st => evE c u env st) (g := fun x st => biE .tupr [x] st) h fun t ρ1 H1 st1 v s1 r1 o1 => ?_
  cases t <;> first | exact o1.elim | skip
  cases r1
  exact ⟨_, rfl, fin_rgt s1 o1⟩
theorem e_tupr2 {a b : Expr} {u v : E} (hc : X.calm = true) (g1 : Gl X "tuple") (m1 : X.mg "tuple" = none) (g2 : Gl X "range") (m2 : X.mg "range" = none) (na : starEach [a, b] X.env = (false, eval a X.env) :: starEach [b] X.env) (nb : starEach [b] X.env = (false, eval b X.env) :: starEach [] X.env) (hp : (backTo pos2 (starEach [b] X.env)).any (·.1) = false) (ha : PE X a (tE X.K at_ W fun env st => evE c u env st)) (hb : PE X b (tE X.K at_ W fun env st => evE c v env st)) :
    PE X (.Call (.Name "tuple" p) [.Call (.Name "range" p2) [a, b] [] pos2] [] pos) (tE X.K at_ W fun env st => evE c (.bi .tupr [u, v]) env st) := by
  refine PE_imp (pe_tupR hc g1 m1 (prg_2 g2 m2 ha hb na nb hp) rfl) fun σ H Q h => ?_
  simp only [evE, evEs] at h
  have ea : (fun env st => ((evE c u env st).bind fun t st => ((evE c v env st).bind fun t st => (Res.ok [] st).bind fun ts st => Res.ok (t :: ts) st).bind fun ts st => Res.ok (t :: ts) st).bind (fun ts st => biE .tupr ts st)) = fun env st => (evE c u env st).bind fun x st => (evE c v env st).bind fun y st => biE .tupr [x, y] st := by
    funext env st
    cases h1 : evE c u env st with
    | ok t s1 =>
      simp only [Res.bind_ok]
      cases evE c v env s1 <;> rfl
    | _ => rfl
  rw [ea] at h
  refine tE_two (g := fun x y st => biE .tupr [x, y] st) h fun t u' ρ1 H1 st1 v' w s1 r1 r2 o1 => ?_
  cases t <;> first | exact o1.elim | skip
  cases u' <;> first | exact o1.elim | skip
  cases r1
  cases r2
  exact ⟨_, _, rfl, rfl, fin_rgt s1 o1⟩
theorem e_lstr1 {fz : Bool} {a : Expr} {u : E} (hc : X.calm = true) (g1 : Gl X "list") (m1 : X.mg "list" = none) (g2 : Gl X "range") (m2 : X.mg "range" = none) (na : starEach [a] X.env = (false, eval a X.env) :: starEach [] X.env) (h : PE X a (tE X.K at_ W fun env st => evE c u env st)) :
    PE X (.Call (.Name "list" p) [.Call (.Name "range" p2) [a] [] pos2] [] pos) (tE X.K at_ W fun env st => evE c (.bi (.lstr fz) [u]) env st) := by
  refine PE_imp (pe_listRg hc g1 m1 (prg_1 g2 m2 h na) rfl) fun σ H Q h => ?_
  simp only [evE, evEs] at h
  have ea : (fun env st => ((evE c u env st).bind fun t st => (Res.ok [] st).bind fun ts st => Res.ok (t :: ts) st).bind (fun ts st => biE (.lstr fz) ts st)) = fun env st => (evE c u env st).bind fun x st => biE (.lstr fz) [x] st := by
    funext env st
    cases evE c u env st <;> rfl
  rw [ea] at h
  refine tE_one (f := fun env st => evE c u env st) (g := fun x st => biE (.lstr fz) [x] st) h fun t ρ1 H1 st1 v s1 r1 o1 => ?_
  cases t <;> first | exact o1.elim | skip
  cases r1
  exact ⟨_, rfl, fin_rgl s1 o1⟩
theorem e_lstr2 {fz : Bool} {a b : Expr} {u v : E} (hc : X.calm = true) (g1 : Gl X "list") (m1 : X.mg "list" = none) (g2 : Gl X "range") (m2 : X.mg "range" = none) (na : starEach [a, b] X.env = (false, eval a X.env) :: starEach [b] X.env) (nb : starEach [b] X.env = (false, eval b X.env) :: starEach [] X.env) (hp : (backTo pos2 (starEach [b] X.env)).any (·.1) = false) (ha : PE X a (tE X.K at_ W fun env st => evE c u env st)) (hb : PE X b (tE X.K at_ W fun env st => evE c v env st)) :
    PE X (.Call (.Name "list" p) [.Call (.Name "range" p2) [a, b] [] pos2] [] pos) (tE X.K at_ W fun env st => evE c (.bi (.lstr fz) [u, v]) env st) := by
  refine PE_imp (pe_listRg hc g1 m1 (prg_2 g2 m2 ha hb na nb hp) rfl) fun σ H Q h => ?_
  simp only [evE, evEs] at h
  have ea : (fun env st => ((evE c u env st).bind fun t st => ((evE c v env st).bind fun t st => (Res.ok [] st).bind fun ts st => Res.ok (t :: ts) st).bind fun ts st => Res.ok (t :: ts) st).bind (fun ts st => biE (.lstr fz) ts st)) = fun env st => (evE c u env st).bind fun x st => (evE c v env st).bind fun y st => biE (.lstr fz) [x, y] st := by
    funext env st
    cases h1 : evE c u env st with
    | ok t s1 =>
      simp only [Res.bind_ok]
      cases evE c v env s1 <;> rfl
    | _ => rfl
  rw [ea] at h
  refine tE_two (g := fun x y st => biE (.lstr fz) [x, y] st) h fun t u' ρ1 H1 st1 v' w s1 r1 r2 o1 => ?_
  cases t <;> first | exact o1.elim | skip
  cases u' <;> first | exact o1.elim | skip
  cases r1
  cases r2
  exact ⟨_, _, rfl, rfl, fin_rgl s1 o1⟩
end
end Lw
set_option Elab.async false
set_option linter.all false
set_option maxRecDepth 100000
/-! Lw11: what is built, targets, walks, comprehensions. -/
namespace Lw
open PySem PySem.Spec L2 PyProof.Rows

section
variable {K : PySem.W.Frag} {at_ : At} {α β : Type} {ρ ρ1 ρ0 : Pl} {H H1 H0 : Hp} {Z : Value → Option Addr → Hp → Prop} {st : Store} {Q : VK} {p : List Addr} {D : Addr}
theorem Out.bind0 {r : Res α} {f : α → Store → Res β} {P : β → Pl → Hp → Store → Prop} (h : Out K at_ ρ H (r.bind f) P Z) :
    Out K at_ ρ H r (fun a _ _ st1 => Out K at_ ρ H (f a st1) P Z) Z := by
  cases r with
  | ok a st => exact fun ρ' H' m s => h
  | exc x st => exact h
  | no => exact h
theorem RepX.mw (s : Sep ρ H) (m : Mw ρ H ρ1 H1) {x : Exc} {cls : Value} {d : Option Addr} (h : RepX K at_ ρ H x cls d) (hx : ∀ dd fs, H dd = some (.xd fs) → H1 dd = some (.xd fs)) : RepX K at_ ρ1 H1 x cls d := by
  obtain ⟨h1, h2⟩ := h
  refine ⟨h1, h2.imp id fun ⟨dd, fs, vs, e, hd, r, q⟩ => ⟨dd, fs, vs, e, hx _ _ hd, RepL.mw s m _ _ r, q⟩⟩
/-- seen while something is built -/
theorem Out.hide {r : Res α} {P : α → Pl → Hp → Store → Prop} (h : Out K at_ ρ0 H0 r P Z) (m0 : Mv ρ0 H0 ⟨p, ρ0.hd⟩ H) (hD : H0 D = none) (hn : D ∉ ρ0) :
    Out K at_ ⟨p, D :: ρ0.hd⟩ H r (fun a ρ1 H1 st1 => ∃ p1, ρ1 = ⟨p1, D :: ρ0.hd⟩ ∧ Mv ρ0 H0 ⟨p1, ρ0.hd⟩ H1 ∧ P a ⟨p1, ρ0.hd⟩ H1 st1) Z := by
  cases r with
  | ok a st =>
    intro ρ1 H1 m s
    obtain ⟨e, m1⟩ := Mv.unhide (q := []) hD hn m0 m
    have e' : ρ1 = ⟨ρ1.pl, D :: ρ0.hd⟩ := by cases ρ1; simp at e; rw [e]
    refine ⟨ρ1.pl, e', m1, h _ _ m1 ?_⟩
    rw [e'] at s
    exact s.unhide
  | exc x st =>
    intro ρ1 H1 cls d m s rx
    obtain ⟨e, m1⟩ := Mv.unhide (q := []) hD hn m0 m
    have e' : ρ1 = ⟨ρ1.pl, D :: ρ0.hd⟩ := by cases ρ1; simp at e; rw [e]
    rw [e'] at s rx
    exact h _ _ cls d m1 s.unhide (rx.mw s.sep Mw.unhide fun _ _ q => q)
  | no => exact h
theorem Mw.built (hD : D ∈ ρ.hd) (o : HO) : Mw ρ H ρ (upd H D o) :=
  ⟨fun h => h, fun b u e hn _ => by
    have q : b ≠ D := fun z => by subst z; exact hn (.inr hD)
    rw [upd_ne q]
    exact e, fun {b u} e hn _ => hn⟩
/-- the start: what is to be built stands there -/
theorem Mv.hidden (s : StRep K at_ ρ0 H0 st) (hD : H0 D = none) (o : HO) : Mv ρ0 H0 ⟨ρ0.pl, ρ0.hd⟩ (upd H0 D o) := Mv.new s hD o
theorem fin_blst {fz : Bool} {ts : List T} {vs : List V} (o : Out K at_ ρ0 H0 (mkL fz ts st) (Got K at_ Q) Z) (m0 : Mv ρ0 H0 ⟨p, ρ0.hd⟩ H) (hD : H0 D = none) (hn : D ∉ ρ0) (s : StRep K at_ ⟨p, D :: ρ0.hd⟩ H st) (e : H D = some (.lst vs)) (r : RepL K at_ ⟨p, D :: ρ0.hd⟩ H ts vs) : Q (.ref D) H := by
  have hDp : D ∉ p := s.dj D List.mem_cons_self
  have hDh : D ∉ ρ0.hd := fun z => hn (.inr z)
  cases fz with
  | true => exact o ⟨p, ρ0.hd⟩ H m0 s.unhide _ ⟨D, vs, rfl, ⟨e, fun z => z.elim hDp hDh⟩, RepL.mw s.sep Mw.unhide _ _ r⟩
  | false =>
    have m1 : Mv ρ0 H0 ⟨p ++ [D], ρ0.hd⟩ H := by
      obtain ⟨m, em, hm⟩ := m0.grow
      refine ⟨⟨m ++ [D], ?_, fun b hb => ?_⟩, m0.exn⟩
      · have : p = ρ0.pl ++ m := congrArg Pl.pl em
        rw [this]
        simp [Pl.add]
      · rcases List.mem_append.mp hb with z | z
        · exact hm b z
        · have : b = D := by simpa using z
          subst this
          exact ⟨.none hD, hn⟩
    refine o ⟨p ++ [D], ρ0.hd⟩ H m1 (s.place hDh ⟨vs, e, RepL.mw s.sep Mw.place _ _ r⟩) _ ⟨D, rfl, ?_⟩
    show (p ++ [D])[st.length]? = some D
    rw [← show p.length = st.length from s.len, List.getElem?_append_right (Nat.le_refl _), Nat.sub_self]
    rfl
theorem fin_bdct {fz : Bool} {ts : List (T × T)} {vs : List (Key × V)} (o : Out K at_ ρ0 H0 (mkD fz ts st) (Got K at_ Q) Z) (m0 : Mv ρ0 H0 ⟨p, ρ0.hd⟩ H) (hD : H0 D = none) (hn : D ∉ ρ0) (s : StRep K at_ ⟨p, D :: ρ0.hd⟩ H st) (e : H D = some (.dK vs)) (r : RepP K at_ ⟨p, D :: ρ0.hd⟩ H ts vs) : Q (.ref D) H := by
  have hDp : D ∉ p := s.dj D List.mem_cons_self
  have hDh : D ∉ ρ0.hd := fun z => hn (.inr z)
  cases fz with
  | true => exact o ⟨p, ρ0.hd⟩ H m0 s.unhide _ ⟨D, vs, rfl, ⟨.inl e, fun z => z.elim hDp hDh⟩, RepP.mw s.sep Mw.unhide _ _ r⟩
  | false =>
    have m1 : Mv ρ0 H0 ⟨p ++ [D], ρ0.hd⟩ H := by
      obtain ⟨m, em, hm⟩ := m0.grow
      refine ⟨⟨m ++ [D], ?_, fun b hb => ?_⟩, m0.exn⟩
      · have : p = ρ0.pl ++ m := congrArg Pl.pl em
        rw [this]
        simp [Pl.add]
      · rcases List.mem_append.mp hb with z | z
        · exact hm b z
        · have : b = D := by simpa using z
          subst this
          exact ⟨.none hD, hn⟩
    refine o ⟨p ++ [D], ρ0.hd⟩ H m1 (s.place hDh ⟨vs, e, RepP.mw s.sep Mw.place _ _ r⟩) _ ⟨D, rfl, ?_⟩
    show (p ++ [D])[st.length]? = some D
    rw [← show p.length = st.length from s.len, List.getElem?_append_right (Nat.le_refl _), Nat.sub_self]
    rfl
theorem zip_keys : ∀ {ts : List (T × T)} {vs ws : List V}, ts.all (fun p => keyOk p.1) = true → RepL K at_ ρ H (ts.map (·.1)) vs → RepL K at_ ρ H (ts.map (·.2)) ws →
    ∃ kvs : List (Key × V), vs.zip ws = kvs.map (fun kv => (kV kv.1, kv.2)) ∧ RepP K at_ ρ H ts kvs
  | [], _, _, _, r, r' => by cases r; cases r'; exact ⟨[], rfl, rfl⟩
  | (k, t) :: ts, _, _, hk, r, r' => by
    obtain ⟨v, vs, rfl, h1, h2⟩ := r
    obtain ⟨w, ws, rfl, h3, h4⟩ := r'
    simp only [List.all_cons, Bool.and_eq_true] at hk
    obtain ⟨kvs, e, rp⟩ := zip_keys hk.2 h2 h4
    obtain ⟨q, kq, rfl⟩ := keyIs_of hk.1 h1
    exact ⟨(q, w) :: kvs, by simp [e], q, w, kvs, rfl, kq, h3, rp⟩
end

section
variable {X : Cx} {at_ : At} {W : WX} {c : Cf}
theorem e_dct {pos : Pos} {keys : List (Option Expr)} {values : List Expr} {fz : Bool} {us : List (E × E)} (h : PD X pos keys values (tP X.K at_ W fun env st => evPs c us env st)) (hall : keys.all (·.isSome) = true) (hl : keys.length = values.length) (h0 : keys ≠ [])
    (h15 : keys.length ≤ 15) (hu : us.length = keys.length) : PE X (.Dict keys values pos) (tE X.K at_ W fun env st => evE c (.dct fz us) env st) := by
  refine ⟨fun pins s σ H Q I ⟨ρ, env, st, er, sr, o⟩ => ?_⟩
  simp only [evE] at o
  have hn := I.hok.fresh
        (Nat.le_refl s.heap.objs.size)
  have hnr := sr.fresh hn
  have I1 := I.laid (a := s.heap.objs.size) (o := .dK []) (h' := s.heap.push { cls := .type "dict", data := .dict #[] })
        (t' := s.toks) (fun _ _ q => Heap.get?_push_of_some _ q) (Nat.le_refl _) (dk_empty s.heap I.big)
  refine wpAny_Dict_walk (knd := mixKind X.prog X.w) hall hl h0 h15 (thn (h.run pins _ σ _ (fun ps H2 => H2 s.heap.objs.size = some (.dK []) ∧ ∃ kvs : List (Key × V), ps = kvs.map (fun kv => (kV kv.1, kv.2)) ∧ kvs.length ≤ 15 ∧ Q (.ref s.heap.objs.size) (upd H2 s.heap.objs.size (.dK (mergeK [] kvs)))) I1 ?_) fun ws s2 ⟨ps, H2, I2, rel, e, kvs, ep, lk, q2⟩ => ?_)
  · refine ⟨⟨ρ.pl, s.heap.objs.size :: ρ.hd⟩, env, st, er.mw sr.sep (Mw.hide sr hn _), sr.hide hn (by first | exact .lst | exact .dK | exact .lf), ?_⟩
    refine ((o.bind0.hide (Mv.hidden sr hn (.dK [])) hn hnr).impE fun ts ρ1 H1 st1 ee m1 s1 ⟨p1, e1, m01, o1⟩ vs ws rv rw' => ?_)
    subst e1
    have hD1 : H1 s.heap.objs.size = some (.dK []) := m1.ext _ _ upd_same (fun z => hnr (.inl z))
    obtain ⟨hk, o1⟩ := o1.iteN
    obtain ⟨kvs, ez, rp⟩ := zip_keys hk rv rw'
    refine ⟨hD1, kvs, ez, ?_, ?_⟩
    · rw [← repP_length rp, evPs_len ee, hu]
      exact h15
    · have s2 := s1.built (D := s.heap.objs.size) List.mem_cons_self (o := .dK (mergeK [] kvs)) .dK
      refine fin_bdct o1 (Mv.built hn m01 _) hn hnr s2 upd_same ?_
      exact RepP.mw s1.sep (Mw.built List.mem_cons_self _) _ _ (repP_merge rp rfl)
  · subst ep
    obtain ⟨rs, cr, rk⟩ := carries_of (P := X.prog) (w := X.w) rel
    obtain ⟨z, hd, vs0, r0, dd⟩
          := dk_of I2.hok e
    cases r0
    refine ⟨rs, cr, dd, fun h' dd' hs => ⟨.ref s.heap.objs.size, _, ?_, rfl, q2⟩⟩
    have hz : (mergeK [] kvs).length
          ≤ sizeLine := by
      have h1 :=
            length_mergeK kvs []
      rw [List.length_nil] at h1
      rw [sizeLine_eq]; omega
    have he : ∃ q, h'.get? s.heap.objs.size =
          some q := let ⟨q, _, _, hq, _⟩ := dd'; ⟨q, hq⟩
    exact d_write I2 (by rw [e]; exact True.intro)
          hs he (dk_new hz hd (rk.merge .nil) dd')
theorem e_dct0 {pos : Pos} {fz : Bool} : PE X (.Dict [] [] pos) (tE X.K at_ W fun env st => evE c (.dct fz []) env st) := by
  refine PE_imp pe_dnewK fun σ H Q ⟨ρ, env, st, er, sr, o⟩ p hp => ?_
  simp only [evE, evPs, Res.bind_ok, List.all_nil, if_true] at o
  exact fin_dct o sr rfl hp

/-! ### targets -/
def RepI (K : PySem.W.Frag) (at_ : At) (ρ : Pl) (H : Hp) (t : T) (v : V) : Prop := Rep K at_ ρ H t v ∨ ∃ ts a vs, t = .tup ts ∧ v = .ref a ∧ SqT K H a vs ∧ RepL K at_ ρ H ts vs
def RepG (K : PySem.W.Frag) (at_ : At) (ρ : Pl) (H : Hp) (g : G) (t : T) (v : V) : Prop := match g with
  | .name _ => Rep K at_ ρ H t v
  | .tup _ => RepI K at_ ρ H t v
mutual
def nmG : G → List Nat
  | .name i => [i]
  | .tup gs => nmGs gs
def nmGs : List G → List Nat
  | [] => []
  | g :: gs => nmG g ++ nmGs gs
end
/-- only these slots are set -/
def Sets (is : List Nat) (σ σ' : L2.St) : Prop := ∀ vs : List Nat, (∀ i ∈ is, i ∈ vs) → wipe σ' vs = wipe σ vs
def tG (K : PySem.W.Frag) (at_ : At) (g : G) : TG := fun v σ H Q => ∃ ρ env t env', EnvRep K at_ ρ H σ env ∧ RepG K at_ ρ H g t v ∧ setG g t env = some env' ∧ ∀ σ', Sets (nmG g) σ σ' → EnvRep K at_ ρ H σ' env' → Q σ' H
def tGs (K : PySem.W.Frag) (at_ : At) (gs : List G) : TGs := fun vs σ H Q => ∃ ρ env ts env', EnvRep K at_ ρ H σ env ∧ RepL K at_ ρ H ts vs ∧ setGs gs ts env = some env' ∧ ∀ σ', Sets (nmGs gs) σ σ' → EnvRep K at_ ρ H σ' env' → Q σ' H
theorem wipe_set {σ : L2.St} {i : Nat} {x : Option V} : ∀ {vs : List Nat}, i ∈ vs → wipe (σ.set i x) vs = wipe σ vs
  | v :: vs, h => by
    unfold wipe
    by_cases hv : i ∈ vs
    · rw [wipe_set hv]
    · have e : i = v := by
        rcases List.mem_cons.mp h with h | h
        · exact h
        · exact absurd h hv
      subst e
      have : ∀ ws : List Nat, i ∉ ws → wipe (σ.set i x) ws = (wipe σ ws).set i x := by
        intro ws
        induction ws with
        | nil => intro _; rfl
        | cons w ws ih =>
          intro hw
          have h1 : i ≠ w := fun e => hw (e ▸ List.mem_cons_self)
          have h2 : i ∉ ws := fun m => hw (List.mem_cons_of_mem _ m)
          unfold wipe
          rw [ih h2, List.set_comm _ _ h1]
      rw [this vs hv, List.set_set]
theorem EnvRep.set {K : PySem.W.Frag} {ρ : Pl} {H : Hp} {σ : L2.St} {env : Env} (h : EnvRep K at_ ρ H σ env) {i : Nat} {t : T} {v : V} (r : Rep K at_ ρ H t v) : EnvRep K at_ ρ H (σ.set i (some v)) (env.set i (some t)) := by
  refine ⟨by simp [h.len], fun j u e => ?_⟩
  by_cases hj : i = j
  · subst hj
    have hlt : i < env.length := by
      by_cases z : i < env.length
      · exact z
      · rw [List.getElem?_eq_none (by simp; omega)] at e; cases e
    rw [List.getElem?_set_self hlt] at e
    cases e
    exact ⟨v, List.getElem?_set_self (by rw [← h.len]; exact hlt), r⟩
  · rw [List.getElem?_set_ne hj] at e
    rw [List.getElem?_set_ne hj]
    exact h.val j u e
theorem EnvRep.wipe {K : PySem.W.Frag} {ρ : Pl} {H : Hp} {σ : L2.St} {env : Env} (h : EnvRep K at_ ρ H σ env) : ∀ vs : List Nat, EnvRep K at_ ρ H (L2.wipe σ vs) (wipeT env vs)
  | [] => h
  | v :: vs => by
    have ih := EnvRep.wipe h vs
    refine ⟨by simp only [L2.wipe, wipeT, List.length_set]; exact ih.len, fun j u e => ?_⟩
    simp only [L2.wipe, wipeT] at e ⊢
    by_cases hj : v = j
    · subst hj
      by_cases z : v < (wipeT env vs).length
      · rw [List.getElem?_set_self z] at e; cases e
      · rw [List.getElem?_eq_none (by simp; omega)] at e; cases e
    · rw [List.getElem?_set_ne hj] at e ⊢
      exact ih.val j u e
theorem g_name {i : Nat} {x : Str} {pos : Pos} (hN : X.N.Nodup) (hi : X.N[i]? = some x) (hx : Loc X.env.scope x) (hf : X.fn x = true ∨ X.env.scope.names.lookup x = some .local) : PG X (.Name x pos) (tG X.K at_ (.name i)) := by
  refine ⟨fun pins s σ H v u Q I r ⟨ρ, env, t, env', er, rg, e, q⟩ => (pg_name hN hi hx hf).run pins s σ H v u Q I r ?_⟩
  simp only [setG] at e
  split at e
  · cases e
    exact q _ (fun vs h => wipe_set (h i (by simp [nmG]))) (er.set rg)
  · cases e
theorem gs_nil : PGs X [] (tGs X.K at_ []) := by
  refine ⟨fun pins s σ H v u Q I r ⟨ρ, env, t, env', er, rg, e, q⟩ => pgs_nil.run pins s σ H v u Q I r ?_⟩
  cases t with
  | nil =>
    cases rg
    simp only [setGs] at e
    cases e
    exact ⟨rfl, q σ (fun _ _ => rfl) er⟩
  | cons => cases e
theorem gs_cons {e : Expr} {es : List Expr} {g : G} {gs : List G} (h1 : PG X e (tG X.K at_ g)) (h2 : PGs X es (tGs X.K at_ gs)) (hs : (assignEach (e :: es) X.env).map (·.2) = assign e X.env :: (assignEach es X.env).map (·.2)) : PGs X (e :: es) (tGs X.K at_ (g :: gs)) := by
  refine ⟨fun pins s σ H v u Q I r ⟨ρ, env, t, env', er, rg, e, q⟩ => (pgs_cons h1 h2 hs).run pins s σ H v u Q I r ?_⟩
  cases t with
  | nil => cases e
  | cons t ts =>
    obtain ⟨w, ws, rfl, r1, r2⟩ := rg
    simp only [setGs] at e
    cases e1 : setG g t env with
    | none => rw [e1] at e; cases e
    | some env1 =>
      rw [e1] at e
      refine ⟨w, ws, rfl, ρ, env, t, env1, er, ?_, e1, fun σ1 hs1 er1 => ⟨ρ, env1, ts, env', er1, r2, e, fun σ2 hs2 er2 => q σ2 (fun vs hv => ?_) er2⟩⟩
      · cases g with
        | name i => exact r1
        | tup gs => exact .inl r1
      · rw [hs2 vs fun i hi => hv i (by simp only [nmGs]; exact List.mem_append_right _ hi), hs1 vs fun i hi => hv i (by simp only [nmGs]; exact List.mem_append_left _ hi)]
theorem setGs_len : ∀ {gs : List G} {ts : List T} {env env' : Env}, setGs gs ts env = some env' → ts.length = gs.length
  | [], [], _, _, _ => rfl
  | [], _ :: _, _, _, h => by cases h
  | _ :: _, [], _, _, h => by cases h
  | g :: gs, t :: ts, env, env', h => by
    simp only [setGs] at h
    split at h
    · simp [setGs_len h]
    · cases h
theorem g_tup {es : List Expr} {k : Nat} {pos : Pos} {gs : List G} (hc : X.calm = true) (h : PGs X es (tGs X.K at_ gs)) (hn : (assignEach es X.env).length = gs.length) (hst : (assignEach es X.env).findIdx? (·.1) = none) : PG X (.Tuple es k pos) (tG X.K at_ (.tup gs)) := by
  refine ⟨fun pins s σ H v u Q I r ⟨ρ, env, t, env', er, rg, e, q⟩ => (pg_tup hc h hn hst).run pins s σ H v u Q I r ?_⟩
  have main : ∀ (ts : List T) (a : Addr) (vs : List V), t = .tup ts → v = .ref a → SqT X.K H a vs → RepL X.K at_ ρ H ts vs → gTup X.K gs.length (tGs X.K at_ gs) v σ H Q := by
    rintro ts a vs rfl rfl hq hl
    simp only [setG] at e
    exact ⟨a, vs, rfl, hq, by rw [← hl.length, setGs_len e], ρ, env, ts, env', er, hl, e, q⟩
  rcases rg with rg | ⟨ts, a, vs, e1, e2, hq, hl⟩
  · cases t with
    | tup ts => obtain ⟨a, vs, e1, hq, hl⟩ := rg; exact main ts a vs rfl e1 hq.seq hl
    | _ => cases e
  · exact main ts a vs e1 e2 hq hl
end
end Lw
set_option Elab.async false
set_option linter.all false
set_option maxRecDepth 100000
/-! Lw12: walks, comprehensions. -/
namespace Lw
open PySem PySem.Spec L2 PyProof.Rows

section
variable {K : PySem.W.Frag} {at_ : At} {ρ ρ1 : Pl} {H H1 : Hp} {st : Store}
theorem RepG.of {g : G} {t : T} {v : V} (r : Rep K at_ ρ H t v) : RepG K at_ ρ H g t v := by
  cases g with
  | name i => exact r
  | tup gs => exact .inl r
theorem Mv.mwHide {p : List Addr} {D : Addr} (m : Mv ρ1 H1 ⟨p, ρ1.hd⟩ H) (hD : H1 D = none) : Mw ρ1 H1 ⟨p, D :: ρ1.hd⟩ H :=
  ⟨fun h => m.at h, fun b o e hn nt => m.ext b o e (fun z => hn (.inl z)) nt, fun {b o} e hn nt z => by
    rcases z with z | z
    · exact (m.notMem e hn nt) (.inl z)
    · rcases List.mem_cons.mp
            z with z | z
      · subst z; rw [hD] at e; cases e
      · exact hn (.inr z)⟩
/-- how the iterator goes with what is walked -/
def Link (K : PySem.W.Frag) (at_ : At) (g : G) (k : Ik) (w : Walk) (ρ1 : Pl) (H1 : Hp) (J : It) : Prop :=
  ∀ ρ' H' st', Mw ρ1 H1 ρ' H' → StRep K at_ ρ' H' st' → w.same k st' = true → ∀ i,
    (∀ x, w.items[i]? = some x → J.go i H' ∧ ∀ v H'', J.yld i H' v H'' → Mv ρ' H' ρ' H'' ∧ StRep K at_ ρ' H'' st' ∧ RepG K at_ ρ' H'' g x v) ∧ (w.items.length ≤ i → J.stop i H')
def iW (K : PySem.W.Frag) (at_ : At) (W : WX) (g : G) (k : Ik) (f : Env → Store → Res (List T)) : TI := fun σ H R => ∃ ρ env st, EnvRep K at_ ρ H σ env ∧ StRep K at_ ρ H st ∧
  Out K at_ ρ H (f env st) (fun vs ρ1 H1 st1 => ∃ w, walkOf st1 k vs = some w ∧ ∀ J, Link K at_ g k w ρ1 H1 J → R J H1) (fun cls d H' => W cls d σ H')
theorem link_list {g : G} {k : Ik} {w : Walk} {a : Addr} (h : ∀ ρ' H' st', Mw ρ1 H1 ρ' H' → StRep K at_ ρ' H' st' → w.same k st' = true → ∃ vs, SqL K H' a vs ∧ RepL K at_ ρ' H' w.items vs) : Link K at_ g k w ρ1 H1 (Itl K a) := by
  intro ρ' H' st' m s hs i
  obtain ⟨vs, h1, h2⟩ := h ρ' H' st' m s hs
  refine ⟨fun x hx => ?_, fun hl => ⟨vs, h1, by rw [← h2.length]; exact hl⟩⟩
  obtain ⟨v, hv, rv⟩ := h2.getT hx
  refine ⟨⟨vs, v, h1, hv⟩, fun v' H'' y => ?_⟩
  obtain ⟨rfl, y⟩ := y
  have e := y vs h1
  rw [hv] at e
  cases e
  exact ⟨Mv.refl, s, .of rv⟩
theorem link_tup {g : G} {k : Ik} {w : Walk} {a : Addr} (h : ∀ ρ' H' st', Mw ρ1 H1 ρ' H' → StRep K at_ ρ' H' st' → w.same k st' = true → ∃ vs, SqT K H' a vs ∧ RepL K at_ ρ' H' w.items vs) : Link K at_ g k w ρ1 H1 (Itt K a) := by
  intro ρ' H' st' m s hs i
  obtain ⟨vs, h1, h2⟩ := h ρ' H' st' m s hs
  refine ⟨fun x hx => ?_, fun hl => ⟨vs, h1, by rw [← h2.length]; exact hl⟩⟩
  obtain ⟨v, hv, rv⟩ := h2.getT hx
  refine ⟨⟨vs, v, h1, hv⟩, fun v' H'' y => ?_⟩
  obtain ⟨rfl, y⟩ := y
  have e := y vs h1
  rw [hv] at e
  cases e
  exact ⟨Mv.refl, s, .of rv⟩
theorem link_str {g : G} {k : Ik} {x : Str} : Link K at_ g k ⟨x.cps.toList.map fun c => T.str ⟨#[c]⟩, none⟩ ρ1 H1 (Its x) := by
  intro ρ' H' st' m s hs i
  refine ⟨fun t ht => ?_, fun hl => (show x.cps.size ≤ i by simpa using hl)⟩
  rw [List.getElem?_map] at ht
  obtain ⟨ch, hc, rfl⟩ := Option.map_eq_some_iff.mp ht
  have hc' : x.cps[i]? = some ch := by rw [← Array.getElem?_toList]; exact hc
  refine ⟨(Array.getElem?_eq_some_iff.mp hc').1, fun v' H'' y => ?_⟩
  obtain ⟨rfl, c', e, rfl⟩ := y
  rw [hc'] at e
  cases e
  exact ⟨Mv.refl, s, .of rfl⟩
theorem link_rng {g : G} {k : Ik} {lo : Int} {n : Nat} : Link K at_ g k ⟨(List.range n).map fun (m : Nat) => T.int (lo + m), none⟩ ρ1 H1 (Itr lo n) := by
  intro ρ' H' st' m s hs i
  refine ⟨fun t ht => ?_, fun hl => (show n ≤ i by simpa using hl)⟩
  rw [List.getElem?_map] at ht
  obtain ⟨j, hj, rfl⟩ := Option.map_eq_some_iff.mp ht
  obtain ⟨hlt, e⟩ :=
        List.getElem?_eq_some_iff.mp hj
  simp at hlt e
  subst e
  refine ⟨hlt, fun v' H'' y => ?_⟩
  obtain ⟨rfl, rfl⟩ := y
  exact ⟨Mv.refl, s, .of rfl⟩
end

section
variable {X : Cx} {at_ : At} {W : WX} {c : Cf} {tg : Expr} {g : G}
theorem w_val {l : Expr} {u : E} (hl : PE X l (tE X.K at_ W fun env st => evE c u env st)) : PI X tg l (iW X.K at_ W g .val fun env st => evEs c [u] env st) := by
  refine ⟨fun pins s σ H R I ⟨ρ, env, st, er, sr, o⟩ => ?_⟩
  have o : Out X.K at_ ρ H ((evE c u env st).bind fun t st => .ok [t] st) (fun vs ρ1 H1 st1 => ∃ w, walkOf st1 .val vs = some w ∧ ∀ J, Link X.K at_ g .val w ρ1 H1 J → R J H1) (fun cls d H' => W cls d σ H') := by
    simp only [evEs] at o
    cases q : evE c u env st <;> rw [q] at o <;> exact o
  refine thn (hl.run pins s σ H (fun v H1 => ∃ ρ1 st1 t w, StRep X.K at_ ρ1 H1 st1 ∧ Rep X.K at_ ρ1 H1 t v ∧ walkOf st1 .val [t] = some w ∧ ∀ J, Link X.K at_ g .val w ρ1 H1 J → R J H1) I ?_) fun v s1 ⟨x, H1, I1, r1, ρ1, st1, t, w, sr1, rt, hw, q⟩ => ?_
  · refine tE_then (f := fun env st => evE c u env st) (g := fun t env st => .ok [t] st) er sr o fun t ρ1 H1 st1 v er1 s1 m1 r1 o1 => ?_
    obtain ⟨w, e, q⟩ := o1.here s1
    exact ⟨ρ1, st1, t, w, s1, r1, e, q⟩
  · have lst : ∀ {a : Addr} {vs : List V}, x = .ref a → SqL X.K H1 a vs → Link X.K at_ g .val w ρ1 H1 (Itl X.K a) → wpAny (model X.prog X.w) X.A (pyIter v) (PIE X pins σ tg R) X.xe s1 := by
      rintro a vs rfl hq lk
      cases r1
      obtain ⟨its, rv, p, hz⟩
            := I1.list hq
      refine
            wpAny_pyIter_list p.isList ?_
      refine ⟨s1.heap.objs.size, [s1.heap.objs.size], _, _, H1, rfl, I1.kept (t' := s1.toks) fun b o e => Heap.get?_push_of_some _ e, turn_list a _, ⟨_, Heap.get?_push_size _ rfl, rfl, rfl⟩, fun b hb => ?_, q _ lk⟩
      have e : b = s1.heap.objs.size
            := by simpa using hb
      subst e
      exact I1.fpOk (Nat.le_refl _)
            (I1.hok.fresh (Nat.le_refl _))
    cases t with
    | lst ts =>
      cases hw
      obtain ⟨a, vs, ex, h1, h2⟩ := id rt
      refine lst ex h1.seq (link_list fun ρ' H' st' m s' _ => ?_)
      obtain ⟨a', vs', e', h1', h2'⟩ := Rep.mw sr1.sep m _ _ rt
      rw [ex] at e'; cases e'
      exact ⟨vs', h1'.seq, h2'⟩
    | tup ts =>
      cases hw
      obtain ⟨a, vs, ex, h1, h2⟩ := id rt
      have lk : Link X.K at_ g .val ⟨ts, none⟩ ρ1 H1 (Itt X.K a) := link_tup fun ρ' H' st' m s' _ => by
        obtain ⟨a', vs', e', h1', h2'⟩ := Rep.mw sr1.sep m _ _ rt
        rw [ex] at e'; cases e'
        exact ⟨vs', h1'.seq, h2'⟩
      subst ex
      cases r1
      obtain ⟨its, rv, p, hz⟩ := I1.tuple h1.seq
      refine wpAny_pyIter_tuple
            (show s1.heap.IsTuple a its.toArray from p) ?_
      refine ⟨s1.heap.objs.size, [s1.heap.objs.size], _, _, H1, rfl, I1.kept (t' := s1.toks) fun b o e => Heap.get?_push_of_some _ e, turn_tuple a _, ⟨_, Heap.get?_push_size _ rfl, rfl, rfl⟩, fun b hb => ?_, q _ lk⟩
      have e : b = s1.heap.objs.size
            := by simpa using hb
      subst e
      exact I1.fpOk (Nat.le_refl _)
            (I1.hok.fresh (Nat.le_refl _))
    | scr ns =>
      cases hw
      obtain ⟨a, ex, h1⟩ := id rt
      refine lst ex h1.seq (link_list fun ρ' H' st' m s' _ => ?_)
      obtain ⟨a', e', h1'⟩ := Rep.mw sr1.sep m _ _ rt
      rw [ex] at e'; cases e'
      exact ⟨_, h1'.seq, repL_ofInts _⟩
    | str z =>
      cases hw
      cases rt
      obtain ⟨t, rfl⟩ := r1
      cases ha : z.cps.all (· < 128)
      · exact wpAny_pyIter_wide ha (pi_one (tk := s1.toks) I1 _ (turn_str _ z t "str_iterator" (.inr rfl)) ⟨_, Heap.get?_push_size _ rfl, rfl, rfl⟩ (q _ link_str))
      · exact wpAny_pyIter_ascii ha (pi_one (tk := s1.toks) I1 _ (turn_str _ z t "str_ascii_iterator" (.inl rfl)) ⟨_, Heap.get?_push_size _ rfl, rfl, rfl⟩ (q _ link_str))
    | loc l =>
      simp only [walkOf] at hw
      split at hw
      · rename_i ts el
        cases hw
        obtain ⟨a, ex, hl⟩ := id rt
        obtain ⟨vs, h1, h2⟩ := sr1.cell l a _ hl el
        refine lst ex (.of h1) (link_list fun ρ' H' st' m s' hs => ?_)
        simp only [Walk.same] at hs
        split at hs
        · rename_i ts' e'
          have e2 : ts' = ts := of_decide_eq_true hs
          subst e2
          obtain ⟨vs', h1', h2'⟩ := s'.cell l a _ (m.pat hl) e'
          exact ⟨vs', .of h1', h2'⟩
        · cases hs
      · cases hw
    | _ => cases hw

end
end Lw
set_option Elab.async false
set_option linter.all false
set_option maxRecDepth 100000
/-! LwE: enumerate of a list or a tuple. -/
namespace Lw
open PySem PySem.Spec L2 PyProof.Rows

abbrev tItO (l : Addr) : Obj := { cls := .type "tuple_iterator", data := .fields #[.ref l, .int 0 0] }
abbrev enO (it : Addr) : Obj := { cls := .type "enumerate", data := .fields #[.none, .bool false, .ref it, rawInt 0, .none, .none] }
theorem enumT_new (l : Addr) (items : Array Value) (n : Nat) (dct : Option Addr) (sl : Array (Option Value)) :
    Meets (Builtin.«enumerate.__new__» ⟨[.type "enumerate", .ref l], []⟩) (fun _ R s => s.heap.get? l = some { cls := .type "tuple", dict := dct, data := .seq items n, slots := sl } ∧
      R (.ok (.ret (.ref (s.heap.push (tItO l)).objs.size))) { s with heap := (s.heap.push (tItO l)).push (enO s.heap.objs.size) }) :=
  .of_wp fun prog
        w A R s h => by
    obtain
          ⟨hp, g, d, tk, os⟩ := s
    obtain ⟨hl, h⟩ := h
    have hsub := sub_enumerate
    have hL : Heap.IsTuple (Shared.heap ⟨hp, g, d, tk, os⟩) l items := ⟨_, hl, rfl, n, rfl⟩
    wp_walk using AutoSeq1.wpAny_loadPart' hl
    refine wpAny_stack_any
          fun st => wpAny_pure ?_
    split
    · rename_i c _ _ _ _ _
      cases (c == Value.type "enumerate") <;>
        · wp_walk using AutoSeq1.wpAny_loadPart' hl, wpAny_pyIter_tuple hL
          exact ⟨_, rfl, h⟩
    · wp_walk using AutoSeq1.wpAny_loadPart' hl, wpAny_pyIter_tuple hL
      exact ⟨_, rfl, h⟩
section
variable {prog : Program}
      {w : World} {A : Around} {E : Value → Shared → Prop} {s : Shared}
theorem call_enumT {l : Addr} {items : Array Value} {Q : Value → Shared → Prop} (hL : s.heap.IsTuple l items)
    (h : ∀ h', IsEnum h' (s.heap.objs.size + 1) s.heap.objs.size 0 .none → h'.IsTupleIter s.heap.objs.size l 0 → (∀ b o, s.heap.get? b = some o → h'.get? b = some o) → Q (.ref (s.heap.objs.size + 1)) { s with heap := h' }) :
    wpAny (model prog w) A
          (call (.type "enumerate") [.ref l]) Q E s := by
  obtain
        ⟨⟨c, dct, dt, sl⟩, hl, hc, n, hd⟩ := hL
  cases (show c = .type "tuple" from hc)
  cases (show dt = .seq items n from hd)
  refine callType_new F.called_enumerate (by decide) (F.typeCall_enumerate_1 _) (F.newCall_enumerate_1 _) (fun obj => F.args_object_init_2 obj _) F.entry_enumerate_new (enumT_new l items n dct sl) ⟨hl, ?_⟩
  have hz : (s.heap.push (tItO l)).objs.size = s.heap.objs.size + 1 := Heap.size_push ..
  show _ ∧ _
  rw [hz]
  have he : IsEnum ((s.heap.push (tItO l)).push (enO s.heap.objs.size)) (s.heap.objs.size + 1) s.heap.objs.size 0 .none := by
    have := Heap.get?_push_size (s.heap.push (tItO l)) (o := enO s.heap.objs.size) rfl
    rw [hz] at this
    exact this
  exact ⟨⟨_, he, rfl⟩, h _ he ⟨_, Heap.get?_push_of_some _ (Heap.get?_push_size _ rfl), rfl, rfl⟩ fun b o x => Heap.get?_push_of_some _ (Heap.get?_push_of_some _ x)⟩
end
theorem draws_tuple {prog : Program} {w : World} {A : Around} (hh : A.handled = none) (it l : Addr) (hne : l ≠ it) (items : Array Value) :
    Draws prog w A it [it, l] items.size (fun i x => items[i]? = some x) (fun i h => h.IsTupleIter it l i ∧ h.IsTuple l items) where
  live := fun i h ⟨⟨o, ho, _⟩, _⟩ => ⟨o, ho⟩
  frame := fun i h h' ⟨⟨o, ho, r⟩, ⟨o2, ho2, r2⟩⟩ k => ⟨⟨o, k it (by simp) _ ho, r⟩, ⟨o2, k l (by simp) _ ho2, r2⟩⟩
  item := fun i s Q E hi ⟨h1, h2⟩ hQ => RZ.nextOf_tuple_item h1 h2 (x := items[i]) (by simp [hi]) fun h' h1' sb => hQ _ h' s.toks (by simp [hi]) ⟨h1', by
    obtain ⟨o, ho, r⟩ := h2
    exact ⟨o, (sb.2 l hne).trans ho, r⟩⟩ sb
  done := fun s Q E ⟨h1, h2⟩ hE => RZ.nextOf_tuple_end hh h1 h2 (by simp) hE
/-- the tuple at a, each item in a new pair -/
def IteT (K : PySem.W.Frag) (a : Addr) (n : Nat) : It :=
  ⟨fun i H => ∃ (xs : List V) (x : V), SqT K H a xs ∧ xs.length = n ∧ xs[i]? = some x, fun i H v H' => ∃ T x, v = .ref T ∧ H T = none ∧ H' = upd H T (.tup [.int (i : Nat), x]) ∧ ∀ xs, SqT K H a xs → xs[i]? = some x, fun i H => n ≤ i ∧ ∃ xs : List V, SqT K H a xs ∧ xs.length = n⟩
theorem turn_enumT {P : Program} {w : World} {K : PySem.W.Frag} {elts : List Expr} {kk : Nat} {tpos : Pos} (a e it : Addr) (n : Nat) (hae : a ≠ e) (hai : a ≠ it) :
    Turn P w K (.Tuple elts kk tpos) (IteT K a n) [e, it] e (fun i h => (∃ old, IsEnum h e it ((i : Nat) : Int) old) ∧ h.IsTupleIter it a i ∧ e ≠ it ∧ i ≤ n) where
  mem := by simp
  obj := fun i h st b hb => by
    obtain
          ⟨⟨old, he⟩, ⟨o, ho, hc, hd⟩, _⟩ := st
    have e' : b
          = e ∨ b = it := by simpa using hb
    rcases e' with z | z
    · rw [z]; exact
            ⟨_, he, fun v q => nomatch q⟩
    · rw [z]; exact
            ⟨o, ho, fun v q => by rw [hd] at q; cases q⟩
  keep := fun i h h' st k => by
    obtain ⟨⟨old, he⟩, ⟨o, ho, r⟩, hne, hi⟩ := st
    exact ⟨⟨old, k e (by simp) _ he⟩, ⟨o, k it (by simp) o ho, r⟩, hne, hi⟩
  item := by
    intro X hP hw hK hc i
          pins s σ H E I hf st hg
    subst hP hw hK
    obtain ⟨⟨old, he⟩, hit, hne, hin⟩ := st
    obtain ⟨xs, x, hq, hn, hx⟩ := hg
    obtain ⟨its, rv, p, hz⟩
          := I.tuple hq
    have hl := rv.length
    have hlt : i < its.toArray.size := by rw [List.size_toArray, ← hl]; exact (List.getElem?_eq_some_iff.mp hx).1
    have D := draws_tuple (prog := X.prog) (w := X.w) (A := X.A.in1) (I.ok.hd hc) it a hai its.toArray
    have hel : e < s.heap.objs.size
          := Heap.lt_size he
    have hil : it <
          s.heap.objs.size := by obtain ⟨_, q, _⟩ := hit; exact Heap.lt_size q
    refine wpAny_pyNext_enum_itemD D he ⟨hit, p⟩ hlt hne (by simp [hne, Ne.symm hae]) fun u h' tk hu ho hit' hT hsz hk => ?_
    obtain ⟨u', hu', ru⟩ := rv.get hx
    have eu : u' = u := by
      have : its.toArray[i]? = some u' := by simpa using hu'
      rw [this] at hu
      exact Option.some.inj hu
    subst eu
    refine ⟨_, rfl, wpAny_letOwnedTupleGo_enum (s := { s with heap := h', toks := tk + 1 }) ho fun h'' he' sb => ?_⟩
    have hT2 : h''.get? s.heap.objs.size = some { cls := .type "tuple", data := .seq #[.int i tk, u'] } := (sb.2 _ (Nat.ne_of_gt hel)).trans hT
    have new : ObjOk X.prog X.w (upd H s.heap.objs.size (.tup [.int (i : Nat), x]))
          h'' s.heap.objs.size (.tup [.int (i : Nat), x]) :=
      ⟨by show 2 ≤ sizeLine; decide, [.int i tk, u'], .cons ⟨_, rfl⟩ (.cons ru .nil), ⟨_, hT2, rfl, _, rfl⟩⟩
    have I1 : L2.Inv X pins σ (upd H s.heap.objs.size (.tup [.int (i : Nat), x])) { s with heap := h'', toks := tk + 1 } :=
      I.turnedNew (ch := [e, it])
            (fun b ob hb q => (sb.2 b (fun z => hb (by simp [z]))).trans (hk b ob (fun z => hb (by simp [z])) (fun z => hb (by simp [z])) q)) hf (Nat.le_refl _) new
    refine ⟨.ref s.heap.objs.size, _, I1, rfl, ⟨_, x, rfl, I.hok.fresh (Nat.le_refl _), rfl, fun ys hy => by rw [I.tuple_inj hy hq]; exact hx⟩, ⟨⟨u', ?_⟩, ?_, hne, ?_⟩, fun b hb => ?_⟩
    · have e1 : ((i + 1 : Nat) : Int)
            = (i : Int) + 1 := by omega
      rw [e1]; exact he'
    · obtain ⟨⟨o, ho', r⟩, _⟩ := hit'
      exact ⟨o, (sb.2 it (Ne.symm hne)).trans ho', r⟩
    · rw [← hn]
      exact (List.getElem?_eq_some_iff.mp hx).1
    · have hb' : b <
            s.heap.objs.size := by
        have e' :
              b = e ∨ b = it := by simpa using hb
        rcases e' with z | z
        · rw [z]; exact hel
        · rw [z]; exact hil
      rw [upd_ne
            (Nat.ne_of_lt hb')]
      exact (hf b hb).1
  done := by
    intro X hP hw hK hc i
          pins s σ H E I hf st hg
    subst hP hw hK
    obtain ⟨⟨old, he⟩, hit, hne, hin⟩ := st
    obtain ⟨hge, xs, hq, hx⟩ := hg
    obtain ⟨its, rv, p, hz⟩
          := I.tuple hq
    obtain ⟨f0, f1, f2, f3, f4, f5⟩
          := hf it (by simp)
    have D := draws_tuple (prog := X.prog) (w := X.w) (A := X.A.in1) (I.ok.hd hc) it a hai its.toArray
    have hl : its.toArray.size = i := by rw [List.size_toArray, ← rv.length]; omega
    exact wpAny_pyNext_enum_endD D he (by rw [hl]; exact ⟨hit, p⟩) fun h' eb => ⟨rfl, I.turned (t' := s.toks) (fun b o hb q => eb b o hb q) f0 f1 f3 f4 f5⟩
  self := fun A i s Q E st h => let
        ⟨⟨_, he⟩, _⟩ := st; wpAny_pyIter_enum he h
def iEnumA (K : PySem.W.Frag) (ta : TA) : TI := fun σ H R => ta σ H fun vs H1 => ∃ a xs, vs = [.ref a] ∧ ((SqL K H1 a xs ∧ R (Ite K a) H1) ∨ (SqT K H1 a xs ∧ R (IteT K a xs.length) H1))
theorem pi_enumA {X : Cx} {e : Expr} {ta : TA} {p pos tpos : Pos} {elts : List Expr} {kk : Nat} (hg : Gl X "enumerate") (hm : X.mg "enumerate" = none) (ha : PA X [e] ta) (hs : starEach [e] X.env = [(false, eval e X.env)] := by rfl) :
    PI X (.Tuple elts kk tpos) (.Call (.Name "enumerate" p) [e] [] pos) (iEnumA X.K ta) := by
  refine
        ⟨fun pins s σ H R I h => ?_⟩
  refine Call_
        (ld_blt I hg hm boot_enumerate (PyProof.Rows.callWith_type1 (thn (ha.run pos pins s σ H _ I h) fun us s1 ⟨vs, H1, I1, r1, q1⟩ => ?_) hs rfl))
  obtain ⟨a, xs, ex, q1⟩ := q1
  subst ex
  obtain ⟨u, rfl⟩ : ∃ u, us = [u] := by
    cases r1 with
    | cons r rr => cases rr; exact ⟨_, rfl⟩
  cases r1 with
  | cons r rr =>
  cases rr
  cases r
  have foot : ∀ b ∈ [s1.heap.objs.size + 1, s1.heap.objs.size], s1.heap.objs.size ≤ b := fun b hb => by
    have e' : b = s1.heap.objs.size
          + 1 ∨ b = s1.heap.objs.size := by simpa using hb
    rcases e' with z | z
    · rw [z]; exact
            Nat.le_add_right _ _
    · rw [z]; exact Nat.le_refl _
  rcases q1 with ⟨hq, q⟩ | ⟨hq, q⟩
  · obtain ⟨its, rv, p', hz⟩
          := I1.list hq
    refine call_enumerate_list p'.isList fun h'
          he hit hsz hk => wpAny_pyIter_enum he ?_
    have I2 : L2.Inv X pins σ H1 { s1 with heap := h' } := I1.kept (t' := s1.toks) hk
    exact ⟨s1.heap.objs.size + 1, [s1.heap.objs.size + 1, s1.heap.objs.size], _, _, H1, rfl, I2, turn_enum a (s1.heap.objs.size + 1) s1.heap.objs.size, ⟨⟨.none, he⟩, hit, Nat.succ_ne_self _⟩, fun b hb => I1.fpOk (foot b hb) (I1.hok.fresh (foot b hb)), q⟩
  · obtain ⟨its, rv, p', hz⟩
          := I1.tuple hq
    have hal : a < s1.heap.objs.size := by obtain ⟨_, q, _⟩ := id p'; exact Heap.lt_size q
    refine call_enumT (show s1.heap.IsTuple a its.toArray from p') fun h' he hit hk => wpAny_pyIter_enum he ?_
    have I2 : L2.Inv X pins σ H1 { s1 with heap := h' } := I1.kept (t' := s1.toks) hk
    exact ⟨s1.heap.objs.size + 1, [s1.heap.objs.size + 1, s1.heap.objs.size], _, _, H1, rfl, I2, turn_enumT a (s1.heap.objs.size + 1) s1.heap.objs.size xs.length (Nat.ne_of_lt (Nat.lt_succ_of_lt hal)) (Nat.ne_of_lt hal), ⟨⟨.none, he⟩, hit, Nat.succ_ne_self _, Nat.zero_le _⟩, fun b hb => I1.fpOk (foot b hb) (I1.hok.fresh (foot b hb)), q⟩
end Lw
set_option Elab.async false
set_option linter.all false
set_option maxRecDepth 100000
/-! Lw13: more walks. -/
namespace Lw
open PySem PySem.Spec L2 PyProof.Rows
section
variable {X : Cx} {at_ : At} {W : WX} {c : Cf} {tg : Expr} {g : G}
theorem gl_args {us : List E} {σ : L2.St} {H : Hp} {k : Ik} {R : It → Hp → Prop} (h : iW X.K at_ W g k (fun env st => evEs c us env st) σ H R) :
    tEs X.K at_ W (fun env st => evEs c us env st) σ H fun vs H1 => ∃ ρ1 st1 ts w, StRep X.K at_ ρ1 H1 st1 ∧ RepL X.K at_ ρ1 H1 ts vs ∧ walkOf st1 k ts = some w ∧ ∀ J, Link X.K at_ g k w ρ1 H1 J → R J H1 := by
  obtain ⟨ρ, env, st, er, sr, o⟩ := h
  exact ⟨ρ, env, st, er, sr, o.imp fun ts ρ1 H1 st1 m1 s1 ⟨w, e, q⟩ vs rv => ⟨ρ1, st1, ts, w, s1, rv, e, q⟩⟩
theorem w_rng1 {a : Expr} {p pos : Pos} {us : List E} (hg : Gl X "range") (hm : X.mg "range" = none) (ha : PA X [a] (tEs X.K at_ W fun env st => evEs c us env st)) (hs : starEach [a] X.env = [(false, eval a X.env)]) :
    PI X tg (.Call (.Name "range" p) [a] [] pos) (iW X.K at_ W g .rng1 fun env st => evEs c us env st) := by
  refine PI_imp (pi_range1 hg hm ha hs) fun σ H R h => ?_
  obtain ⟨ρ, env, st, er, sr, o⟩ := gl_args h
  refine ⟨ρ, env, st, er, sr, o.imp fun ts ρ1 H1 st1 m1 s1 o1 vs rv => ?_⟩
  obtain ⟨ρ2, st2, ts2, w, s2, rv2, hw, q⟩ := o1 vs rv
  have hz : ∃ j, ts2 = [.int j] := by
    match ts2, hw with
    | [.int j], _ => exact ⟨j, rfl⟩
  obtain ⟨j, rfl⟩ := hz
  obtain ⟨v, rfl, r1⟩ := rv2.one
  cases r1
  simp only [walkOf] at hw
  split at hw
  · rename_i hb
    cases hw
    exact ⟨j, rfl, hb.1, hb.2, q _ link_rng⟩
  · cases hw
theorem w_rng2 {a b : Expr} {p pos : Pos} {us : List E} (hg : Gl X "range") (hm : X.mg "range" = none) (ha : PA X [a, b] (tEs X.K at_ W fun env st => evEs c us env st)) (hs : starEach [a, b] X.env = [(false, eval a X.env), (false, eval b X.env)]) (hs2 : starEach [b] X.env = [(false, eval b X.env)]) :
    PI X tg (.Call (.Name "range" p) [a, b] [] pos) (iW X.K at_ W g .rng2 fun env st => evEs c us env st) := by
  refine PI_imp (pi_range2 hg hm ha hs hs2) fun σ H R h => ?_
  obtain ⟨ρ, env, st, er, sr, o⟩ := gl_args h
  refine ⟨ρ, env, st, er, sr, o.imp fun ts ρ1 H1 st1 m1 s1 o1 vs rv => ?_⟩
  obtain ⟨ρ2, st2, ts2, w, s2, rv2, hw, q⟩ := o1 vs rv
  have hz : ∃ i j, ts2 = [.int i, .int j] := by
    match ts2, hw with
    | [.int i, .int j], _ => exact ⟨i, j, rfl⟩
  obtain ⟨i, j, rfl⟩ := hz
  simp only [walkOf] at hw
  obtain ⟨v, w', rfl, r1, r2⟩ := rv2.two
  cases r1; cases r2
  split at hw
  · rename_i hb
    cases hw
    exact ⟨i, j, rfl, hb, q _ link_rng⟩
  · cases hw
theorem rep_enum {ρ : Pl} {H : Hp} : ∀ {ts : List T} {i j : Nat} {t : T}, (enumT i ts)[j]? = some t → ∃ u, ts[j]? = some u ∧ t = .tup [.int ((i + j : Nat) : Int), u]
  | [], _, _, _, h => by simp [enumT] at h
  | x :: xs, i, 0, t, h => by simp [enumT] at h; exact ⟨x, rfl, by simp [← h]⟩
  | x :: xs, i, j + 1, t, h => by
    simp only [enumT, List.getElem?_cons_succ] at h
    obtain ⟨u, h1, h2⟩ := rep_enum (ρ := ρ) (H := H) h
    exact ⟨u, by simpa using h1, by rw [h2]; congr 3; omega⟩
theorem enum_len : ∀ (ts : List T) (i : Nat), (enumT i ts).length = ts.length
  | [], _ => rfl
  | x :: xs, i => by simp [enumT, enum_len xs]
theorem enum_inj : ∀ {ts us : List T} {i : Nat}, enumT i ts = enumT i us → ts = us
  | [], [], _, _ => rfl
  | [], _ :: _, _, h => by cases h
  | _ :: _, [], _,
        h => by cases h
  | x :: xs, y :: ys, i, h => by
    simp only [enumT, List.cons.injEq, T.tup.injEq] at h
    obtain ⟨⟨_, h1, _⟩, h2⟩ := h
    rw [h1, enum_inj h2]
theorem link_enum {gs : List G} {w : Walk} {ts : List T} {a : Addr} {ρ1 : Pl} {H1 : Hp} (hw : w.items = enumT 0 ts) (h : ∀ ρ' H' st', Mw ρ1 H1 ρ' H' → StRep X.K at_ ρ' H' st' → w.same .enum st' = true → ∃ vs, SqL X.K H' a vs ∧ RepL X.K at_ ρ' H' ts vs) : Link X.K at_ (.tup gs) .enum w ρ1 H1 (Ite X.K a) := by
  intro ρ' H' st' m s hs i
  obtain ⟨vs, h1, h2⟩ := h ρ' H' st' m s hs
  refine ⟨fun x hx => ?_, fun hl => ⟨vs, h1, by rw [← h2.length, ← enum_len ts 0, ← hw]; exact hl⟩⟩
  rw [hw] at hx
  obtain ⟨u, hu, rfl⟩ := rep_enum (ρ := ρ') (H := H') hx
  obtain ⟨v, hv, rv⟩ := h2.getT hu
  refine ⟨⟨vs, v, h1, hv⟩, fun v' H'' y => ?_⟩
  obtain ⟨T', x', rfl, hT, rfl, y⟩ := y
  have e := y vs h1
  rw [hv] at e
  cases e
  refine ⟨Mv.new s hT _, s.new hT _, .inr ⟨_, T', _, rfl, rfl, .of upd_same, ⟨.int (i : Nat), [v], rfl, ?_, v, [], rfl, Rep.mv s.sep (Mv.new s hT _) _ _ rv, rfl⟩⟩⟩
  show V.int _ = V.int _
  simp
theorem link_enumT {gs : List G} {w : Walk} {ts : List T} {a : Addr} {ρ1 : Pl} {H1 : Hp} (hw : w.items = enumT 0 ts) (h : ∀ ρ' H' st', Mw ρ1 H1 ρ' H' → StRep X.K at_ ρ' H' st' → ∃ vs, SqT X.K H' a vs ∧ RepL X.K at_ ρ' H' ts vs) : Link X.K at_ (.tup gs) .enum w ρ1 H1 (IteT X.K a ts.length) := by
  intro ρ' H' st' m s hs i
  obtain ⟨vs, h1, h2⟩ := h ρ' H' st' m s
  refine ⟨fun x hx => ?_, fun hl => ⟨?_, vs, h1, h2.length.symm⟩⟩
  · rw [hw] at hx
    obtain ⟨u, hu, rfl⟩ := rep_enum (ρ := ρ') (H := H') hx
    obtain ⟨v, hv, rv⟩ := h2.getT hu
    refine ⟨⟨vs, v, h1, h2.length.symm, hv⟩, fun v' H'' y => ?_⟩
    obtain ⟨T', x', rfl, hT, rfl, y⟩ := y
    have e := y vs h1
    rw [hv] at e
    cases e
    refine ⟨Mv.new s hT _, s.new hT _, .inr ⟨_, T', _, rfl, rfl, .of upd_same, ⟨.int (i : Nat), [v], rfl, ?_, v, [], rfl, Rep.mv s.sep (Mv.new s hT _) _ _ rv, rfl⟩⟩⟩
    show V.int _ = V.int _
    simp
  · rw [hw, enum_len] at hl
    exact hl
theorem w_enum {elts : List Expr} {kk : Nat} {tpos : Pos} {gs : List G} {a : Expr} {p pos : Pos} {us : List E} (hg : Gl X "enumerate") (hm : X.mg "enumerate" = none) (ha : PA X [a] (tEs X.K at_ W fun env st => evEs c us env st)) (hs : starEach [a] X.env = [(false, eval a X.env)]) :
    PI X (.Tuple elts kk tpos) (.Call (.Name "enumerate" p) [a] [] pos) (iW X.K at_ W (.tup gs) .enum fun env st => evEs c us env st) := by
  refine PI_imp (pi_enumA hg hm ha hs) fun σ H R h => ?_
  obtain ⟨ρ, env, st, er, sr, o⟩ := gl_args h
  refine ⟨ρ, env, st, er, sr, o.imp fun ts ρ1 H1 st1 m1 s1 o1 vs rv => ?_⟩
  obtain ⟨ρ2, st2, ts2, w, s2, rv2, hw, q⟩ := o1 vs rv
  have hz : ∃ t, ts2 = [t] := by
    match ts2, hw with
    | [t], _ => exact ⟨t, rfl⟩
  obtain ⟨t, rfl⟩ := hz
  simp only [walkOf] at hw
  obtain ⟨x, rfl, r1⟩ := rv2.one
  split at hw
  · rename_i us'
    cases hw
    obtain ⟨a, ws, ex, h1, h2⟩ := id r1
    refine ⟨a, ws, by rw [ex], .inl ⟨h1.seq, q _ (link_enum (ts := us') rfl fun ρ' H' st' m s' _ => ?_)⟩⟩
    obtain ⟨a', vs', e', h1', h2'⟩ := Rep.mw s2.sep m _ _ r1
    rw [ex] at e'; cases e'
    exact ⟨vs', h1'.seq, h2'⟩
  · rename_i us'
    cases hw
    obtain ⟨a, ws, ex, h1, h2⟩ := id r1
    refine ⟨a, ws, by rw [ex], .inr ⟨h1.seq, by rw [← h2.length]; exact q _ (link_enumT (ts := us') rfl fun ρ' H' st' m s' => by
      obtain ⟨a', vs', e', h1', h2'⟩ := Rep.mw s2.sep m _ _ r1
      rw [ex] at e'; cases e'
      exact ⟨vs', h1'.seq, h2'⟩)⟩⟩
  · rename_i l
    split at hw
    · rename_i us' el
      cases hw
      obtain ⟨a, ex, hl⟩ := id r1
      obtain ⟨ws, h1, h2⟩ := s2.cell l a _ hl el
      refine ⟨a, ws, by rw [ex], .inl ⟨.of h1, q _ (link_enum (ts := us') rfl fun ρ' H' st' m s' hs => ?_)⟩⟩
      simp only [Walk.same] at hs
      split at hs
      · rename_i ts' e'
        have e2 := enum_inj (of_decide_eq_true hs)
        subst e2
        obtain ⟨vs', h1', h2'⟩ := s'.cell l a _ (m.pat hl) e'
        exact ⟨vs', .of h1', h2'⟩
      · cases hs
    · cases hw
  · cases hw
theorem zip_at : ∀ {ts us : List T} {j : Nat} {t : T}, (zipT ts us)[j]? = some t → ∃ x y, ts[j]? = some x ∧ us[j]? = some y ∧ t = .tup [x, y]
  | [], _, _, _, h => by simp [zipT] at h
  | _ :: _, [], _, _, h => by simp [zipT] at h
  | x :: xs, y :: ys, 0, t, h => by simp [zipT] at h; exact ⟨x, y, rfl, rfl, h.symm⟩
  | x :: xs, y :: ys, j + 1, t, h => by
    simp only [zipT, List.getElem?_cons_succ] at h
    obtain ⟨u, v, h1, h2, h3⟩ := zip_at h
    exact ⟨u, v, by simpa using h1, by simpa using h2, h3⟩
theorem zip_len : ∀ (ts us : List T), (zipT ts us).length = min ts.length us.length
  | [], us => by simp [zipT]
  | _ :: _, [] => by simp [zipT]
  | x :: xs, y :: ys => by simp only [zipT, List.length_cons, zip_len xs ys]; omega
theorem w_zip {elts : List Expr} {kk : Nat} {tpos : Pos} {gs : List G} {a b : Expr} {p pos : Pos} {us : List E} (hg : Gl X "zip") (hm : X.mg "zip" = none) (ha : PA X [a, b] (tEs X.K at_ W fun env st => evEs c us env st)) (hs : starEach [a, b] X.env = (false, eval a X.env) :: starEach [b] X.env) (hpl : (backTo pos (starEach [b] X.env)).any (·.1) = false) :
    PI X (.Tuple elts kk tpos) (.Call (.Name "zip" p) [a, b] [] pos) (iW X.K at_ W (.tup gs) .zip2 fun env st => evEs c us env st) := by
  refine PI_imp (RZ.pi_zipA hg hm ha hs hpl) fun σ H R h => ?_
  obtain ⟨ρ, env, st, er, sr, o⟩ := gl_args h
  refine ⟨ρ, env, st, er, sr, o.imp fun ts ρ1 H1 st1 m1 s1 o1 vs rv => ?_⟩
  obtain ⟨ρ2, st2, ts2, w, s2, rv2, hw, q⟩ := o1 vs rv
  have hz : ∃ t u, ts2 = [t, u] := by
    match ts2, hw with
    | [t, u], _ => exact ⟨t, u, rfl⟩
  obtain ⟨t, u, rfl⟩ := hz
  simp only [walkOf] at hw
  obtain ⟨x, y, rfl, r1, r2⟩ := rv2.two
  split at hw
  · rename_i ts us'
    cases hw
    obtain ⟨a, ws, ex, h1, h2⟩ := id r1
    obtain ⟨b, zs, ey, h3, h4⟩ := id r2
    refine ⟨a, b, ws, zs, by rw [ex, ey], .inl ⟨h1.seq, h3.seq, q _ ?_⟩⟩
    intro ρ' H' st' m s _ i
    obtain ⟨a', ws', e', k1, k2⟩ := Rep.mw s2.sep m _ _ r1
    rw [ex] at e'; cases e'
    obtain ⟨b', zs', e', k3, k4⟩ := Rep.mw s2.sep m _ _ r2
    rw [ey] at e'; cases e'
    refine ⟨fun t ht => ?_, fun hl => ⟨ws', zs', k1.seq, k3.seq, ?_⟩⟩
    · obtain ⟨t1, t2, e1, e2, rfl⟩ := zip_at ht
      obtain ⟨v1, hv1, rv1⟩ := k2.getT e1
      obtain ⟨v2, hv2, rv2⟩ := k4.getT e2
      refine ⟨⟨ws', zs', v1, v2, k1.seq, k3.seq, hv1, hv2⟩, fun v' H'' y => ?_⟩
      obtain ⟨T', x1, x2, rfl, hT, rfl, y1, y2⟩ := y
      have f1 := y1 ws' k1.seq
      have f2 := y2 zs' k3.seq
      rw [hv1] at f1
      rw [hv2] at f2
      cases f1; cases f2
      exact ⟨Mv.new s hT _, s.new hT _, .inr ⟨_, T', _, rfl, rfl, .of upd_same, ⟨v1, [v2], rfl, Rep.mv s.sep (Mv.new s hT _) _ _ rv1, v2, [], rfl, Rep.mv s.sep (Mv.new s hT _) _ _ rv2, rfl⟩⟩⟩
    · have hl : (zipT ts us').length ≤ i := hl
      rw [zip_len, k2.length, k4.length] at hl
      omega
  · rename_i ts us'
    cases hw
    obtain ⟨a, ws, ex, h1, h2⟩ := id r1
    obtain ⟨b, zs, ey, h3, h4⟩ := id r2
    refine ⟨a, b, ws, zs, by rw [ex, ey], .inr ⟨h1.seq, h3.seq, q _ ?_⟩⟩
    intro ρ' H' st' m s _ i
    obtain ⟨a', ws', e', k1, k2⟩ := Rep.mw s2.sep m _ _ r1
    rw [ex] at e'; cases e'
    obtain ⟨b', zs', e', k3, k4⟩ := Rep.mw s2.sep m _ _ r2
    rw [ey] at e'; cases e'
    refine ⟨fun t ht => ?_, fun hl => ⟨ws', zs', k1.seq, k3.seq, ?_⟩⟩
    · obtain ⟨t1, t2, e1, e2, rfl⟩ := zip_at ht
      obtain ⟨v1, hv1, rv1⟩ := k2.getT e1
      obtain ⟨v2, hv2, rv2⟩ := k4.getT e2
      refine ⟨⟨ws', zs', v1, v2, k1.seq, k3.seq, hv1, hv2⟩, fun v' H'' y => ?_⟩
      obtain ⟨T', x1, x2, rfl, hT, rfl, y1, y2⟩ := y
      have f1 := y1 ws' k1.seq
      have f2 := y2 zs' k3.seq
      rw [hv1] at f1
      rw [hv2] at f2
      cases f1; cases f2
      exact ⟨Mv.new s hT _, s.new hT _, .inr ⟨_, T', _, rfl, rfl, .of upd_same, ⟨v1, [v2], rfl, Rep.mv s.sep (Mv.new s hT _) _ _ rv1, v2, [], rfl, Rep.mv s.sep (Mv.new s hT _) _ _ rv2, rfl⟩⟩⟩
    · have hl : (zipT ts us').length ≤ i := hl
      rw [zip_len, k2.length, k4.length] at hl
      omega
  · cases hw
end
end Lw
set_option Elab.async false
set_option linter.all false
set_option maxRecDepth 100000
/-! Lw14: comprehensions. -/
namespace Lw
open PySem PySem.Spec L2 PyProof.Rows
theorem wipe_idem {σ : L2.St} {vs : List Nat} : ∀ ws : List Nat, (∀ i ∈ ws, i ∈ vs) → L2.wipe (L2.wipe σ ws) vs = L2.wipe σ vs
  | [], _ => rfl
  | w :: ws, h => by
    show L2.wipe ((L2.wipe σ ws).set w none) vs = _
    rw [wipe_set (h w List.mem_cons_self), wipe_idem ws fun i hi => h i (List.mem_cons_of_mem _ hi)]
def noX : WX := fun _ _ _ _ => False
/-- a clause's tests -/
def tTs (K : PySem.W.Frag) (at_ : At) (W : WX) (f : Env → Store → Res Bool) : TT := fun σ H Q => ∃ ρ env st, EnvRep K at_ ρ H σ env ∧ StRep K at_ ρ H st ∧
  Out K at_ ρ H (f env st) (fun b _ H' _ => Q b H') (fun cls d H' => W cls d σ H')
theorem noexc_bind {α β γ : Type} (r : Res α) (f : α → Store → Res β) (g : β → Store → Res γ) : ((r.bind f).noexc).bind g = (r.noexc).bind fun a st => ((f a st).noexc).bind g := by cases r <;> rfl
theorem noexc_bindk {α β : Type} (r : Res α) (f : α → Store → Res β) : (r.bind f).noexc = (r.noexc).bind fun a st => (f a st).noexc := by cases r <;> rfl
section
variable {X : Cx} {at_ : At} {W : WX} {c : Cf}
theorem t_nil : PTs X [] (tTs X.K at_ W fun env st => evTs c [] env st) := by
  refine ⟨fun pins s σ H Q I ⟨ρ, env, st, er, sr, o⟩ => pts_nil.run pins s σ H Q I ?_⟩
  simp only [evTs] at o
  exact o.here sr
theorem t_one {e : Expr} {u : E} (h : PT X e (tT X.K at_ W fun env st => evE c u env st)) : PTs X [e] (tTs X.K at_ W fun env st => evTs c [u] env st) := by
  refine ⟨fun pins s σ H Q I ⟨ρ, env, st, er, sr, o⟩ => (pts_one h).run pins s σ H Q I ?_⟩
  simp only [evTs] at o
  refine ⟨ρ, env, st, er, sr, o.bind.imp fun t ρ1 H1 st1 m1 s1 o1 => ?_⟩
  cases t <;> first | exact o1.elim | skip
  rename_i k
  refine ⟨k, rfl, ?_⟩
  cases k with
  | true => exact o1.here s1
  | false => exact o1.here s1
theorem lc_read {own : List (Str × Nat)} {g : G} {k : Ik} {its us : List E} {u : E} {fz : Bool} (hown : ∀ i ∈ nmG g, i ∈ own.map (·.2)) {σ : L2.St} {H : Hp} {Q : VK} (h : tE X.K at_ W (fun env st => evE c (.comp fz u g k its us (own.map (·.2))) env st) σ H Q) :
    tLc (iW X.K at_ W g k fun env st => evEs c its env st) (tG X.K at_ g) (tTs X.K at_ noX fun env st => evTs c us env st) (tE X.K at_ noX fun env st => evE c u env st) (own.map (·.2)) σ H Q := by
  obtain ⟨ρ, env, st, er, sr, o⟩ := h
  simp only [evE] at o
  refine ⟨ρ, env, st, er, sr, o.bind.imp fun vs ρ1 H1 st1 m1 s1 o1 => ?_⟩
  cases hw : walkOf st1 k vs with
  | none => simp only [hw] at o1; exact o1.elim
  | some w =>
    simp only [hw] at o1
    obtain ⟨hb, o1⟩ := o1.iteN
    refine ⟨w, rfl, fun J link D hD => ?_⟩
    have hn := s1.fresh hD
    have er1 := (er.mv sr.sep m1).wipe (own.map (·.2))
    refine ⟨fun i m H' => m = w.items.length - i ∧ i ≤ w.items.length ∧ ∃ p st' acc done, H' D = some (.lst acc) ∧ acc.length ≤ i ∧ Mv ρ1 H1 ⟨p, ρ1.hd⟩ H' ∧ StRep X.K at_ ⟨p, D :: ρ1.hd⟩ H' st' ∧ EnvRep X.K at_ ⟨p, D :: ρ1.hd⟩ H' (wipe σ (own.map (·.2))) (wipeT env (own.map (·.2))) ∧
      RepL X.K at_ ⟨p, D :: ρ1.hd⟩ H' done acc ∧ Out X.K at_ ρ1 H1 ((loopL (fun env st => evE c u env st) (fun env st => evTs c us env st) g w k (wipeT env (own.map (·.2))) (w.items.drop i) st').noexc.bind fun ts st => mkL fz (done ++ ts) st) (Got X.K at_ Q) (fun cls d H' => W cls d σ H'),
      ⟨w.items.length, by simp, Nat.zero_le _, ρ1.pl, st1, [], [], upd_same, Nat.le_refl _, Mv.hidden s1 hD _, s1.hide hD (by first | exact .lst | exact .dK | exact .lf), er1.mw s1.sep (Mw.hide s1 hD _), rfl, by simpa using o1⟩, ?_⟩
    rintro i m H' ⟨rfl, hi', p, st', acc, done, hDl, hacc, m1', s', er', rd, oo⟩
    have mw := m1'.mwHide hD
    have hDp : D ∉ p := s'.dj D List.mem_cons_self
    by_cases hlt : i < w.items.length
    · rw [List.drop_eq_getElem_cons hlt] at oo
      simp only [loopL] at oo
      by_cases hsm : w.same k st' = true
      · simp only [hsm, if_true] at oo
        cases hsg : setG g w.items[i] (wipeT env (own.map (·.2))) with
        | none => simp only [hsg] at oo; exact oo.elim
        | some env' =>
          simp only [hsg] at oo
          obtain ⟨go, yl⟩ := (link _ _ _ mw s' hsm i).1 _ (List.getElem?_eq_getElem hlt)
          refine .inr ⟨go, fun H' => w.items.length - (i + 1) = w.items.length - (i + 1) ∧ i + 1 ≤ w.items.length ∧ ∃ p st' acc done, H' D = some (.lst acc) ∧ acc.length ≤ i + 1 ∧ Mv ρ1 H1 ⟨p, ρ1.hd⟩ H' ∧ StRep X.K at_ ⟨p, D :: ρ1.hd⟩ H' st' ∧ EnvRep X.K at_ ⟨p, D :: ρ1.hd⟩ H' (wipe σ (own.map (·.2))) (wipeT env (own.map (·.2))) ∧
            RepL X.K at_ ⟨p, D :: ρ1.hd⟩ H' done acc ∧ Out X.K at_ ρ1 H1 ((loopL (fun env st => evE c u env st) (fun env st => evTs c us env st) g w k (wipeT env (own.map (·.2))) (w.items.drop (i + 1)) st').noexc.bind fun ts st => mkL fz (done ++ ts) st) (Got X.K at_ Q) (fun cls d H' => W cls d σ H'),
            fun H'' h => ⟨_, by omega, h⟩, fun v H'' y => ?_⟩
          obtain ⟨m2, s2, rg⟩ := yl v H'' y
          have er2 := er'.mv s'.sep m2
          refine ⟨⟨p, D :: ρ1.hd⟩, _, _, env', er2, rg, hsg, fun σ2 hs2 er3 => ⟨(hs2 _ hown).trans (wipe_idem _ fun _ h => h), ?_⟩⟩
          have m02 := (Mv.unhide (q := []) hD hn m1' m2).2
          rw [noexc_bind] at oo
          refine ⟨⟨p, D :: ρ1.hd⟩, env', st', er3, s2, ((oo.bind0.noexc (Z' := fun _ _ _ => False)).hide m02 hD hn).imp fun b ρ3 H3 st3 m3 s3 ⟨p3, e3, m03, o3⟩ => ?_⟩
          subst e3
          have hD3 : H3 D = some (.lst acc) := m3.ext _ _ (m2.ext _ _ hDl hDp) hDp
          cases b with
          | false =>
            rw [if_neg
                  Bool.false_ne_true]
            exact ⟨rfl, hlt, p3, st3, acc, done, hD3, by omega, m03, s3, er2.mv s2.sep m3, RepL.mv s2.sep m3 _ _ (RepL.mv s'.sep m2 _ _ rd), o3⟩
          | true =>
            rw [if_pos rfl]
            simp only at o3
            rw [noexc_bind] at o3
            refine ⟨⟨p3, D :: ρ1.hd⟩, env', st3, er3.mv s2.sep m3, s3, ((o3.bind0.noexc (Z' := fun _ _ _ => False)).hide m03 hD hn).imp fun y ρ4 H4 st4 m4 s4 ⟨p4, e4, m04, o4⟩ v4 r4 => ?_⟩
            subst e4
            have hDp3 : D ∉ p3 := s3.dj D List.mem_cons_self
            have hD4 : H4 D = some (.lst acc) := m4.ext _ _ hD3 hDp3
            have mb : Mw ⟨p4, D :: ρ1.hd⟩ H4 ⟨p4, D :: ρ1.hd⟩ (upd H4 D (.lst (acc ++ [v4]))) := Mw.built List.mem_cons_self _
            refine ⟨acc, hD4, by rw [← big_line]; omega, rfl, hlt, p4, st4, acc ++ [v4], done ++ [y], upd_same, by simp; omega, Mv.built hD m04 _, s4.built List.mem_cons_self (by first | exact .lst | exact .dK | exact .lf), ?_, ?_, ?_⟩
            · exact ((er2.mv s2.sep m3).mv s3.sep m4).mw s4.sep mb
            · exact RepL.mw s4.sep mb _ _ ((RepL.mv s3.sep m4 _ _ (RepL.mv s2.sep m3 _ _ (RepL.mv s'.sep m2 _ _ rd))).append (rep1 r4))
            · rw [noexc_bind] at o4
              simpa using o4
      · simp only [hsm, if_false] at oo
        exact oo.elim
    · have ei : i = w.items.length := by omega
      subst ei
      rw [List.drop_length] at oo
      simp only [loopL] at oo
      by_cases hsm : w.same k st' = true
      · simp only [hsm, if_true] at oo
        refine .inl ⟨(link _ _ _ mw s' hsm _).2 (Nat.le_refl _), ?_⟩
        exact fin_blst (by simpa using oo) m1' hD hn s' hDl rd
      · simp only [hsm, if_false] at oo
        exact oo.elim
theorem e_comp {elt tg iter : Expr} {ifs : List Expr} {scope : Scope} {own : List (Str × Nat)} {pos : Pos} {g : G} {k : Ik} {its us : List E} {u : E} {fz : Bool} (hc : X.calm = true) (hN : X.N.Nodup) (hi : PI X tg iter (iW X.K at_ W g k fun env st => evEs c its env st)) (ok : BlkOk X.N X.env.scope scope own)
    (hg : ∀ (s : Shared) (H : Hp) (C : Addr) (cl : List (Str × Addr)) (fp : List Addr), PG (X.blk s H scope (compEnvC scope cl C X.env) fp) tg (tG X.K at_ g))
    (ht : ∀ (s : Shared) (H : Hp) (C : Addr) (cl : List (Str × Addr)) (fp : List Addr), PTs (X.blk s H scope (compEnvC scope cl C X.env) fp) ifs (tTs X.K at_ noX fun env st => evTs c us env st))
    (he : ∀ (s : Shared) (H : Hp) (C : Addr) (cl : List (Str × Addr)) (fp : List Addr), PE (X.blk s H scope (compEnvC scope cl C X.env) fp) elt (tE X.K at_ noX fun env st => evE c u env st))
    (hs : ∀ x, foldedSetIterable iter X.env x = pure x) (hown : ∀ i ∈ nmG g, i ∈ own.map (·.2)) : PE X (.ListComp elt [⟨tg, iter, ifs, 0⟩] scope pos) (tE X.K at_ W fun env st => evE c (.comp fz u g k its us (own.map (·.2))) env st) := by
  exact PE_imp (pe_lc hc hN hi ok hg ht he hs) fun σ H Q h => lc_read hown h
theorem s_setLc {i : Nat} {y : Str} {py : Pos} {elt tg iter : Expr} {ifs : List Expr} {scope : Scope} {own : List (Str × Nat)} {pos spos : Pos} {g : G} {k : Ik} {its us : List E} {u : E} {fz : Bool} (hc : X.calm = true) (hN : X.N.Nodup) (hy : X.N[i]? = some y) (hyl : X.env.scope.names.lookup y = some .local)
    (hsw : swapsWith (.ListComp elt [⟨tg, iter, ifs, 0⟩] scope pos) (some (.Name y py)) spos.line X.env = pure true) (hi : PI X tg iter (iW X.K at_ W g k fun env st => evEs c its env st)) (ok : BlkOk X.N X.env.scope scope own)
    (hg : ∀ (s : Shared) (H : Hp) (C : Addr) (cl : List (Str × Addr)) (fp : List Addr), PG (X.blk s H scope (compEnvC scope cl C X.env) fp) tg (tG X.K at_ g))
    (ht : ∀ (s : Shared) (H : Hp) (C : Addr) (cl : List (Str × Addr)) (fp : List Addr), PTs (X.blk s H scope (compEnvC scope cl C X.env) fp) ifs (tTs X.K at_ noX fun env st => evTs c us env st))
    (he : ∀ (s : Shared) (H : Hp) (C : Addr) (cl : List (Str × Addr)) (fp : List Addr), PE (X.blk s H scope (compEnvC scope cl C X.env) fp) elt (tE X.K at_ noX fun env st => evE c u env st))
    (hs : ∀ x, foldedSetIterable iter X.env x = pure x) (hown : ∀ i ∈ nmG g, i ∈ own.map (·.2)) :
    PS X (.Assign [.Name y py] (.ListComp elt [⟨tg, iter, ifs, 0⟩] scope pos) spos) (fun D σ H => tE X.K at_ W (fun env st => evE c (.comp fz u g k its us (own.map (·.2))) env st) σ H fun x H1 => D.nx (σ.set i (some x)) H1) :=
  PS_imp (ps_setLc hc hN hy hyl hsw hi ok hg ht he hs) fun D σ H h => lc_read (Q := fun x H1 => gName i x σ H1 D.nx) hown h
theorem key_rep {K : PySem.W.Frag} {ρ : Pl} {H : Hp} {x y : T} {v w : V} (h : keyOk x = true) (r : Rep K at_ ρ H x v) : ∃ q, KeyIs x q ∧ v = kV q := keyIs_of h r
theorem dmerge_snoc (kvs : List (T × T)) (k v : T) (more : List (T × T)) : dmerge kvs ((k, v) :: more) = dmerge (dput kvs k v) more := rfl
theorem dput_len (kvs : List (T × T)) (k v : T) : (dput kvs k v).length ≤ kvs.length + 1 := by
  unfold dput
  split
  · simp
  · simp
theorem dc_read {vs2 : List Nat} {g : G} {k : Ik} {its us : List E} {u u' : E} {fz : Bool} (hown : ∀ i ∈ nmG g, i ∈ vs2) {σ : L2.St} {H : Hp} {Q : VK} (h : tE X.K at_ W (fun env st => evE c (.dcomp fz u u' g k its us vs2) env st) σ H Q) :
    tDc (iW X.K at_ W g k fun env st => evEs c its env st) (tG X.K at_ g) (tTs X.K at_ noX fun env st => evTs c us env st) (tE X.K at_ noX fun env st => evE c u env st) (tE X.K at_ noX fun env st => evE c u' env st) vs2 σ H Q := by
  obtain ⟨ρ, env, st, er, sr, o⟩ := h
  simp only [evE] at o
  refine ⟨ρ, env, st, er, sr, o.bind.imp fun vs ρ1 H1 st1 m1 s1 o1 => ?_⟩
  cases hw : walkOf st1 k vs with
  | none => simp only [hw] at o1; exact o1.elim
  | some w =>
    simp only [hw] at o1
    obtain ⟨hb, o1⟩ := o1.iteN
    refine ⟨w, rfl, fun J link D hD => ?_⟩
    have hn := s1.fresh hD
    have er1 := (er.mv sr.sep m1).wipe vs2
    refine ⟨fun i m H' => m = w.items.length - i ∧ i ≤ w.items.length ∧ ∃ p st' acc done, H' D = some (.dK acc) ∧ acc.length ≤ i ∧ Mv ρ1 H1 ⟨p, ρ1.hd⟩ H' ∧ StRep X.K at_ ⟨p, D :: ρ1.hd⟩ H' st' ∧ EnvRep X.K at_ ⟨p, D :: ρ1.hd⟩ H' (wipe σ vs2) (wipeT env vs2) ∧
      RepP X.K at_ ⟨p, D :: ρ1.hd⟩ H' done acc ∧ Out X.K at_ ρ1 H1 ((loopL (fun env st => (evE c u env st).bind fun x st => (evE c u' env st).bind fun y st => if keyOk x = true then .ok (x, y) st else .no) (fun env st => evTs c us env st) g w k (wipeT env vs2) (w.items.drop i) st').noexc.bind fun ts st => mkD fz (dmerge done ts) st) (Got X.K at_ Q) (fun cls d H' => W cls d σ H'),
      ⟨w.items.length, by simp, Nat.zero_le _, ρ1.pl, st1, [], [], upd_same, Nat.le_refl _, Mv.hidden s1 hD _, s1.hide hD (by first | exact .lst | exact .dK | exact .lf), er1.mw s1.sep (Mw.hide s1 hD _), rfl, by simpa using o1⟩, ?_⟩
    rintro i m H' ⟨rfl, hi', p, st', acc, done, hDl, hacc, m1', s', er', rd, oo⟩
    have mw := m1'.mwHide hD
    have hDp : D ∉ p := s'.dj D List.mem_cons_self
    by_cases hlt : i < w.items.length
    · rw [List.drop_eq_getElem_cons hlt] at oo
      simp only [loopL] at oo
      by_cases hsm : w.same k st' = true
      · simp only [hsm, if_true] at oo
        cases hsg : setG g w.items[i] (wipeT env vs2) with
        | none => simp only [hsg] at oo; exact oo.elim
        | some env' =>
          simp only [hsg] at oo
          obtain ⟨go, yl⟩ := (link _ _ _ mw s' hsm i).1 _ (List.getElem?_eq_getElem hlt)
          refine .inr ⟨go, fun H' => w.items.length - (i + 1) = w.items.length - (i + 1) ∧ i + 1 ≤ w.items.length ∧ ∃ p st' acc done, H' D = some (.dK acc) ∧ acc.length ≤ i + 1 ∧ Mv ρ1 H1 ⟨p, ρ1.hd⟩ H' ∧ StRep X.K at_ ⟨p, D :: ρ1.hd⟩ H' st' ∧ EnvRep X.K at_ ⟨p, D :: ρ1.hd⟩ H' (wipe σ vs2) (wipeT env vs2) ∧
            RepP X.K at_ ⟨p, D :: ρ1.hd⟩ H' done acc ∧ Out X.K at_ ρ1 H1 ((loopL (fun env st => (evE c u env st).bind fun x st => (evE c u' env st).bind fun y st => if keyOk x = true then .ok (x, y) st else .no) (fun env st => evTs c us env st) g w k (wipeT env vs2) (w.items.drop (i + 1)) st').noexc.bind fun ts st => mkD fz (dmerge done ts) st) (Got X.K at_ Q) (fun cls d H' => W cls d σ H'),
            fun H'' h => ⟨_, by omega, h⟩, fun v H'' y => ?_⟩
          obtain ⟨m2, s2, rg⟩ := yl v H'' y
          have er2 := er'.mv s'.sep m2
          refine ⟨⟨p, D :: ρ1.hd⟩, _, _, env', er2, rg, hsg, fun σ2 hs2 er3 => ⟨(hs2 _ hown).trans (wipe_idem _ fun _ h => h), ?_⟩⟩
          have m02 := (Mv.unhide (q := []) hD hn m1' m2).2
          rw [noexc_bind] at oo
          refine ⟨⟨p, D :: ρ1.hd⟩, env', st', er3, s2, ((oo.bind0.noexc (Z' := fun _ _ _ => False)).hide m02 hD hn).imp fun b ρ3 H3 st3 m3 s3 ⟨p3, e3, m03, o3⟩ => ?_⟩
          subst e3
          have hD3 : H3 D = some (.dK acc) := m3.ext _ _ (m2.ext _ _ hDl hDp) hDp
          cases b with
          | false =>
            rw [if_neg
                  Bool.false_ne_true]
            exact ⟨rfl, hlt, p3, st3, acc, done, hD3, by omega, m03, s3, er2.mv s2.sep m3, RepP.mv s2.sep m3 _ _ (RepP.mv s'.sep m2 _ _ rd), o3⟩
          | true =>
            rw [if_pos rfl]
            simp only at o3
            rw [noexc_bind, noexc_bind] at o3
            have hDp3 : D ∉ p3 := s3.dj D List.mem_cons_self
            refine ⟨⟨p3, D :: ρ1.hd⟩, env', st3, er3.mv s2.sep m3, s3, ((o3.bind0.noexc (Z' := fun _ _ _ => False)).hide m03 hD hn).imp fun x ρ4 H4 st4 m4 s4 ⟨p4, e4, m04, o4⟩ v4 r4 => ?_⟩
            subst e4
            rw [noexc_bind] at o4
            have hDp4 : D ∉ p4 := s4.dj D List.mem_cons_self
            refine ⟨⟨p4, D :: ρ1.hd⟩, env', st4, (er3.mv s2.sep m3).mv s3.sep m4, s4, ((o4.bind0.noexc (Z' := fun _ _ _ => False)).hide m04 hD hn).imp fun y ρ5 H5 st5 m5 s5 ⟨p5, e5, m05, o5⟩ v5 r5 => ?_⟩
            subst e5
            by_cases hkx : keyOk x = true
            · simp only [hkx, if_true] at o5
              obtain ⟨q, kq, rfl⟩ := keyIs_of hkx (Rep.mv s4.sep m5 _ _ r4)
              have hD5 : H5 D = some (.dK acc) := m5.ext _ _ (m4.ext _ _ hD3 hDp3) hDp4
              have mb : Mw ⟨p5, D :: ρ1.hd⟩ H5 ⟨p5, D :: ρ1.hd⟩ (upd H5 D (.dK (putK acc q v5))) := Mw.built List.mem_cons_self _
              refine ⟨acc, q, rfl, hD5, by rw [← big_line]; omega, rfl, hlt, p5, st5, putK acc q v5, dput done x y, upd_same, ?_, Mv.built hD m05 _, s5.built List.mem_cons_self (by first | exact .lst | exact .dK | exact .lf), ?_, ?_, ?_⟩
              · have := length_putK acc q v5
                omega
              · exact (((er2.mv s2.sep m3).mv s3.sep m4).mv s4.sep m5).mw s5.sep mb
              · exact RepP.mw s5.sep mb _ _ (repP_put (RepP.mv s4.sep m5 _ _ (RepP.mv s3.sep m4 _ _ (RepP.mv s2.sep m3 _ _ (RepP.mv s'.sep m2 _ _ rd)))) kq r5)
              · rw [Res.noexc_ok, Res.bind_ok, noexc_bind] at o5
                simpa [dmerge_snoc] using o5
            · simp only [hkx, if_false] at o5
              exact o5.elim
      · simp only [hsm, if_false] at oo
        exact oo.elim
    · have ei : i = w.items.length := by omega
      subst ei
      rw [List.drop_length] at oo
      simp only [loopL] at oo
      by_cases hsm : w.same k st' = true
      · simp only [hsm, if_true] at oo
        refine .inl ⟨(link _ _ _ mw s' hsm _).2 (Nat.le_refl _), ?_⟩
        exact fin_bdct (by simpa [dmerge] using oo) m1' hD hn s' hDl rd
      · simp only [hsm, if_false] at oo
        exact oo.elim
theorem e_dcomp {kx vx tg iter : Expr} {ifs : List Expr} {scope : Scope} {own : List (Str × Nat)} {pos : Pos} {g : G} {k : Ik} {its us : List E} {u u' : E} {fz : Bool} (hc : X.calm = true) (hN : X.N.Nodup) (hi : PI X tg iter (iW X.K at_ W g k fun env st => evEs c its env st)) (ok : BlkOk X.N X.env.scope scope own)
    (hg : ∀ (s : Shared) (H : Hp) (C : Addr) (cl : List (Str × Addr)) (fp : List Addr), PG (X.blk s H scope (compEnvC scope cl C X.env) fp) tg (tG X.K at_ g))
    (ht : ∀ (s : Shared) (H : Hp) (C : Addr) (cl : List (Str × Addr)) (fp : List Addr), PTs (X.blk s H scope (compEnvC scope cl C X.env) fp) ifs (tTs X.K at_ noX fun env st => evTs c us env st))
    (hk : ∀ (s : Shared) (H : Hp) (C : Addr) (cl : List (Str × Addr)) (fp : List Addr), PE (X.blk s H scope (compEnvC scope cl C X.env) fp) kx (tE X.K at_ noX fun env st => evE c u env st))
    (he : ∀ (s : Shared) (H : Hp) (C : Addr) (cl : List (Str × Addr)) (fp : List Addr), PE (X.blk s H scope (compEnvC scope cl C X.env) fp) vx (tE X.K at_ noX fun env st => evE c u' env st))
    (hs : ∀ x, foldedSetIterable iter X.env x = pure x) (hown : ∀ i ∈ nmG g, i ∈ own.map (·.2)) : PE X (.DictComp kx vx [⟨tg, iter, ifs, 0⟩] scope pos) (tE X.K at_ W fun env st => evE c (.dcomp fz u u' g k its us (own.map (·.2))) env st) := by
  exact PE_imp (pe_dc hc hN hi ok hg ht hk he hs) fun σ H Q h => dc_read hown h
/-- name = {..} on one line, the name a local: the dict goes straight to it -/
theorem s_setDc {i : Nat} {y : Str} {py : Pos} {kx vx tg iter : Expr} {ifs : List Expr} {scope : Scope} {own : List (Str × Nat)} {pos spos : Pos} {g : G} {k : Ik} {its us : List E} {u u' : E} {fz : Bool} (hc : X.calm = true) (hN : X.N.Nodup) (hy : X.N[i]? = some y) (hyl : X.env.scope.names.lookup y = some .local)
    (hsw : swapsWith (.DictComp kx vx [⟨tg, iter, ifs, 0⟩] scope pos) (some (.Name y py)) spos.line X.env = pure true) (hi : PI X tg iter (iW X.K at_ W g k fun env st => evEs c its env st)) (ok : BlkOk X.N X.env.scope scope own)
    (hg : ∀ (s : Shared) (H : Hp) (C : Addr) (cl : List (Str × Addr)) (fp : List Addr), PG (X.blk s H scope (compEnvC scope cl C X.env) fp) tg (tG X.K at_ g))
    (ht : ∀ (s : Shared) (H : Hp) (C : Addr) (cl : List (Str × Addr)) (fp : List Addr), PTs (X.blk s H scope (compEnvC scope cl C X.env) fp) ifs (tTs X.K at_ noX fun env st => evTs c us env st))
    (hk : ∀ (s : Shared) (H : Hp) (C : Addr) (cl : List (Str × Addr)) (fp : List Addr), PE (X.blk s H scope (compEnvC scope cl C X.env) fp) kx (tE X.K at_ noX fun env st => evE c u env st))
    (he : ∀ (s : Shared) (H : Hp) (C : Addr) (cl : List (Str × Addr)) (fp : List Addr), PE (X.blk s H scope (compEnvC scope cl C X.env) fp) vx (tE X.K at_ noX fun env st => evE c u' env st))
    (hs : ∀ x, foldedSetIterable iter X.env x = pure x) (hown : ∀ i ∈ nmG g, i ∈ own.map (·.2)) :
    PS X (.Assign [.Name y py] (.DictComp kx vx [⟨tg, iter, ifs, 0⟩] scope pos) spos) (fun D σ H => tE X.K at_ W (fun env st => evE c (.dcomp fz u u' g k its us (own.map (·.2))) env st) σ H fun x H1 => D.nx (σ.set i (some x)) H1) := by
  constructor
  intro pins s σ H D I h
  rw [exec_Assign_Name_used
        _ _ _ _ hsw]
  refine wpAny_bind
        (wpAny_standAt (wpAny_bind ?_))
  show wpAny _ X.A (do let _ ← comprehension (.DictComp kx vx [⟨tg, iter, ifs, 0⟩] scope pos) scope X.env (firstIterPos [⟨tg, iter, ifs, 0⟩] pos) newDict false (eval iter X.env) (some (assign (.Name y py) X.env))) _ _ s
  have h := dc_read (Q := fun x H1 => D.nx (σ.set i (some x)) H1) hown h
  refine wpAny_bind (thn (dc_core (Qf := fun _ s' => SP X pins D .next s') hc hN I hi ok hg ht hk he hs h fun L C s' m H' I' q hn f => ?_) fun _ s' hq => wpAny_pure (wpAny_pure hq))
  show wpAny _ _
        (assign (.Name y py) X.env (.ref L)) _ _ _
  refine wpAny_assign_Name
        (store_ok2 (v := V.ref L) I' hN hy (.inl hyl) rfl (fun s2 I2 ⟨a, sb, ha⟩ => ?_) (.inr hyl))
  obtain
        ⟨f0, f1, f2, f3, f4, f5⟩ := f
  have haC : C ≠ a := ha.elim (fun z => by rw [z]; exact f1) fun z e => f4 y a z e.symm
  exact ⟨m, hn.sameBut sb haC, fun h3 sb3 => ⟨_, H', I2.turned (t' := s2.toks) (fun b o hb e => (sb3.2 b hb).trans e) f0 f1 f3 f4 f5, q⟩⟩
end
end Lw
set_option Elab.async false
set_option linter.all false
set_option maxRecDepth 100000
/-! LwD: dicts whose keys are None and texts: displays, update. -/
namespace Lw
open PySem PySem.Spec L2 PyProof.Rows
section
variable {K : PySem.W.Frag} {at_ : At} {ρ ρ0 : Pl} {H H0 : Hp} {st : Store}
theorem leafIs_of {k : T} (h : lfOk k = true) {v : V} (r : Rep K at_ ρ H k v) : ∃ q, LeafIs k q ∧ v = lfV q := by
  cases k with
  | non => exact ⟨.none, rfl, r⟩
  | str x => exact ⟨.text x, rfl, r⟩
  | _ => simp [lfOk] at h
theorem LeafIs.rep {k : T} {q : Leaf} (h : LeafIs k q) : Rep K at_ ρ H k (lfV q) := by
  cases k with
  | non => cases h; rfl
  | str x => cases h; rfl
  | _ => exact h.elim
theorem LeafIs.inj {k l : T} {q r : Leaf} (h : LeafIs k q) (h' : LeafIs l r) : decide (k = l) = decide (q = r) := by
  cases k with
  | non =>
    cases l with
    | non => cases h; cases h'; simp
    | str y => cases h; cases h'; simp
    | _ => exact h'.elim
  | str x =>
    cases l with
    | non => cases h; cases h'; simp
    | str y => cases h; cases h'; by_cases e : x = y <;> simp [e]
    | _ => exact h'.elim
  | _ => exact h.elim
theorem repF_get : ∀ {kvs : List (T × T)} {ks : List (Leaf × V)} {k : T} {q : Leaf}, RepF K at_ ρ H kvs ks → LeafIs k q →
    match dget kvs k with
    | some t => ∃ v, valV ks q = some v ∧ Rep K at_ ρ H t v
    | none => valV ks q = none
  | [], _, k, q, h, _ => by cases h; rfl
  | (l, t) :: r, _, k, q, h, hk => by
    obtain ⟨q', v, s, rfl, h0, h1, h2⟩ := h
    have e := LeafIs.inj h0 hk
    have ih := repF_get h2 hk
    unfold dget valV
    rw [List.find?_cons, List.find?_cons]
    simp only [e]
    cases hd : decide (q' = q) with
    | true => exact ⟨v, rfl, h1⟩
    | false => exact ih
theorem repF_any : ∀ {kvs : List (T × T)} {ks : List (Leaf × V)} {k : T} {q : Leaf}, RepF K at_ ρ H kvs ks → LeafIs k q → (kvs.any fun p => decide (p.1 = k)) = ks.any fun p => decide (p.1 = q)
  | [], _, k, q, h, _ => by cases h; rfl
  | (l, t) :: r, _, k, q, h, hk => by
    obtain ⟨q', v, s, rfl, h0, h1, h2⟩ := h
    simp only [List.any_cons, LeafIs.inj h0 hk, repF_any h2 hk]
theorem repF_repl : ∀ {kvs : List (T × T)} {ks : List (Leaf × V)} {k t : T} {q : Leaf} {v : V}, RepF K at_ ρ H kvs ks → LeafIs k q → Rep K at_ ρ H t v →
    RepF K at_ ρ H (kvs.map fun p => if p.1 = k then (p.1, t) else p) (ks.map fun p => if p.1 = q then (p.1, v) else p)
  | [], _, _, _, _, _, h, _, _ => by cases h; rfl
  | (l, u) :: r, _, k, t, q, v, h, hk, hr => by
    obtain ⟨q', w, s, rfl, h0, h1, h2⟩ := h
    have e := LeafIs.inj h0 hk
    have ih := repF_repl h2 hk hr
    simp only [List.map_cons]
    by_cases hd : q' = q
    · have hl : l = k := of_decide_eq_true (by rw [e, decide_eq_true hd])
      rw [if_pos hd, if_pos hl]
      exact ⟨q', v, _, rfl, h0, hr, ih⟩
    · have hl : ¬ l = k := of_decide_eq_false (by rw [e, decide_eq_false hd])
      rw [if_neg hd, if_neg hl]
      exact ⟨q', w, _, rfl, h0, h1, ih⟩
theorem repF_snoc : ∀ {kvs more : List (T × T)} {ks ms : List (Leaf × V)}, RepF K at_ ρ H kvs ks → RepF K at_ ρ H more ms → RepF K at_ ρ H (kvs ++ more) (ks ++ ms)
  | [], _, _, _, h, h' => by cases h; exact h'
  | (l, u) :: r, _, _, _, h, h' => by
    obtain ⟨q', w, s, rfl, h0, h1, h2⟩ := h
    exact ⟨q', w, _, rfl, h0, h1, repF_snoc h2 h'⟩
theorem repF_put {kvs : List (T × T)} {ks : List (Leaf × V)} {k t : T} {q : Leaf} {v : V} (h : RepF K at_ ρ H kvs ks) (hk : LeafIs k q) (hr : Rep K at_ ρ H t v) : RepF K at_ ρ H (dput kvs k t) (putK ks q v) := by
  unfold dput putK
  rw [repF_any h hk]
  split
  · exact repF_repl h hk hr
  · exact repF_snoc h ⟨q, v, [], rfl, hk, hr, rfl⟩
theorem repF_merge : ∀ {more : List (T × T)} {ms : List (Leaf × V)} {kvs : List (T × T)} {ks : List (Leaf × V)}, RepF K at_ ρ H more ms → RepF K at_ ρ H kvs ks → RepF K at_ ρ H (dmerge kvs more) (mergeL ks ms)
  | [], _, _, _, h, h' => by cases h; exact h'
  | (l, u) :: r, _, kvs, ks, h, h' => by
    obtain ⟨q', w, s, rfl, h0, h1, h2⟩ := h
    show RepF K at_ ρ H (dmerge (dput kvs l u) r) (mergeL (putK ks q' w) s)
    exact repF_merge h2 (repF_put h' h0 h1)
theorem repF_length : ∀ {kvs : List (T × T)} {ks : List (Leaf × V)}, RepF K at_ ρ H kvs ks → kvs.length = ks.length
  | [], _, h => by cases h; rfl
  | (l, u) :: r, _, h => by
    obtain ⟨q', w, s, rfl, h0, h1, h2⟩ := h
    simp [repF_length h2]
theorem repF_keys : ∀ {kvs : List (T × T)} {ks : List (Leaf × V)}, RepF K at_ ρ H kvs ks → RepL K at_ ρ H (kvs.map (·.1)) (ks.map fun p => lfV p.1)
  | [], _, h => by cases h; rfl
  | (l, u) :: r, _, h => by
    obtain ⟨q', w, s, rfl, h0, h1, h2⟩ := h
    exact ⟨_, _, rfl, h0.rep, repF_keys h2⟩

theorem RepF.mv {ρ1 : Pl} {H1 : Hp} (s : Sep ρ H) (m : Mv ρ H ρ1 H1) (ts : List (T × T)) (vs : List (Leaf × V)) (h : RepF K at_ ρ H ts vs) : RepF K at_ ρ1 H1 ts vs := RepF.mw s m.w ts vs h
/-- what is there at a place of the store -/
theorem ldc_at {l : Nat} {a : Addr} {kvs : List (T × T)} (s : StRep K at_ ρ H st) (hl : ρ.pl[l]? = some a) (e : st[l]? = some (.ldc kvs)) : ∃ ks, H a = some (LfO at_.pg at_.wd a ks) ∧ RepF K at_ ρ H kvs ks := s.cell l a _ hl e
variable {Q : VK} {Z : Value → Option Addr → Hp → Prop} {p : List Addr} {D : Addr}
/-- a new one is a place of the store -/
theorem fin_bldc {ts : List (T × T)} {vs : List (Leaf × V)} (o : Out K at_ ρ0 H0 (.ok (.loc st.length) (st ++ [.ldc ts])) (Got K at_ Q) Z) (m0 : Mv ρ0 H0 ⟨p, ρ0.hd⟩ H) (hD : H0 D = none) (hn : D ∉ ρ0) (s : StRep K at_ ⟨p, D :: ρ0.hd⟩ H st) (e : H D = some (LfO at_.pg at_.wd D vs)) (r : RepF K at_ ⟨p, D :: ρ0.hd⟩ H ts vs) : Q (.ref D) H := by
  have hDh : D ∉ ρ0.hd := fun z => hn (.inr z)
  have m1 : Mv ρ0 H0 ⟨p ++ [D], ρ0.hd⟩ H := by
    obtain ⟨m, em, hm⟩ := m0.grow
    refine ⟨⟨m ++ [D], ?_, fun b hb => ?_⟩, m0.exn⟩
    · have : p = ρ0.pl ++ m := congrArg Pl.pl em
      rw [this]
      simp [Pl.add]
    · rcases List.mem_append.mp hb with z | z
      · exact hm b z
      · have : b = D := by simpa using z
        subst this
        exact ⟨.none hD, hn⟩
  refine o ⟨p ++ [D], ρ0.hd⟩ H m1 (s.place hDh ⟨vs, e, RepF.mw s.sep Mw.place _ _ r⟩) _ ⟨D, rfl, ?_⟩
  show (p ++ [D])[st.length]? = some D
  rw [← show p.length = st.length from s.len, List.getElem?_append_right (Nat.le_refl _), Nat.sub_self]
  rfl
/-- the update's end -/
theorem fin_lup {l : Nat} {a : Addr} {more : List (T × T)} {ms : List (Leaf × V)} (o : Out K at_ ρ0 H0 (lupE (.loc l) more st) (Got K at_ Q) Z) (m0 : Mv ρ0 H0 ⟨p, ρ0.hd⟩ H) (s : StRep K at_ ⟨p, D :: ρ0.hd⟩ H st) (hl : p[l]? = some a) (r : RepF K at_ ⟨p, D :: ρ0.hd⟩ H more ms) :
    ∃ ks, H a = some (LfO at_.pg at_.wd a ks) ∧ a ≠ D ∧ ks.length + ms.length ≤ sizeLine ∧ Q .non (upd H a (LfO at_.pg at_.wd a (mergeL ks ms))) := by
  have hDp : D ∉ p := s.dj D List.mem_cons_self
  have hap : a ∈ p := List.mem_of_getElem? hl
  have s1 : StRep K at_ ⟨p, ρ0.hd⟩ H st := s.unhide
  simp only [lupE] at o
  split at o
  · rename_i kvs e
    obtain ⟨hz, o⟩ := o.iteN
    obtain ⟨ks, h1, h2⟩ := ldc_at s1 (l := l) hl e
    have r1 := RepF.mw s.sep Mw.unhide _ _ r
    refine ⟨ks, h1, fun z => hDp (z ▸ hap), by rw [← repF_length h2, ← repF_length r1, ← big_line]; exact hz, ?_⟩
    have mt : Mv (⟨p, ρ0.hd⟩ : Pl) H ⟨p, ρ0.hd⟩ (upd H a (LfO at_.pg at_.wd a (mergeL ks ms))) := Mv.turn hap _
    exact o _ _ (m0.trans mt) (s1.turn (l := l) hl ⟨_, upd_same, RepF.mw s1.sep mt.w _ _ (repF_merge r1 h2)⟩) _ rfl
  · exact o.elim
end
/-! ### the rules -/
section
variable {X : Cx}
theorem lf_carries {P : Program} {w : World} : ∀ (kvs : List (Leaf × V)) {ws : List (Value × Value)}, VV (kvs.map fun kv => (lfV kv.1, kv.2)) ws → ∃ rs, Carries (leafKind P w) ws rs ∧ KV kvs rs
  | [], ws, r => by
    cases ws with
    | nil => exact ⟨[], True.intro, .nil⟩
    | cons _ _ => exact (nomatch r)
  | p :: kvs, ws, r => by
    cases ws with
    | nil => exact (nomatch r)
    | cons b bs =>
      obtain ⟨h, t⟩ : (RelV (lfV p.1) b.1 ∧ RelV p.2 b.2) ∧ VV (kvs.map fun kv => (lfV kv.1, kv.2)) bs := by
        cases r with
        | cons a c => exact ⟨a, c⟩
      obtain ⟨rs, c, q⟩ := lf_carries (P := P) (w := w) kvs t
      exact ⟨(p.1, b.2) :: rs, ⟨lf_is h.1, rfl, c⟩, .cons ⟨rfl, h.2⟩ q⟩
/-- {k: v, ..} -/
def tLdisp (P : Program) (w : World) (t : L2.St → Hp → (List (V × V) → Hp → Prop) → Prop) : TE := fun σ H Q => ∀ D, H D = none → t σ (upd H D (LfO P w D [])) fun ps H2 => H2 D = some (LfO P w D []) ∧ ∃ kvs : List (Leaf × V), ps = kvs.map (fun kv => (lfV kv.1, kv.2)) ∧ kvs.length ≤ 15 ∧ Q (.ref D) (upd H2 D (LfO P w D (mergeL [] kvs)))
theorem pe_ldisp {pos : Pos} {keys : List (Option Expr)} {values : List Expr} {t : L2.St → Hp → (List (V × V) → Hp → Prop) → Prop} (h : PD X pos keys values t) (hall : keys.all (·.isSome) = true) (hl : keys.length = values.length) (h0 : keys ≠ []) (h15 : keys.length ≤ 15) :
    PE X (.Dict keys values pos) (tLdisp X.prog X.w t) := by
  refine
        ⟨fun pins s σ H Q I q => ?_⟩
  have hn := I.hok.fresh
        (Nat.le_refl s.heap.objs.size)
  have I1 := I.laid (a := s.heap.objs.size) (o := LfO X.prog X.w s.heap.objs.size []) (h' := s.heap.push { cls := .type "dict", data := .dict #[] }) (t' := s.toks) (fun _ _ q => Heap.get?_push_of_some _ q) (Nat.le_refl _) (lf_empty s.heap I.big)
  refine wpAny_Dict_walk (knd := leafKind X.prog X.w) hall hl h0 h15 (thn (h.run pins _ σ _ _ I1 (q _ hn)) fun ws s2 ⟨ps, H2, I2, rel, e, kvs, ep, lk, q2⟩ => ?_)
  subst ep
  obtain ⟨rs, cr, rk⟩ := lf_carries (P := X.prog) (w := X.w) kvs rel
  obtain ⟨z, hd, vs0, r0, dd⟩ := lf_of I2.hok e
  have e0 : vs0 = [] := List.length_eq_zero_iff.mp r0.length.symm
  subst e0
  refine ⟨rs, cr, dd, fun h' dd' hs => ⟨.ref s.heap.objs.size, _, ?_, rfl, q2⟩⟩
  have hz : (mergeL [] kvs).length ≤ sizeLine := by
    have h1 := mergeL_len kvs []
    rw [List.length_nil] at h1
    rw [sizeLine_eq]
    omega
  have he : ∃ q, h'.get? s.heap.objs.size =
        some q := let ⟨q, _, _, hq, _⟩ := dd'; ⟨q, hq⟩
  exact d_write I2 (by rw [e]; exact True.intro) hs he (lf_new ⟨hz, hd, _, kv_mergeL kvs rk .nil, dd'⟩)
theorem pe_lnew {pos : Pos} : PE X (.Dict [] [] pos) (fun _ H Q => ∀ p, H p = none → Q (.ref p) (upd H p (LfO X.prog X.w p []))) := ⟨fun pins s σ H Q I h =>
  wpAny_Dict_empty ⟨.ref s.heap.objs.size, _, I.laid (a := s.heap.objs.size) (o := LfO X.prog X.w s.heap.objs.size []) (t' := s.toks) (fun _ _ q => Heap.get?_push_of_some _ q) (Nat.le_refl _) (lf_empty s.heap I.big), rfl, h _ (I.hok.fresh (Nat.le_refl _))⟩⟩
/-- o.update(d), both dicts of such keys -/
def tLupd (P : Program) (w : World) (to ta : TE) : TE := fun σ H Q => to σ H fun x H1 => ∃ a ks0, x = .ref a ∧ H1 a = some (LfO P w a ks0) ∧ ta σ H1 fun y H2 => ∃ b ks ms, y = .ref b ∧ a ≠ b ∧ H2 a = some (LfO P w a ks) ∧ H2 b = some (LfO P w b ms) ∧ ks.length + ms.length ≤ sizeLine ∧ Q .non (upd H2 a (LfO P w a (mergeL ks ms)))
theorem pe_lupd {oe ae : Expr} {apos cpos : Pos} {to ta : TE} (ho : PE X oe to) (ha : PE X ae ta) (hbase : attributeBase oe "update" X.env (eval oe X.env) = eval oe X.env) (hline : (apos.endLine == cpos.line) = true)
    (hs : starEach [ae] X.env = [(false, eval ae X.env)]) : PE X (.Call (.Attribute oe "update" apos) [ae] [] cpos) (tLupd X.prog X.w to ta) := by
  refine
        ⟨fun pins s σ H Q I h => ?_⟩
  have hfew : ((backTo cpos (starEach [ae] X.env)).all (fun x => !x.1) && (backToKw cpos (keywordEach [] X.env)).all (fun x => x.1.isSome) && decide ([ae].length + ([] : List Keyword).length + (if ([] : List Keyword).isEmpty then 0 else 1) < 30)) = true := by
    rw [hs]
    rfl
  refine wpAny_Call_method_late hbase hfew hline rfl (thn (ho.run pins s σ H _ I h) fun v s1 ⟨x, H1, I1, r1, a, ks0, ex, e1, q1⟩ => ?_)
  subst ex
  cases r1
  obtain ⟨t1, t2⟩ := lf_type (lf_of I1.hok e1)
  refine ⟨"dict", "dict.update", PySem.F.plainAttrs_dict, PySem.F.slot_dict_update, PySem.F.type_dict_update, t1, t2, ?_⟩
  have hA := (pa_cons (es := []) ha pa_nil hs).run cpos pins s1 σ H1 (fun vs H2 => ∃ b ks ms, vs.headD .non = .ref b ∧ vs.length = 1 ∧ a ≠ b ∧ H2 a = some (LfO X.prog X.w a ks) ∧ H2 b = some (LfO X.prog X.w b ms) ∧ ks.length + ms.length ≤ sizeLine ∧ Q .non (upd H2 a (LfO X.prog X.w a (mergeL ks ms)))) I1 ?_
  · rw [hs] at hA ⊢
    refine Calls.callWith_builtin rfl (Calls.evalArgs_plain ?_)
    refine thn hA fun us s2 ⟨vs, H2, I2, r2, b, ks, ms, ey, el, hne, e2, e3, hz, q2⟩ => ?_
    obtain ⟨y, rfl⟩ := List.length_eq_one_iff.mp el
    cases (show y = .ref b from ey)
    obtain ⟨u, rfl, ru⟩ := vals1 r2
    cases ru
    exact lf_update I2 e2 e3 hne hz q2
  · show ta σ H1 _
    have e : (fun (y : V) (H2 : Hp) => ∃ b ks ms, y = V.ref b ∧ a ≠ b ∧ H2 a = some (LfO X.prog X.w a ks) ∧ H2 b = some (LfO X.prog X.w b ms) ∧ ks.length + ms.length ≤ sizeLine ∧ Q V.non (upd H2 a (LfO X.prog X.w a (mergeL ks ms)))) = fun y H2 => ∃ b ks ms, ([y] : List V).headD .non = .ref b ∧ ([y] : List V).length = 1 ∧ a ≠ b ∧ H2 a = some (LfO X.prog X.w a ks) ∧ H2 b = some (LfO X.prog X.w b ms) ∧ ks.length + ms.length ≤ sizeLine ∧ Q V.non (upd H2 a (LfO X.prog X.w a (mergeL ks ms))) := by
      funext y H2
      simp
    rw [e] at q1
    exact q1
end
/-! ### by the evaluator -/
section
variable {X : Cx} {at_ : At} {W : WX} {c : Cf}
theorem dcF_read {vs2 : List Nat} {g : G} {k : Ik} {its us : List E} {u u' : E} (hown : ∀ i ∈ nmG g, i ∈ vs2) {σ : L2.St} {H : Hp} {Q Q' : VK} {ρ : Pl} {env : Env} {st : Store} {f : List (T × T) → Store → Res T} (er : EnvRep X.K at_ ρ H σ env) (sr : StRep X.K at_ ρ H st)
    (o : Out X.K at_ ρ H ((evEs c its env st).bind fun vs st => match walkOf st k vs with
      | some w => if w.items.length ≤ big then (loopL (fun env st => (evE c u env st).bind fun x st => (evE c u' env st).bind fun y st => if lfOk x then .ok (x, y) st else .no) (fun env st => evTs c us env st) g w k (wipeT env vs2) w.items st).noexc.bind fun ts st => f (dmerge [] ts) st else .no
      | none => .no) (Got X.K at_ Q) (fun cls d H' => W cls d σ H'))
    (fin : ∀ (ρ1 : Pl) (H1 : Hp) (D : Addr) (p : List Addr) (H' : Hp) (st' : Store) (acc : List (Leaf × V)) (done : List (T × T)), Mv ρ H ρ1 H1 → H1 D = none → D ∉ ρ1 → Mv ρ1 H1 ⟨p, ρ1.hd⟩ H' → StRep X.K at_ ⟨p, D :: ρ1.hd⟩ H' st' → H' D = some (LfO X.prog X.w D acc) → RepF X.K at_ ⟨p, D :: ρ1.hd⟩ H' done acc →
      Out X.K at_ ρ1 H1 (f done st') (Got X.K at_ Q) (fun cls d H' => W cls d σ H') → Q' (.ref D) H') :
    tDcG (lfG X.prog X.w) (iW X.K at_ W g k fun env st => evEs c its env st) (tG X.K at_ g) (tTs X.K at_ noX fun env st => evTs c us env st) (tE X.K at_ noX fun env st => evE c u env st) (tE X.K at_ noX fun env st => evE c u' env st) vs2 σ H Q' := by
  refine ⟨ρ, env, st, er, sr, o.bind.imp fun vs ρ1 H1 st1 m1 s1 o1 => ?_⟩
  cases hw : walkOf st1 k vs with
  | none => simp only [hw] at o1; exact o1.elim
  | some w =>
    simp only [hw] at o1
    obtain ⟨hb, o1⟩ := o1.iteN
    refine ⟨w, rfl, fun J link D hD => ?_⟩
    have hn := s1.fresh hD
    have er1 := (er.mv sr.sep m1).wipe vs2
    refine ⟨fun i m H' => m = w.items.length - i ∧ i ≤ w.items.length ∧ ∃ p st' acc done, H' D = some (LfO X.prog X.w D acc) ∧ acc.length ≤ i ∧ Mv ρ1 H1 ⟨p, ρ1.hd⟩ H' ∧ StRep X.K at_ ⟨p, D :: ρ1.hd⟩ H' st' ∧ EnvRep X.K at_ ⟨p, D :: ρ1.hd⟩ H' (wipe σ vs2) (wipeT env vs2) ∧
      RepF X.K at_ ⟨p, D :: ρ1.hd⟩ H' done acc ∧ Out X.K at_ ρ1 H1 ((loopL (fun env st => (evE c u env st).bind fun x st => (evE c u' env st).bind fun y st => if lfOk x = true then .ok (x, y) st else .no) (fun env st => evTs c us env st) g w k (wipeT env vs2) (w.items.drop i) st').noexc.bind fun ts st => f (dmerge done ts) st) (Got X.K at_ Q) (fun cls d H' => W cls d σ H'),
      ⟨w.items.length, by simp, Nat.zero_le _, ρ1.pl, st1, [], [], upd_same, Nat.le_refl _, Mv.hidden s1 hD _, s1.hide hD (by first | exact .lst | exact .dK | exact .lf), er1.mw s1.sep (Mw.hide s1 hD _), rfl, by simpa using o1⟩, ?_⟩
    rintro i m H' ⟨rfl, hi', p, st', acc, done, hDl, hacc, m1', s', er', rd, oo⟩
    have mw := m1'.mwHide hD
    have hDp : D ∉ p := s'.dj D List.mem_cons_self
    by_cases hlt : i < w.items.length
    · rw [List.drop_eq_getElem_cons hlt] at oo
      simp only [loopL] at oo
      by_cases hsm : w.same k st' = true
      · simp only [hsm, if_true] at oo
        cases hsg : setG g w.items[i] (wipeT env vs2) with
        | none => simp only [hsg] at oo; exact oo.elim
        | some env' =>
          simp only [hsg] at oo
          obtain ⟨go, yl⟩ := (link _ _ _ mw s' hsm i).1 _ (List.getElem?_eq_getElem hlt)
          refine .inr ⟨go, fun H' => w.items.length - (i + 1) = w.items.length - (i + 1) ∧ i + 1 ≤ w.items.length ∧ ∃ p st' acc done, H' D = some (LfO X.prog X.w D acc) ∧ acc.length ≤ i + 1 ∧ Mv ρ1 H1 ⟨p, ρ1.hd⟩ H' ∧ StRep X.K at_ ⟨p, D :: ρ1.hd⟩ H' st' ∧ EnvRep X.K at_ ⟨p, D :: ρ1.hd⟩ H' (wipe σ vs2) (wipeT env vs2) ∧
            RepF X.K at_ ⟨p, D :: ρ1.hd⟩ H' done acc ∧ Out X.K at_ ρ1 H1 ((loopL (fun env st => (evE c u env st).bind fun x st => (evE c u' env st).bind fun y st => if lfOk x = true then .ok (x, y) st else .no) (fun env st => evTs c us env st) g w k (wipeT env vs2) (w.items.drop (i + 1)) st').noexc.bind fun ts st => f (dmerge done ts) st) (Got X.K at_ Q) (fun cls d H' => W cls d σ H'),
            fun H'' h => ⟨_, by omega, h⟩, fun v H'' y => ?_⟩
          obtain ⟨m2, s2, rg⟩ := yl v H'' y
          have er2 := er'.mv s'.sep m2
          refine ⟨⟨p, D :: ρ1.hd⟩, _, _, env', er2, rg, hsg, fun σ2 hs2 er3 => ⟨(hs2 _ hown).trans (wipe_idem _ fun _ h => h), ?_⟩⟩
          have m02 := (Mv.unhide (q := []) hD hn m1' m2).2
          rw [noexc_bind] at oo
          refine ⟨⟨p, D :: ρ1.hd⟩, env', st', er3, s2, ((oo.bind0.noexc (Z' := fun _ _ _ => False)).hide m02 hD hn).imp fun b ρ3 H3 st3 m3 s3 ⟨p3, e3, m03, o3⟩ => ?_⟩
          subst e3
          have hD3 : H3 D = some (LfO X.prog X.w D acc) := m3.ext _ _ (m2.ext _ _ hDl hDp) hDp
          cases b with
          | false =>
            rw [if_neg
                  Bool.false_ne_true]
            exact ⟨rfl, hlt, p3, st3, acc, done, hD3, by omega, m03, s3, er2.mv s2.sep m3, RepF.mv s2.sep m3 _ _ (RepF.mv s'.sep m2 _ _ rd), o3⟩
          | true =>
            rw [if_pos rfl]
            simp only at o3
            rw [noexc_bind, noexc_bind] at o3
            have hDp3 : D ∉ p3 := s3.dj D List.mem_cons_self
            refine ⟨⟨p3, D :: ρ1.hd⟩, env', st3, er3.mv s2.sep m3, s3, ((o3.bind0.noexc (Z' := fun _ _ _ => False)).hide m03 hD hn).imp fun x ρ4 H4 st4 m4 s4 ⟨p4, e4, m04, o4⟩ v4 r4 => ?_⟩
            subst e4
            rw [noexc_bind] at o4
            have hDp4 : D ∉ p4 := s4.dj D List.mem_cons_self
            refine ⟨⟨p4, D :: ρ1.hd⟩, env', st4, (er3.mv s2.sep m3).mv s3.sep m4, s4, ((o4.bind0.noexc (Z' := fun _ _ _ => False)).hide m04 hD hn).imp fun y ρ5 H5 st5 m5 s5 ⟨p5, e5, m05, o5⟩ v5 r5 => ?_⟩
            subst e5
            by_cases hkx : lfOk x = true
            · simp only [hkx, if_true] at o5
              obtain ⟨q, kq, rfl⟩ := leafIs_of hkx (Rep.mv s4.sep m5 _ _ r4)
              have hD5 : H5 D = some (LfO X.prog X.w D acc) := m5.ext _ _ (m4.ext _ _ hD3 hDp3) hDp4
              have mb : Mw ⟨p5, D :: ρ1.hd⟩ H5 ⟨p5, D :: ρ1.hd⟩ (upd H5 D (LfO X.prog X.w D (putK acc q v5))) := Mw.built List.mem_cons_self _
              refine ⟨acc, q, rfl, hD5, by rw [← big_line]; omega, rfl, hlt, p5, st5, putK acc q v5, dput done x y, upd_same, ?_, Mv.built hD m05 _, s5.built List.mem_cons_self (by first | exact .lst | exact .dK | exact .lf), ?_, ?_, ?_⟩
              · have := length_putK acc q v5
                omega
              · exact (((er2.mv s2.sep m3).mv s3.sep m4).mv s4.sep m5).mw s5.sep mb
              · exact RepF.mw s5.sep mb _ _ (repF_put (RepF.mv s4.sep m5 _ _ (RepF.mv s3.sep m4 _ _ (RepF.mv s2.sep m3 _ _ (RepF.mv s'.sep m2 _ _ rd)))) kq r5)
              · rw [Res.noexc_ok, Res.bind_ok, noexc_bind] at o5
                simpa [dmerge_snoc] using o5
            · simp only [hkx, if_false] at o5
              exact o5.elim
      · simp only [hsm, if_false] at oo
        exact oo.elim
    · have ei : i = w.items.length := by omega
      subst ei
      rw [List.drop_length] at oo
      simp only [loopL] at oo
      by_cases hsm : w.same k st' = true
      · simp only [hsm, if_true] at oo
        refine .inl ⟨(link _ _ _ mw s' hsm _).2 (Nat.le_refl _), ?_⟩
        exact fin ρ1 H1 D p H' st' acc done m1 hD hn m1' s' hDl rd (by simpa [dmerge] using oo)
      · simp only [hsm, if_false] at oo
        exact oo.elim

theorem zip_leaf {ρ : Pl} {H : Hp} : ∀ {ts : List (T × T)} {vs ws : List V}, ts.all (fun p => lfOk p.1) = true → RepL X.K at_ ρ H (ts.map (·.1)) vs → RepL X.K at_ ρ H (ts.map (·.2)) ws →
    ∃ kvs : List (Leaf × V), vs.zip ws = kvs.map (fun kv => (lfV kv.1, kv.2)) ∧ RepF X.K at_ ρ H ts kvs
  | [], _, _, _, r, r' => by cases r; cases r'; exact ⟨[], rfl, rfl⟩
  | (k, t) :: ts, _, _, hk, r, r' => by
    obtain ⟨v, vs, rfl, h1, h2⟩ := r
    obtain ⟨w, ws, rfl, h3, h4⟩ := r'
    simp only [List.all_cons, Bool.and_eq_true] at hk
    obtain ⟨kvs, e, rp⟩ := zip_leaf hk.2 h2 h4
    obtain ⟨q, kq, rfl⟩ := leafIs_of hk.1 h1
    exact ⟨(q, w) :: kvs, by simp [e], q, w, kvs, rfl, kq, h3, rp⟩
theorem isLd_at {ρ : Pl} {H : Hp} {st : Store} {t : T} {v : V} (s : StRep X.K at_ ρ H st) (r : Rep X.K at_ ρ H t v) (h : isLd st t = true) : ∃ l a ks, t = .loc l ∧ v = .ref a ∧ ρ.pl[l]? = some a ∧ H a = some (LfO at_.pg at_.wd a ks) := by
  unfold isLd at h
  split at h
  · rename_i l
    split at h
    · rename_i kvs e
      obtain ⟨a, rfl, hl⟩ := r
      obtain ⟨ks, h1, _⟩ := ldc_at s hl e
      exact ⟨l, a, ks, rfl, rfl, hl, h1⟩
    · cases h
  · cases h
theorem e_ldd0 {pos : Pos} (hp : at_.pg = X.prog) (hw : at_.wd = X.w) : PE X (.Dict [] [] pos) (tE X.K at_ W fun env st => evE c (.ldd []) env st) := by
  refine PE_imp pe_lnew fun σ H Q ⟨ρ, env, st, er, sr, o⟩ p hD => ?_
  simp only [evE, evPs, Res.bind_ok, List.all_nil, if_true, dmerge, List.foldl_nil] at o
  refine o (ρ.add [p]) _ (Mv.alloc sr hD _) (sr.alloc hD ⟨[], by rw [hp, hw]; exact upd_same, rfl⟩) _ ⟨p, rfl, ?_⟩
  show (ρ.pl ++ [p])[st.length]? = some p
  rw [← sr.len, List.getElem?_append_right (Nat.le_refl _), Nat.sub_self]
  rfl
theorem e_ldd {pos : Pos} {keys : List (Option Expr)} {values : List Expr} {us : List (E × E)} (hp : at_.pg = X.prog) (hw : at_.wd = X.w) (h : PD X pos keys values (tP X.K at_ W fun env st => evPs c us env st)) (hall : keys.all (·.isSome) = true) (hl : keys.length = values.length) (h0 : keys ≠ [])
    (h15 : keys.length ≤ 15) (hu : us.length = keys.length) : PE X (.Dict keys values pos) (tE X.K at_ W fun env st => evE c (.ldd us) env st) := by
  refine PE_imp (pe_ldisp h hall hl h0 h15) fun σ H Q ⟨ρ, env, st, er, sr, o⟩ D hD => ?_
  simp only [evE] at o
  have hnr := sr.fresh hD
  refine ⟨⟨ρ.pl, D :: ρ.hd⟩, env, st, er.mw sr.sep (Mw.hide sr hD _), sr.hide hD .lf, ?_⟩
  refine ((o.bind0.hide (Mv.hidden sr hD (LfO X.prog X.w D [])) hD hnr).impE fun ts ρ1 H1 st1 ee m1 s1 ⟨p1, e1, m01, o1⟩ vs ws rv rw' => ?_)
  subst e1
  have hD1 : H1 D = some (LfO X.prog X.w D []) := m1.ext _ _ upd_same (fun z => hnr (.inl z))
  obtain ⟨hk, o1⟩ := o1.iteN
  obtain ⟨kvs, ez, rp⟩ := zip_leaf hk rv rw'
  refine ⟨hD1, kvs, ez, ?_, ?_⟩
  · rw [← repF_length rp, evPs_len ee, hu]
    exact h15
  · have s2 := s1.built (D := D) List.mem_cons_self (o := LfO X.prog X.w D (mergeL [] kvs)) .lf
    refine fin_bldc o1 (Mv.built hD m01 _) hD hnr s2 (by rw [hp, hw]; exact upd_same) ?_
    exact RepF.mw s1.sep (Mw.built List.mem_cons_self _) _ _ (repF_merge rp rfl)
theorem e_lpu {oe : Expr} {apos cpos pos : Pos} {keys : List (Option Expr)} {values : List Expr} {u : E} {us : List (E × E)} (hp : at_.pg = X.prog) (hw : at_.wd = X.w) (ho : PE X oe (tE X.K at_ W fun env st => evE c u env st)) (h : PD X pos keys values (tP X.K at_ W fun env st => evPs c us env st))
    (hall : keys.all (·.isSome) = true) (hl : keys.length = values.length) (h0 : keys ≠ []) (h15 : keys.length ≤ 15) (hu : us.length = keys.length) (hbase : attributeBase oe "update" X.env (eval oe X.env) = eval oe X.env) (hline : (apos.endLine == cpos.line) = true) :
    PE X (.Call (.Attribute oe "update" apos) [.Dict keys values pos] [] cpos) (tE X.K at_ W fun env st => evE c (.lpu u us) env st) := by
  refine PE_imp (pe_lupd ho (pe_ldisp h hall hl h0 h15) hbase hline rfl) fun σ H Q ⟨ρ, env, st, er, sr, o⟩ => ?_
  simp only [evE] at o
  refine tE_then (f := fun env st => evE c u env st) (g := fun x env st => if isLd st x = true then (evPs c us env st).bind fun kvs st => if kvs.all (fun p => lfOk p.1) = true then lupE x (dmerge [] kvs) st else .no else .no) er sr o fun t ρ1 H1 st1 v er1 s1 m1 r1 o1 => ?_
  obtain ⟨hd, o1⟩ := o1.iteN
  obtain ⟨l, a, ks0, rfl, rfl, hla, ha⟩ := isLd_at s1 r1 hd
  rw [hp, hw] at ha
  refine ⟨a, ks0, rfl, ha, fun D hD => ?_⟩
  have hnr := s1.fresh hD
  refine ⟨⟨ρ1.pl, D :: ρ1.hd⟩, env, st1, er1.mw s1.sep (Mw.hide s1 hD _), s1.hide hD .lf, ?_⟩
  refine ((o1.bind0.hide (Mv.hidden s1 hD (LfO X.prog X.w D [])) hD hnr).impE fun ts ρ2 H2 st2 ee m2 s2 ⟨p2, e2, m02, o2⟩ vs ws rv rw' => ?_)
  subst e2
  have hD2 : H2 D = some (LfO X.prog X.w D []) := m2.ext _ _ upd_same (fun z => hnr (.inl z))
  obtain ⟨hk, o2⟩ := o2.iteN
  obtain ⟨kvs, ez, rp⟩ := zip_leaf hk rv rw'
  refine ⟨hD2, kvs, ez, ?_, ?_⟩
  · rw [← repF_length rp, evPs_len ee, hu]
    exact h15
  · have s3 := s2.built (D := D) List.mem_cons_self (o := LfO X.prog X.w D (mergeL [] kvs)) .lf
    obtain ⟨ks, k1, k2, k3, k4⟩ := fin_lup o2 (Mv.built hD m02 _) s3 (m02.at hla) (RepF.mw s2.sep (Mw.built List.mem_cons_self _) _ _ (repF_merge rp rfl))
    rw [hp, hw] at k1 k4
    exact ⟨D, ks, _, rfl, k2, k1, upd_same, k3, k4⟩
theorem e_lup {oe kx vx tg iter : Expr} {ifs : List Expr} {scope : Scope} {own : List (Str × Nat)} {apos cpos pos : Pos} {o0 : E} {g : G} {k : Ik} {its us : List E} {u u' : E} (hp : at_.pg = X.prog) (hw : at_.wd = X.w) (hc : X.calm = true) (hN : X.N.Nodup) (ho : PE X oe (tE X.K at_ W fun env st => evE c o0 env st))
    (hi : PI X tg iter (iW X.K at_ W g k fun env st => evEs c its env st)) (ok : BlkOk X.N X.env.scope scope own)
    (hg : ∀ (s : Shared) (H : Hp) (C : Addr) (cl : List (Str × Addr)) (fp : List Addr), PG (X.blk s H scope (compEnvC scope cl C X.env) fp) tg (tG X.K at_ g))
    (ht : ∀ (s : Shared) (H : Hp) (C : Addr) (cl : List (Str × Addr)) (fp : List Addr), PTs (X.blk s H scope (compEnvC scope cl C X.env) fp) ifs (tTs X.K at_ noX fun env st => evTs c us env st))
    (hk : ∀ (s : Shared) (H : Hp) (C : Addr) (cl : List (Str × Addr)) (fp : List Addr), PE (X.blk s H scope (compEnvC scope cl C X.env) fp) kx (tE X.K at_ noX fun env st => evE c u env st))
    (he : ∀ (s : Shared) (H : Hp) (C : Addr) (cl : List (Str × Addr)) (fp : List Addr), PE (X.blk s H scope (compEnvC scope cl C X.env) fp) vx (tE X.K at_ noX fun env st => evE c u' env st))
    (hs : ∀ x, foldedSetIterable iter X.env x = pure x) (hown : ∀ i ∈ nmG g, i ∈ own.map (·.2)) (hbase : attributeBase oe "update" X.env (eval oe X.env) = eval oe X.env) (hline : (apos.endLine == cpos.line) = true) :
    PE X (.Call (.Attribute oe "update" apos) [.DictComp kx vx [⟨tg, iter, ifs, 0⟩] scope pos] [] cpos) (tE X.K at_ W fun env st => evE c (.lup o0 u u' g k its us (own.map (·.2))) env st) := by
  refine PE_imp (pe_lupd ho (peG_dc (lfG X.prog X.w) hc hN hi ok hg ht hk he hs) hbase hline rfl) fun σ H Q ⟨ρ, env, st, er, sr, o⟩ => ?_
  simp only [evE] at o
  refine tE_then (f := fun env st => evE c o0 env st) (g := fun x env st => if isLd st x = true then (evEs c its env st).bind fun vs st => match walkOf st k vs with
      | some w => if w.items.length ≤ big then (loopL (fun env st => (evE c u env st).bind fun x st => (evE c u' env st).bind fun y st => if lfOk x = true then .ok (x, y) st else .no) (fun env st => evTs c us env st) g w k (wipeT env (own.map (·.2))) w.items st).noexc.bind fun ts st => lupE x (dmerge [] ts) st else .no
      | none => .no else .no) er sr o fun t ρ1 H1 st1 v er1 s1 m1 r1 o1 => ?_
  obtain ⟨hd, o1⟩ := o1.iteN
  obtain ⟨l, a, ks0, rfl, rfl, hla, ha⟩ := isLd_at s1 r1 hd
  rw [hp, hw] at ha
  refine ⟨a, ks0, rfl, ha, ?_⟩
  refine dcF_read (f := fun ts st => lupE (.loc l) ts st) hown er1 s1 o1 fun ρ2 H2 D p H' st' acc done m2 hD hn m3 s' hDl rd oo => ?_
  obtain ⟨ks, k1, k2, k3, k4⟩ := fin_lup oo m3 s' (m3.at (m2.at hla)) rd
  rw [hp, hw] at k1 k4
  exact ⟨D, ks, _, rfl, k2, k1, hDl, k3, k4⟩
end
end Lw
set_option Elab.async false
set_option linter.all false
set_option maxRecDepth 100000
/-! Lw15: statements. -/
namespace Lw
open PySem PySem.Spec L2 PyProof.Rows

section
variable {K : PySem.W.Frag} {at_ : At} {ρ ρ1 : Pl} {H H1 : Hp} {D D' : Ends} {W : WX} {st : Store}
/-- an outcome, weakened -/
theorem OutS.imp {r : SRes} (h : OutS K at_ ρ H r D W) (hn : ∀ env st ρ' H' σ', r = .ok .nx env st → Mv ρ H ρ' H' → StRep K at_ ρ' H' st → EnvRep K at_ ρ' H' σ' env → D.nx σ' H' → D'.nx σ' H')
    (hb : ∀ env st ρ' H' σ', r = .ok .bk env st → Mv ρ H ρ' H' → StRep K at_ ρ' H' st → EnvRep K at_ ρ' H' σ' env → D.bk σ' H' → D'.bk σ' H') (hc : ∀ env st ρ' H' σ', r = .ok .ct env st → Mv ρ H ρ' H' → StRep K at_ ρ' H' st → EnvRep K at_ ρ' H' σ' env → D.ct σ' H' → D'.ct σ' H')
    (hr : ∀ v H', D.rt v H' → D'.rt v H') : OutS K at_ ρ H r D' W := by
  cases r with
  | ok f env st =>
    intro ρ' H' σ' m s e
    have q := h ρ' H' σ' m s e
    cases f with
    | nx => exact hn _ _ _ _ _ rfl m s e q
    | bk => exact hb _ _ _ _ _ rfl m s e q
    | ct => exact hc _ _ _ _ _ rfl m s e q
    | rt t => exact fun v r => hr _ _ (q v r)
  | exc x env st => exact h
  | no => exact h
theorem OutS.nx {env : Env} {σ : L2.St} (h : OutS K at_ ρ H (.ok .nx env st) D W) (s : StRep K at_ ρ H st) (e : EnvRep K at_ ρ H σ env) : D.nx σ H := h ρ H σ Mv.refl s e
end

section
variable {X : Cx} {at_ : At} {W : WX} {c : Cf}
theorem s_nil : PSs X [] (tS X.K at_ W fun env st => evSs c [] env st) := by
  refine PSs_imp pss_nil fun D σ H ⟨ρ, env, st, er, sr, o⟩ => ?_
  simp only [evSs] at o
  exact o.nx sr er
theorem s_cons {a : Stmt} {as : List Stmt} {s : S} {ss : List S} (h1 : PS X a (tS X.K at_ W fun env st => evS c s env st)) (h2 : PSs X as (tS X.K at_ W fun env st => evSs c ss env st)) : PSs X (a :: as) (tS X.K at_ W fun env st => evSs c (s :: ss) env st) := by
  refine PSs_imp (pss_cons h1 h2) fun D σ H ⟨ρ, env, st, er, sr, o⟩ => ?_
  simp only [evSs] at o
  refine ⟨ρ, env, st, er, sr, ?_⟩
  show OutS X.K at_ ρ H (evS c s env st) _ W
  cases e : evS c s env st with
  | ok f env' st' =>
    rw [e] at o
    cases f with
    | nx => exact fun ρ' H' σ' m s' e' => ⟨ρ', env', st', e', s', OutS.mv m o⟩
    | bk => exact o
    | ct => exact o
    | rt t => exact o
  | exc x env' st' => rw [e] at o; exact o
  | no => rw [e] at o; exact o
theorem s_pass {pos : Pos} : PS X (.Pass pos) (tS X.K at_ W fun env st => evS c .pass env st) := by
  refine PS_imp ps_pass fun D σ H ⟨ρ, env, st, er, sr, o⟩ => ?_
  simp only [evS] at o
  exact o.nx sr er
theorem s_doc {x : Str} {j} {pos pos' : Pos} : PS X (.Expr (.Constant (.str x) j pos) pos') (tS X.K at_ W fun env st => evS c .pass env st) := by
  refine PS_imp ps_doc fun D σ H ⟨ρ, env, st, er, sr, o⟩ => ?_
  simp only [evS] at o
  exact o.nx sr er
theorem s_brk {pos : Pos} : PS X (.Break pos) (tS X.K at_ W fun env st => evS c .brk env st) := by
  refine PS_imp ps_break fun D σ H ⟨ρ, env, st, er, sr, o⟩ => ?_
  simp only [evS] at o
  exact o ρ H σ Mv.refl sr er
theorem s_cont {pos : Pos} : PS X (.Continue pos) (tS X.K at_ W fun env st => evS c .cont env st) := by
  refine PS_imp ps_continue fun D σ H ⟨ρ, env, st, er, sr, o⟩ => ?_
  simp only [evS] at o
  exact o ρ H σ Mv.refl sr er
/-- an expression, then the rest of a statement -/
theorem tS_then {u : E} {f : T → Env → Store → SRes} {σ : L2.St} {H : Hp} {ρ : Pl} {env : Env} {st : Store} {D : Ends} {R : V → Hp → Prop} (er : EnvRep X.K at_ ρ H σ env) (sr : StRep X.K at_ ρ H st) (o : OutS X.K at_ ρ H (SRes.of (evE c u env st) env fun t st => f t env st) D W)
    (hR : ∀ t ρ1 H1 st1 v, EnvRep X.K at_ ρ1 H1 σ env → StRep X.K at_ ρ1 H1 st1 → Mv ρ H ρ1 H1 → Rep X.K at_ ρ1 H1 t v → OutS X.K at_ ρ1 H1 (f t env st1) D W → R v H1) : tE X.K at_ W (fun env st => evE c u env st) σ H R :=
  ⟨ρ, env, st, er, sr, (OutS.of er sr.sep o).imp fun t ρ1 H1 st1 m s1 o1 v r => hR t ρ1 H1 st1 v (er.mv sr.sep m) s1 m r o1⟩
theorem s_expr {e : Expr} {u : E} {pos : Pos} (he : PE X e (tE X.K at_ W fun env st => evE c u env st)) (hs : swapsWith e none pos.line X.env = pure false) : PS X (.Expr e pos) (tS X.K at_ W fun env st => evS c (.expr u) env st) := by
  refine PS_imp (ps_expr he hs) fun D σ H ⟨ρ, env, st, er, sr, o⟩ => ?_
  simp only [evS] at o
  exact tS_then (f := fun _ env st => .ok .nx env st) er sr o fun t ρ1 H1 st1 v er1 s1 m1 r1 o1 => o1.nx s1 er1
theorem s_ret {e : Expr} {u : E} {pos : Pos} (he : PE X e (tE X.K at_ W fun env st => evE c u env st)) : PS X (.Return (some e) pos) (tS X.K at_ W fun env st => evS c (.ret (some u)) env st) := by
  refine PS_imp (ps_ret he) fun D σ H ⟨ρ, env, st, er, sr, o⟩ => ?_
  simp only [evS] at o
  exact tS_then (f := fun t env st => .ok (.rt t) env st) er sr o fun t ρ1 H1 st1 v er1 s1 m1 r1 o1 => o1 ρ1 H1 σ Mv.refl s1 er1 v r1
theorem s_retN {pos : Pos} : PS X (.Return none pos) (tS X.K at_ W fun env st => evS c (.ret none) env st) := by
  refine PS_imp ps_retN fun D σ H ⟨ρ, env, st, er, sr, o⟩ => ?_
  simp only [evS] at o
  exact o ρ H σ Mv.refl sr er .non rfl
theorem s_set {i : Nat} {x : Str} {e : Expr} {pos pos' : Pos} {u : E} (hN : X.N.Nodup) (hi : X.N[i]? = some x) (hx : Loc X.env.scope x) (hf : X.fn x = true ∨ X.env.scope.names.lookup x = some .local) (he : PE X e (tE X.K at_ W fun env st => evE c u env st)) (hs : swapsWith e (some (.Name x pos')) pos.line X.env = pure false) :
    PS X (.Assign [.Name x pos'] e pos) (tS X.K at_ W fun env st => evS c (.set i u) env st) := by
  refine PS_imp (ps_set hN hi hx he hs hf) fun D σ H ⟨ρ, env, st, er, sr, o⟩ => ?_
  simp only [evS] at o
  refine tS_then (f := fun t env st => if i < env.length then .ok .nx (env.set i (some t)) st else .no) er sr o fun t ρ1 H1 st1 v er1 s1 m1 r1 o1 => ?_
  split at o1
  · exact o1.nx s1 (er1.set r1)
  · exact o1.elim
theorem s_asg {tg e : Expr} {pos : Pos} {u : E} {g : G} (he : PE X e (tE X.K at_ W fun env st => evE c u env st)) (hg : PG X tg (tG X.K at_ g)) (hs : swapsWithSole [tg] e pos.line X.env = pure false) (hw : swappedStores [tg] e X.env = pure none)
    (h1 : (assignEach [tg] X.env).map (·.2) = [assign tg X.env]) : PS X (.Assign [tg] e pos) (tS X.K at_ W fun env st => evS c (.asg g u) env st) := by
  refine PS_imp (ps_asg he hg hs hw h1) fun D σ H ⟨ρ, env, st, er, sr, o⟩ => ?_
  simp only [evS] at o
  refine tS_then (f := fun t env st => match setG g t env with | some env => .ok .nx env st | none => .no) er sr o fun t ρ1 H1 st1 v er1 s1 m1 r1 o1 => ?_
  cases e : setG g t env with
  | none => simp only [e] at o1; exact o1.elim
  | some env' =>
    simp only [e] at o1
    exact ⟨ρ1, env, t, env', er1, .of r1, e, fun σ' _ er' => o1.nx s1 er'⟩
theorem s_par {i j : Nat} {x y : Str} {a b : Expr} {px py pt : Pos} {kt k2 pt2} {pos : Pos} {us : List E} (hc : X.calm = true) (hN : X.N.Nodup) (hi : X.N[i]? = some x) (hj : X.N[j]? = some y) (hij : i ≠ j)
    (hx : X.env.scope.names.lookup x = some .local) (hy : X.env.scope.names.lookup y = some .local) (ha : PA X [a, b] (tEs X.K at_ W fun env st => evEs c us env st))
    (hw : swappedStores [.Tuple [.Name x px, .Name y py] kt pt] (.Tuple [a, b] k2 pt2) X.env = pure (some [x, y])) :
    PS X (.Assign [.Tuple [.Name x px, .Name y py] kt pt] (.Tuple [a, b] k2 pt2) pos) (tS X.K at_ W fun env st => evS c (.par [i, j] us) env st) := by
  refine PS_imp (ps_par hc hN hi hj hij hx hy ha hw) fun D σ H ⟨ρ, env, st, er, sr, o⟩ => ?_
  simp only [evS] at o
  refine ⟨ρ, env, st, er, sr, (OutS.of er sr.sep o).imp fun ts ρ1 H1 st1 m1 s1 o1 vs rv => ?_⟩
  match ts, rv, o1 with
  | [], _, o1 => exact o1.elim
  | [t], rv, o1 =>
    simp only [setMany] at o1
    split at o1
    · rename_i heq
      split at heq <;> cases heq
    · exact o1.elim
  | [t, u], rv, o1 =>
    obtain ⟨v, w, rfl, r1, r2⟩ := rv.two
    simp only [setMany] at o1
    refine ⟨v, w, rfl, ?_⟩
    split at o1
    · rename_i env' heq
      split at heq
      · split at heq
        · cases heq
          exact o1.nx s1 (((er.mv sr.sep m1).set r1).set r2)
        · cases heq
      · cases heq
    · exact o1.elim
  | t :: u :: w :: r, rv, o1 =>
    simp only [setMany] at o1
    split at o1
    · rename_i env' heq
      split at heq
      · split at heq <;> cases heq
      · cases heq
    · exact o1.elim
theorem s_if {t : Expr} {a b : List Stmt} {pos : Pos} {u : E} {sa sb : List S} (ht : PT X t (tT X.K at_ W fun env st => evE c u env st)) (ha : PSs X a (tS X.K at_ W fun env st => evSs c sa env st)) (hb : PSs X b (tS X.K at_ W fun env st => evSs c sb env st)) :
    PS X (.If t a b pos) (tS X.K at_ W fun env st => evS c (.ite u sa sb) env st) := by
  refine PS_imp (ps_if ht ha hb) fun D σ H ⟨ρ, env, st, er, sr, o⟩ => ?_
  simp only [evS] at o
  refine ⟨ρ, env, st, er, sr, (OutS.of er sr.sep o).imp fun t ρ1 H1 st1 m1 s1 o1 => ?_⟩
  cases t <;> first | exact o1.elim | skip
  rename_i k
  refine ⟨k, rfl, ?_⟩
  cases k with
  | true => exact ⟨ρ1, env, st1, er.mv sr.sep m1, s1, o1⟩
  | false => exact ⟨ρ1, env, st1, er.mv sr.sep m1, s1, o1⟩
theorem s_while {t : Expr} {b : List Stmt} {pos : Pos} {u : E} {sb : List S} (hp : PassesOwn (model X.prog X.w) X.A X.env X.xe) (ht : PT X t (tT X.K at_ W fun env st => evE c u env st)) (hb : PSs X b (tS X.K at_ W fun env st => evSs c sb env st)) :
    PS X (.While t b [] pos) (tS X.K at_ W fun env st => evS c (.whl u sb) env st) := by
  refine PS_imp (ps_while hp ht hb) fun D σ H ⟨ρ, env, st, er, sr, o⟩ => ?_
  simp only [evS] at o
  refine ⟨fun m σ H => ∃ ρ env st, EnvRep X.K at_ ρ H σ env ∧ StRep X.K at_ ρ H st ∧ OutS X.K at_ ρ H (whlL (fun env st => evE c u env st) (fun env st => evSs c sb env st) m env st) D W, ⟨c.lim, ρ, env, st, er, sr, o⟩, ?_⟩
  rintro m σ H ⟨ρ, env, st, er, sr, o⟩
  cases m with
  | zero => exact o.elim
  | succ n =>
    simp only [whlL] at o
    refine ⟨ρ, env, st, er, sr, (OutS.of er sr.sep o).imp fun t ρ1 H1 st1 m1 s1 o1 => ?_⟩
    cases t <;> first | exact o1.elim | skip
    rename_i k
    refine ⟨k, rfl, ?_⟩
    have er1 := er.mv sr.sep m1
    cases k with
    | false => exact o1.nx s1 er1
    | true =>
      refine (if_pos rfl).mpr ?_
      refine ⟨fun σ' H' => ∃ ρ env st, EnvRep X.K at_ ρ H' σ' env ∧ StRep X.K at_ ρ H' st ∧ OutS X.K at_ ρ H' (whlL (fun env st => evE c u env st) (fun env st => evSs c sb env st) n env st) D W, fun σ' H' h => ⟨n, Nat.lt_succ_self n, h⟩, ρ1, env, st1, er1, s1, ?_⟩
      simp only at o1
      show OutS X.K at_ ρ1 H1 (evSs c sb env st1) _ W
      cases e : evSs c sb env st1 with
      | ok f env' st' =>
        rw [e] at o1
        cases f with
        | nx => exact fun ρ' H' σ' m s' e' => ⟨ρ', env', st', e', s', OutS.mv m o1⟩
        | ct => exact fun ρ' H' σ' m s' e' => ⟨ρ', env', st', e', s', OutS.mv m o1⟩
        | bk => exact o1
        | rt t => exact o1
      | exc x env' st' => rw [e] at o1; exact o1
      | no => rw [e] at o1; exact o1
theorem s_for {tg iter : Expr} {b : List Stmt} {pos : Pos} {g : G} {k : Ik} {its : List E} {sb : List S} (hp : PassesOwn (model X.prog X.w) X.A X.env X.xe) (hc : X.calm = true) (hi : PI X tg iter (iW X.K at_ W g k fun env st => evEs c its env st)) (hg : PG X tg (tG X.K at_ g)) (hb : PSs X b (tS X.K at_ W fun env st => evSs c sb env st))
    (hs : ∀ x, foldedSetIterable iter X.env x = pure x) : PS X (.For tg iter b [] pos) (tS X.K at_ W fun env st => evS c (.fr g k its sb) env st) := by
  refine PS_imp (ps_for hp hc hi hg hb hs) fun D σ H ⟨ρ, env, st, er, sr, o⟩ => ?_
  simp only [evS] at o
  refine ⟨ρ, env, st, er, sr, (OutS.of er sr.sep o).imp fun vs ρ1 H1 st1 m1 s1 o1 => ?_⟩
  cases hw : walkOf st1 k vs with
  | none => simp only [hw] at o1; exact o1.elim
  | some w =>
    simp only [hw] at o1
    refine ⟨w, rfl, fun J link => ?_⟩
    have er1 := er.mv sr.sep m1
    refine ⟨fun i m σ' H' => m = w.items.length - i ∧ i ≤ w.items.length ∧ ∃ ρ' env' st', Mv ρ1 H1 ρ' H' ∧ EnvRep X.K at_ ρ' H' σ' env' ∧ StRep X.K at_ ρ' H' st' ∧ OutS X.K at_ ρ' H' (forL (fun env st => evSs c sb env st) g w k (w.items.drop i) env' st') D W,
      ⟨w.items.length, by simp, Nat.zero_le _, ρ1, env, st1, Mv.refl, er1, s1, o1⟩, ?_⟩
    rintro i m σ' H' ⟨rfl, hi', ρ', env', st', m', er', s', oo⟩
    by_cases hlt : i < w.items.length
    · rw [List.drop_eq_getElem_cons hlt] at oo
      simp only [forL] at oo
      by_cases hsm : w.same k st' = true
      · simp only [hsm, if_true] at oo
        cases hsg : setG g w.items[i] env' with
        | none => simp only [hsg] at oo; exact oo.elim
        | some env2 =>
          simp only [hsg] at oo
          obtain ⟨go, yl⟩ := (link _ _ _ m'.w s' hsm i).1 _ (List.getElem?_eq_getElem hlt)
          refine .inr ⟨go, fun σ' H' => w.items.length - (i + 1) = w.items.length - (i + 1) ∧ i + 1 ≤ w.items.length ∧ ∃ ρ' env' st', Mv ρ1 H1 ρ' H' ∧ EnvRep X.K at_ ρ' H' σ' env' ∧ StRep X.K at_ ρ' H' st' ∧ OutS X.K at_ ρ' H' (forL (fun env st => evSs c sb env st) g w k (w.items.drop (i + 1)) env' st') D W,
            fun σ'' H'' h => ⟨_, by omega, h⟩, fun v H'' y => ?_⟩
          obtain ⟨m2, s2, rg⟩ := yl v H'' y
          refine ⟨ρ', env', _, env2, er'.mv s'.sep m2, rg, hsg, fun σ2 hs2 er3 => ⟨ρ', env2, st', er3, s2, ?_⟩⟩
          show OutS X.K at_ ρ' H'' (evSs c sb env2 st') _ W
          cases e : evSs c sb env2 st' with
          | ok f env3 st3 =>
            simp only [e] at oo
            cases f with
            | nx => exact fun ρ3 H3 σ3 m3 s3 e3 => ⟨rfl, hlt, ρ3, env3, st3, (m'.trans m2).trans m3, e3, s3, OutS.mv (m2.trans m3) oo⟩
            | ct => exact fun ρ3 H3 σ3 m3 s3 e3 => ⟨rfl, hlt, ρ3, env3, st3, (m'.trans m2).trans m3, e3, s3, OutS.mv (m2.trans m3) oo⟩
            | bk => exact fun ρ3 H3 σ3 m3 s3 e3 => oo ρ3 H3 σ3 (m2.trans m3) s3 e3
            | rt t => exact fun ρ3 H3 σ3 m3 s3 e3 => oo ρ3 H3 σ3 (m2.trans m3) s3 e3
          | exc x env3 st3 => simp only [e] at oo; exact OutS.mv m2 oo
          | no => simp only [e] at oo; exact oo.elim
      · simp only [hsm, if_false] at oo
        exact oo.elim
    · have ei : i = w.items.length := by omega
      subst ei
      rw [List.drop_length] at oo
      simp only [forL] at oo
      by_cases hsm : w.same k st' = true
      · simp only [hsm, if_true] at oo
        exact .inl ⟨(link _ _ _ m'.w s' hsm _).2 (Nat.le_refl _), oo.nx s' er'⟩
      · simp only [hsm, if_false] at oo
        exact oo.elim
end
end Lw
set_option Elab.async false
set_option linter.all false
set_option maxRecDepth 100000
/-! Lw16: op=, stores. -/
namespace Lw
open PySem PySem.Spec L2 PyProof.Rows
section
variable {X : Cx} {at_ : At} {W : WX} {c : Cf}
theorem op_aug : ∀ o : Bop, OpR X (inplaceOp (bopOf o)) (rT2 X.K at_ (augE o)) := by
  intro op pins s σ H x y v u Q I rx ry h
  obtain ⟨ρ, st, t, k, Z, sr, r1, r2, o⟩ := h
  unfold augE at o
  split at o
  · cases r1; cases r2
    exact iop_add pins s σ H _ _ v u Q I rx ry ⟨_, _, rfl, rfl, fin_val o sr rfl⟩
  · cases r1; cases r2
    exact iop_sub pins s σ H _ _ v u Q I rx ry ⟨_, _, rfl, rfl, fin_val o sr rfl⟩
  · cases r1; cases r2
    obtain ⟨hb, o⟩ := o.iteN
    exact iop_mul pins s σ H _ _ v u Q I rx ry ⟨_, _, rfl, rfl, hb, fin_val o sr rfl⟩
  · cases r1; cases r2
    obtain ⟨hb, o⟩ := o.iteN
    exact iop_add_str pins s σ H _ _ v u Q I rx ry ⟨_, _, rfl, rfl, by rw [← big_line]; exact hb, fin_val o sr rfl⟩
  · rename_i l
    obtain ⟨a, rfl, hl⟩ := r1
    split at o
    · rename_i zs ws e e2
      obtain ⟨hz, o⟩ := o.iteN
      obtain ⟨vs, h1, h2⟩ := sr.cell l a _ hl e
      obtain ⟨b, ys, rfl, h3, h4⟩ := rep_lst sr r2 e2
      refine iop_ext pins s σ H _ _ v u Q I rx ry ⟨a, b, vs, ys, rfl, rfl, h1, h3, by rw [← h2.length, ← h4.length, ← big_line]; exact hz, ?_⟩
      exact fin_turn o sr hl ⟨_, upd_same, RepL.mv sr.sep (Mv.turn (List.mem_of_getElem? hl) _) _ _ (h2.append h4)⟩ ⟨a, rfl, hl⟩
    · exact o.elim
  · exact o.elim
theorem s_aug {i : Nat} {x : Str} {e : Expr} {op : Bop} {pos pos' : Pos} {u : E} (hN : X.N.Nodup) (hi : X.N[i]? = some x) (hx : Loc X.env.scope x) (hf : X.fn x = true ∨ X.env.scope.names.lookup x = some .local) (he : PE X e (tE X.K at_ W fun env st => evE c u env st)) :
    PS X (.AugAssign (.Name x pos') (bopOf op) e pos) (tS X.K at_ W fun env st => evS c (.aug i op u) env st) := by
  refine PS_imp (ps_aug hN hi hx he (ti := rT2 X.K at_ (augE op)) (op_aug op) hf) fun D σ H ⟨ρ, env, st, er, sr, o⟩ => ?_
  simp only [evS] at o
  cases ei : env[i]? with
  | none => simp only [ei] at o; exact o.elim
  | some y =>
    cases y with
    | none => simp only [ei] at o; exact o.elim
    | some t =>
      simp only [ei] at o
      obtain ⟨v, hv, rv⟩ := er.val i t ei
      refine ⟨v, hv, ?_⟩
      refine tS_then (f := fun y env st => SRes.of (augE op t y st) env fun z st => .ok .nx (env.set i (some z)) st) er sr o fun k ρ1 H1 st1 w er1 s1 m1 r1 o1 => ?_
      refine ⟨ρ1, st1, t, k, _, s1, Rep.mv sr.sep m1 _ _ rv, r1, (OutS.of er1 s1.sep o1).imp fun z ρ2 H2 st2 m2 s2 o2 v2 r2 => ?_⟩
      exact o2.nx s2 ((er1.mv s1.sep m2).set r2)
/-! ### o[i] = v -/
def rSet (K : PySem.W.Frag) (at_ : At) : TSet := fun o i v H Q => ∃ (ρ : Pl) (st st' : Store) (t k u : T), StRep K at_ ρ H st ∧ Rep K at_ ρ H t o ∧ Rep K at_ ρ H k i ∧ Rep K at_ ρ H u v ∧ setiE t k u st = some st' ∧ ∀ H', Mv ρ H ρ H' → StRep K at_ ρ H' st' → Q H'
theorem set_all (hu : X.A.units + 130 < cLine) : PSet X (rSet X.K at_) := by
  intro pins s σ H o i v
        ov iv u Q I ro ri rv h
  obtain ⟨ρ, st, st', t, k, w, sr, r1, r2, r3, e, q⟩ := h
  cases t with
  | loc l =>
    obtain ⟨a, rfl, hl⟩ := r1
    have hm := List.mem_of_getElem? hl
    simp only [setiE] at e
    split at e
    · rename_i ts j el
      split at e
      · rename_i n en
        cases e
        cases r2
        obtain ⟨vs, h1, h2⟩ := sr.cell l a _ hl el
        refine set_list pins s σ H _ _ v ov iv u Q I ro ri rv ⟨a, vs, j, n, rfl, rfl, h1, by rw [← h2.length]; exact en, ?_⟩
        exact q _ (Mv.turn hm _) (sr.turn hl ⟨_, upd_same, RepL.mv sr.sep (Mv.turn hm _) _ _ (h2.set n r3)⟩)
      · cases e
    · rename_i kvs el
      split at e
      · rename_i hk
        cases e
        obtain ⟨ks, h1, h2⟩ := sr.cell l a _ hl el
        obtain ⟨q', kq, rfl⟩ := keyIs_of hk.1 r2
        refine set_dict (by omega) pins s σ H _ _ v ov iv u Q I ro ri rv ⟨a, _, rfl, .k h1 (by rw [← repP_length h2, ← big_line]; exact hk.2), ?_⟩
        exact q _ (Mv.turn hm _) (sr.turn hl ⟨_, upd_same, RepP.mv sr.sep (Mv.turn hm _) _ _ (repP_put h2 kq r3)⟩)
      · cases e
    · cases e
  | _ => cases e
/-- not a slice -/
def nsl : Expr → Bool
  | .Slice .. => false
  | _ => true
theorem s_seti (hu : X.A.units + 130 < cLine) {o i e : Expr} {tpos pos : Pos} {u v w : E} (ho : PE X o (tE X.K at_ W fun env st => evE c u env st)) (hi : PE X i (tE X.K at_ W fun env st => evE c v env st)) (he : PE X e (tE X.K at_ W fun env st => evE c w env st)) (hn : nsl i = true)
    (hs : swapsWithSole [.Subscript o i tpos] e pos.line X.env = pure false) (hw : swappedStores [.Subscript o i tpos] e X.env = pure none) (h1 : (assignEach [.Subscript o i tpos] X.env).map (·.2) = [assign (.Subscript o i tpos) X.env]) :
    PS X (.Assign [.Subscript o i tpos] e pos) (tS X.K at_ W fun env st => evS c (.seti u v w) env st) := by
  have ha : ∀ v, assign (.Subscript o i tpos) X.env v = (do
      let ov ← holding
            [v] (eval o X.env)
      let iv ← holding
            [v, ov] (eval i X.env)
      standAt tpos
      holding [v, ov, iv]
            (setItem ov iv v)
      release [v, ov, iv] []) := by
    intro v
    cases i <;> first | rfl | cases hn
  refine PS_imp (ps_asg he (pg_sub ho hi (set_all (at_ := at_) hu) ha) hs hw h1) fun D σ H ⟨ρ, env, st, er, sr, oo⟩ => ?_
  simp only [evS] at oo
  refine tS_then (f := fun z env st => SRes.of (evE c u env st) env fun o st => SRes.of (evE c v env st) env fun i st => match setiE o i z st with | some st => .ok .nx env st | none => .no) er sr oo fun t ρ1 H1 st1 x er1 s1 m1 r1 o1 => ?_
  refine tS_then (f := fun o env st => SRes.of (evE c v env st) env fun i st => match setiE o i t st with | some st => .ok .nx env st | none => .no) er1 s1 o1 fun t2 ρ2 H2 st2 x2 er2 s2 m2 r2 o2 => ?_
  refine tS_then (f := fun i env st => match setiE t2 i t st with | some st => .ok .nx env st | none => .no) er2 s2 o2 fun t3 ρ3 H3 st3 x3 er3 s3 m3 r3 o3 => ?_
  cases es : setiE t2 t3 t st3 with
  | none => simp only [es] at o3; exact o3.elim
  | some st' =>
    simp only [es] at o3
    exact ⟨ρ3, st3, st', t2, t3, t, s3, Rep.mv s2.sep m3 _ _ r2, r3, Rep.mv s2.sep m3 _ _ (Rep.mv s1.sep m2 _ _ r1), es, fun H' m s' => o3 ρ3 H' σ m s' (er3.mv s3.sep m)⟩
/-! ### o[i] op= v -/
def rGet (K : PySem.W.Frag) (at_ : At) : V → V → Hp → VK → Prop := fun o i H Q => ∃ (ρ : Pl) (st : Store) (t k r : T), StRep K at_ ρ H st ∧ Rep K at_ ρ H t o ∧ Rep K at_ ρ H k i ∧ getiE t k st = some r ∧ ∀ v, Rep K at_ ρ H r v → Q v H
theorem get_all (hu : X.A.units + 130 < cLine) : PGet X (rGet X.K at_) := by
  intro pins s σ H o i ov iv Q I ro ri h
  obtain ⟨ρ, st, t, k, r, sr, r1, r2, e, q⟩ := h
  cases t with
  | loc l =>
    obtain ⟨a, rfl, hl⟩ := r1
    simp only [getiE] at e
    split at e
    · rename_i ts el
      split at e
      · rename_i j
        split at e
        · rename_i h0
          cases r2
          obtain ⟨tk, rfl⟩ := ri
          cases ro
          obtain ⟨vs, h1, h2⟩ := sr.cell l a _ hl el
          obtain ⟨w, hw, rw'⟩ := h2.getT e
          obtain ⟨its, rv, pl, hz⟩ := I.list (.of h1)
          obtain ⟨u, hu', ru⟩ := rv.get hw
          obtain ⟨hlt, _⟩ := List.getElem?_eq_some_iff.mp hw
          have hs := sizeLine_eq
          exact wpAny_getItem_list pl.isList h0 (by omega) (by simpa using hu') ⟨w, H, I, ru, q w rw'⟩
        · cases e
      · cases e
    · rename_i kvs el
      split at e
      · rename_i hk
        obtain ⟨ks, h1, h2⟩ := sr.cell l a _ hl el
        obtain ⟨q', kq, rfl⟩ := keyIs_of hk r2
        have g := repP_get h2 kq
        rw [e] at g
        obtain ⟨z, hz, rz⟩ := g
        cases ro
        exact d_getItem (by omega) I (.inl ⟨ks, q', .inl h1, rfl, hz.symm⟩) ri fun w' s' I' rw' => ⟨z, H, I', rw', q z rz⟩
      · cases e
    · cases e
  | _ => cases e
theorem s_augi (hu : X.A.units + 130 < cLine) {o i e : Expr} {tpos pos : Pos} {op : Bop} {u v w : E} (ho : PE X o (tE X.K at_ W fun env st => evE c u env st)) (hi : PE X i (tE X.K at_ W fun env st => evE c v env st)) (he : PE X e (tE X.K at_ W fun env st => evE c w env st)) (hn : nsl i = true) :
    PS X (.AugAssign (.Subscript o i tpos) (bopOf op) e pos) (tS X.K at_ W fun env st => evS c (.augi u v op w) env st) := by
  have ha : ∀ ov iv new, augStore i ov iv new = (do holding [new, ov, iv] (setItem ov iv new); release [new, ov, iv] []; pure .next) := by
    intro ov iv new
    cases i <;> first | rfl | cases hn
  refine PS_imp (ps_augS ho hi (get_all (at_ := at_) hu) he (tip := rT2 X.K at_ (augE op)) (op_aug op) (set_all (at_ := at_) hu) ha) fun D σ H ⟨ρ, env, st, er, sr, oo⟩ => ?_
  simp only [evS] at oo
  refine tS_then (f := fun o env st => SRes.of (evE c v env st) env fun i st => match getiE o i st with
    | some x => SRes.of (evE c w env st) env fun y st => SRes.of (augE op x y st) env fun z st => match setiE o i z st with
      | some st => .ok .nx env st
      | none => .no
    | none => .no) er sr oo fun t ρ1 H1 st1 x er1 s1 m1 r1 o1 => ?_
  refine tS_then (f := fun i env st => match getiE t i st with
    | some x => SRes.of (evE c w env st) env fun y st => SRes.of (augE op x y st) env fun z st => match setiE t i z st with
      | some st => .ok .nx env st
      | none => .no
    | none => .no) er1 s1 o1 fun t2 ρ2 H2 st2 x2 er2 s2 m2 r2 o2 => ?_
  have r1' := Rep.mv s1.sep m2 _ _ r1
  cases eg : getiE t t2 st2 with
  | none => simp only [eg] at o2; exact o2.elim
  | some y0 =>
    simp only [eg] at o2
    refine ⟨ρ2, st2, t, t2, y0, s2, r1', r2, eg, fun v0 r0 => ?_⟩
    refine tS_then (f := fun y env st => SRes.of (augE op y0 y st) env fun z st => match setiE t t2 z st with
      | some st => .ok .nx env st
      | none => .no) er2 s2 o2 fun t3 ρ3 H3 st3 x3 er3 s3 m3 r3 o3 => ?_
    refine ⟨ρ3, st3, y0, t3, _, s3, Rep.mv s2.sep m3 _ _ r0, r3, (OutS.of er3 s3.sep o3).imp fun z ρ4 H4 st4 m4 s4 o4 v4 r4 => ?_⟩
    cases es : setiE t t2 z st4 with
    | none => simp only [es] at o4; exact o4.elim
    | some st' =>
      simp only [es] at o4
      exact ⟨ρ4, st4, st', t, t2, z, s4, Rep.mv s3.sep m4 _ _ (Rep.mv s2.sep m3 _ _ r1'), Rep.mv s3.sep m4 _ _ (Rep.mv s2.sep m3 _ _ r2), r4, es, fun H' m s' => o4 ρ4 H' σ m s' ((er3.mv s3.sep m4).mv s4.sep m)⟩
end
end Lw
set_option Elab.async false
set_option linter.all false
set_option maxRecDepth 100000
/-! Lw17: defs and their calls. -/
namespace Lw
open PySem PySem.Spec L2 PyProof.Rows

structure FnG (P : Program) (w : World) (K : PySem.W.Frag) (mg : Str → Option Value) (base : Heap) (k : Nat) (f : Addr) (fd : FuncData) (ps : List Str) (sp : Sp) : Prop where
  len : ∀ vs H Q E, sp vs H
        Q E → vs.length = ps.length
  run : ∀ (A : Around) (outer : List PySem.Env) (s : Shared) (H : Hp) (args : Args) (us : List Value) (vs : List V) (Q : VK) (E : XK), A.guards = some [] → Room k A → Env0 P w K mg base A outer s H → BindsTo s fd args (ps.zip us) → Vals vs us → sp vs H Q E →
    codeAny (model P w) A (.call (.ref f) args) (CR (L2.CX P w) outer P w H s Q E) s
section
variable {X : Cx} {k : Nat} {f : Addr} {fd : FuncData} {ps : List Str} {sp : Sp} {x : Str} {p pos : Pos} {e : Expr} {es : List Expr} {t : TA} {W : WX}
theorem run_fnG {pins : List (Addr × Obj)} {σ : L2.St} {H : Hp} {s : Shared} {Q : VK} {us : List Value} {vs : List V} (F : FnG X.prog X.w X.K X.mg X.base k f fd ps sp) (hg : X.A.guards = some []) (hr : Room k X.A) (hb : Binds X.K fd ps []) (tk : Takes X W)
    (I : Inv X pins σ H s) (r : Vals vs us) (h : sp vs H Q (WE W σ)) : wpAny (model X.prog X.w) X.A (call (.ref f) us) (EP X pins σ Q) X.xe s := by
  have hl : us.length
        = ps.length := by rw [← r.length]; exact F.len _ _ _ _ h
  have b := hb s us I.kIn
        (by rw [List.append_nil]; exact hl)
  rw [List.append_nil] at b
  refine wpAny_call (codeAny_mono (F.run X.A X.stack s H ⟨us, []⟩ us vs Q (WE W σ) hg hr I.env0 b r h) fun r s' hq => ?_)
  cases r with
  | error e => exact passAt tk σ pins H s e s' I hq
  | ok fl =>
    cases fl with
    | ret u => exact I.after hq
    | next => exact False.elim hq
    | brk => exact False.elim hq
    | cont => exact False.elim hq
theorem pe_callG (F : FnG X.prog X.w X.K X.mg X.base k f fd ps sp) (hgd : X.A.guards = some []) (hr : Room k X.A) (hg : Gl X x) (hm : X.mg x = some (.ref f)) (hk : PySem.W.keepIn X.K (.ref f) = true) (hb : Binds X.K fd ps []) (tk : Takes X W)
    (ha : PA X (e :: es) t) (hdb : (x == ("__debug__" : Str)) = false) (he : starEach (e :: es) X.env = (false, eval e X.env) :: starEach es X.env) (hpl : (backTo pos (starEach es X.env)).any (·.1) = false) :
    PE X (.Call (.Name x p) (e :: es) [] pos) (tCallS sp (WE W) t) := by
  refine
        ⟨fun pins s σ H Q I h => ?_⟩
  refine wpAny_Call_Name_kw
        (ld_glob I hg hm ?_ hdb)
  refine PySem.W.callWith_K (h₀ := X.base) I.ok.mod.kin hk
        (thn (ha.run pos pins s σ H _ I h) fun us s1 ⟨vs, H1, I1, r, q⟩ => ⟨I1.kIn, ?_⟩) he hpl
  exact run_fnG F hgd hr hb tk I1 r q
theorem pe_callG0 (F : FnG X.prog X.w X.K X.mg X.base k f fd ps sp) (hgd : X.A.guards = some []) (hr : Room k X.A) (hg : Gl X x) (hm : X.mg x = some (.ref f)) (hk : PySem.W.keepIn X.K (.ref f) = true) (hb : Binds X.K fd ps []) (tk : Takes X W)
    (hdb : (x == ("__debug__" : Str)) = false) : PE X (.Call (.Name x p) [] [] pos) (tCallS sp (WE W) tNil) := by
  refine
        ⟨fun pins s σ H Q I h => ?_⟩
  refine wpAny_Call_Name_kw
        (ld_glob I hg hm ?_ hdb)
  exact PySem.W.callWith_K0 I.kIn hk (run_fnG (us := []) F hgd hr hb tk I .nil h)
end

theorem fnG_of {P : Program} {w : World} {K : PySem.W.Frag} {mg : Str → Option Value} {base : Heap} {k : Nat} {f : Addr} {x qual : Str} {st : Stmt} {fd : FuncData} {N ps : List Str} {sp : Sp} (F : Fun K x qual st f fd) (S : FnScope N ps (defScope st))
    (len : ∀ vs H Q E, sp vs H
          Q E → vs.length = ps.length)
    (hbody : ∀ (cdv : Value) (A : Around) (outer : List PySem.Env) (s : Shared) (H : Hp) (vs : List V) (Q : VK) (E : XK), fd.code = cdv → A.guards = some [] → Room k (A.deeper (envOfC qual (defScope st) s.heap.objs.size f cdv)) → sp vs H Q E →
      ∃ t, PSs (cxOf (L2.CX P w) P w K mg base N qual (defScope st) f cdv A outer s H E) (defBody st) t ∧ t { nx := fun _ H' => Q .non H', rt := Q } (start N vs) H) :
    FnG P w K mg base (k + 1) f fd ps sp := by
  obtain
        ⟨oc, od, kV, doc, pm, an, cdv, ct, osl, rfl, lk, hcd⟩ := F.ex
  refine ⟨len, fun A outer s H args us vs Q E hgd hr e0 hb r hsp => ?_⟩
  have hl := len _ _ _ _ hsp
  have KX : K.In s.heap := e0.mod.kin.keeps
        fun b o e => (e0.bs b o e).1
  have lim : s.heap.NoLimit :=
        e0.mod.nolimit.keeps fun b o e => (e0.bs b o e).1
  have hkind : ∀ y ∈ ps.zip us, (defScope st).names.lookup y.1 = some .local ∨ ((defScope st).names.lookup y.1 = some .cell ∧ ((cellsFrom (s.heap.objs.size + 1) (defScope st).names []).lookup y.1).isSome = true) := fun ⟨n, v⟩ hy => by
    rcases S.par n
          (List.of_mem_zip hy).1 with q | q
    · exact .inl q
    · exact .inr
            ⟨q, PySem.W.cellsFrom_some _ _ _ (.inl q)⟩
  refine codeAny_call_function hr.depth (KX _ _ lk) rfl
        S.co S.gen rfl (PySem.W.codeRec_of KX hcd) (hb _ _ _ _ ?_)
  refine wpAny_newFunctionEnv_cells
        S.kind hkind fun env he s1 x => ?_
  subst he
  refine
        ⟨lim.keeps x.toInCall.keep, codeAny_func ?_⟩
  obtain ⟨t, ht, hq⟩ := hbody cdv A outer s H vs Q E rfl hgd (hr.deeper _) hsp
  have I : Inv (cxOf (L2.CX P w) P w K mg base N qual (defScope st) f cdv A outer s H E) [] (start N vs) H s1 := inv_start S hr.hd e0 hl r x
  refine wpAny_mono (ht.run [] s1 (start N vs) H _ I hq)
        (fun fl s' hs => ?_) fun e s' hs => hs
  have fin : ∀ {σ' : L2.St} {H' : Hp} {v : V} {u : Value}, Inv (cxOf (L2.CX P w) P w K mg base N qual (defScope st) f cdv A outer s H E) [] σ' H' s' → RelV v u → Q v H' → CE outer P w H s Q u s' :=
    fun {σ' H' v u} J rv q
          => ⟨v, H', J.os, J.bare, J.base, J.hok, rv, q⟩
  cases fl with
  | ret u =>
    obtain
          ⟨v, σ', H', J, rv, q⟩ := hs
    exact fin J rv q
  | next =>
    obtain ⟨σ', H', J, q⟩ := hs
    exact fin (v := V.non)
          (u := Value.none) J rfl q
  | brk =>
    obtain ⟨_, _, _, q⟩ := hs
    exact False.elim q
  | cont =>
    obtain ⟨_, _, _, q⟩ := hs
    exact False.elim q

/-! ### what a def of the program promises -/
/-- by the evaluator -/
def spF (K : PySem.W.Frag) (at_ : At) (n : Nat) (g : List T → Store → Res T) : Sp := fun vs H Q E => vs.length = n ∧ ∃ ρ st ts, StRep K at_ ρ H st ∧ RepL K at_ ρ H ts vs ∧ Out K at_ ρ H (g ts st) (Got K at_ Q) E
theorem envRep_start {K : PySem.W.Frag} {at_ : At} {ρ : Pl} {H : Hp} {N : List Str} {d : Fd} {ts : List T} {vs : List V} (r : RepL K at_ ρ H ts vs) (hsl : d.sl = N.length) (hle : d.ps ≤ N.length) (hps : ts.length = d.ps) : EnvRep K at_ ρ H (L2.start N vs) (enter d ts) := by
  have hl := r.length
  refine ⟨by simp [enter, L2.start, hsl]; omega, fun i t e => ?_⟩
  unfold enter at e
  by_cases hi : i < ts.length
  · rw [List.getElem?_append_left (by simpa using hi), List.getElem?_map] at e
    obtain ⟨t', ht, et⟩ := Option.map_eq_some_iff.mp e
    cases et
    obtain ⟨v, hv, rv⟩ := r.getT ht
    refine ⟨v, ?_, rv⟩
    unfold L2.start
    rw [List.getElem?_append_left (by simp; omega), List.getElem?_map, hv]
    rfl
  · rw [List.getElem?_append_right (by simpa using Nat.le_of_not_lt hi), List.getElem?_replicate] at e
    split at e <;> cases e

/-! ### calls -/
section
variable {X : Cx} {at_ : At} {W : WX} {c : Cf}
theorem Sep.tr {K : PySem.W.Frag} {ρ : Pl} {H : Hp} {st : Store} (s : StRep K at_ ρ H st) {a : Addr} (h : a ∈ ρ) : Tr H a := s.sep a h
/-- the callee sees no place: those at h are out of its sight -/
theorem StRep.away {K : PySem.W.Frag} {ρ : Pl} {H : Hp} {st : Store} (s : StRep K at_ ρ H st) {h : List Addr} (hh : ∀ a ∈ h, a ∈ ρ) : StRep K at_ ⟨[], h⟩ H [] :=
  ⟨rfl, List.nodup_nil, fun a _ z => (nomatch z), fun a ha => s.sep a (hh a ha), s.tab, fun l a c h => by simp at h⟩
mutual
theorem rep_sight {K : PySem.W.Frag} {ρ ρ' : Pl} {H : Hp} (h : ∀ a, a ∉ ρ → a ∉ ρ') : ∀ {t : T} {v : V}, noLoc t = true → Rep K at_ ρ H t v → Rep K at_ ρ' H t v
  | .non, _, _, r => r
  | .bl _, _, _, r => r
  | .int _, _, _, r => r
  | .str _, _, _, r => r
  | .fn _, _, _, r => r
  | .scr _, _, _, r => r
  | .tup ts, _, n, r => by
    obtain ⟨a, vs, e, h1, h2⟩ := r
    exact ⟨a, vs, e, h1, repL_sight h n h2⟩
  | .lst ts, _, n, r => by
    obtain ⟨a, vs, e, h1, h2⟩ := r
    exact ⟨a, vs, e, ⟨h1.1, h _ h1.2⟩, repL_sight h n h2⟩
  | .dct ts, _, n, r => by
    obtain ⟨a, vs, e, h1, h2⟩ := r
    exact ⟨a, vs, e, ⟨h1.1, h _ h1.2⟩, repP_sight h n h2⟩
  | .loc _, _, n, _ => by cases n
  | .act, _, n, _ => by cases n
theorem repL_sight {K : PySem.W.Frag} {ρ ρ' : Pl} {H : Hp} (h : ∀ a, a ∉ ρ → a ∉ ρ') : ∀ {t : List T} {v : List V}, noLocL t = true → RepL K at_ ρ H t v → RepL K at_ ρ' H t v
  | [], _, _, r => r
  | t :: ts, _, n, r => by
    obtain ⟨v, s, e, h1, h2⟩ := r
    simp only [noLocL, Bool.and_eq_true] at n
    exact ⟨v, s, e, rep_sight h n.1 h1, repL_sight h n.2 h2⟩
theorem repP_sight {K : PySem.W.Frag} {ρ ρ' : Pl} {H : Hp} (h : ∀ a, a ∉ ρ → a ∉ ρ') : ∀ {t : List (T × T)} {v : List (Key × V)}, noLocP t = true → RepP K at_ ρ H t v → RepP K at_ ρ' H t v
  | [], _, _, r => r
  | (k, t) :: ts, _, n, r => by
    obtain ⟨q, v, s, e, h0, h1, h2⟩ := r
    simp only [noLocP, Bool.and_eq_true] at n
    exact ⟨q, v, s, e, h0, rep_sight h n.1.2 h1, repP_sight h n.2 h2⟩
end
mutual
theorem res_rep {K : PySem.W.Frag} {ρ : Pl} {H : Hp} {st : Store} (s : StRep K at_ ρ H st) : ∀ {t u : T} {v : V}, res st t = some u → Rep K at_ ρ H t v → noLoc u = true ∧ Rep K at_ ⟨[], ρ.hd⟩ H u v
  | .non, _, _, e, r => by cases e; exact ⟨rfl, r⟩
  | .bl _, _, _, e, r => by cases e; exact ⟨rfl, r⟩
  | .int _, _, _, e, r => by cases e; exact ⟨rfl, r⟩
  | .str _, _, _, e, r => by cases e; exact ⟨rfl, r⟩
  | .fn _, _, _, e, r => by cases e; exact ⟨rfl, r⟩
  | .scr _, _, _, e, r => by cases e; exact ⟨rfl, r⟩
  | .act, _, _, e, _ => by cases e
  | .tup ts, _, _, e, r => by
    obtain ⟨us, hu, rfl⟩ := Option.map_eq_some_iff.mp e
    obtain ⟨a, vs, e, h1, h2⟩ := r
    obtain ⟨n, q⟩ := resL_rep s hu h2
    exact ⟨n, a, vs, e, h1, q⟩
  | .lst ts, _, _, e, r => by
    obtain ⟨us, hu, rfl⟩ := Option.map_eq_some_iff.mp e
    obtain ⟨a, vs, e, h1, h2⟩ := r
    obtain ⟨n, q⟩ := resL_rep s hu h2
    exact ⟨n, a, vs, e, ⟨h1.1, fun z => h1.2 (z.elim (fun z => (nomatch z)) .inr)⟩, q⟩
  | .dct ts, _, _, e, r => by
    simp only [res] at e
    split at e
    · rename_i n
      cases e
      refine ⟨n, ?_⟩
      exact rep_sight (ρ := ρ) (ρ' := ⟨[], ρ.hd⟩) (fun a h z => h (z.elim (fun z => (nomatch z)) .inr)) (t := .dct ts) n r
    · cases e
  | .loc l, _, _, e, r => by
    obtain ⟨a, rfl, hl⟩ := r
    have ha : a ∉ (⟨[], ρ.hd⟩ : Pl) := fun z => z.elim (fun z => (nomatch z)) fun z => s.dj a z (List.mem_of_getElem? hl)
    have hi : ∀ b, b ∉ ρ → b ∉ (⟨[], ρ.hd⟩ : Pl) := fun b h z => h (z.elim (fun z => (nomatch z)) .inr)
    simp only [res] at e
    split at e
    · rename_i us hs
      split at e
      · rename_i n
        cases e
        obtain ⟨vs, h1, h2⟩ := s.cell l a _ hl hs
        exact ⟨n, a, vs, rfl, ⟨h1, ha⟩, repL_sight hi n h2⟩
      · cases e
    · rename_i us hs
      split at e
      · rename_i n
        cases e
        obtain ⟨vs, h1, h2⟩ := s.cell l a _ hl hs
        exact ⟨n, a, vs, rfl, ⟨.inl h1, ha⟩, repP_sight hi n h2⟩
      · cases e
    · cases e
theorem resL_rep {K : PySem.W.Frag} {ρ : Pl} {H : Hp} {st : Store} (s : StRep K at_ ρ H st) : ∀ {t u : List T} {v : List V}, resL st t = some u → RepL K at_ ρ H t v → noLocL u = true ∧ RepL K at_ ⟨[], ρ.hd⟩ H u v
  | [], _, _, e, r => by cases e; exact ⟨rfl, r⟩
  | t :: ts, _, _, e, r => by
    obtain ⟨v, s', rfl, h1, h2⟩ := r
    simp only [resL] at e
    split at e
    · rename_i u us e1 e2
      cases e
      obtain ⟨n1, q1⟩ := res_rep s e1 h1
      obtain ⟨n2, q2⟩ := resL_rep s e2 h2
      exact ⟨by simp [noLocL, n1, n2], v, s', rfl, q1, q2⟩
    · cases e
end
mutual
theorem flat_rep {K : PySem.W.Frag} {ρ ρ' : Pl} {H : Hp} : ∀ {t : T} {v : V}, flat t = true → Rep K at_ ρ H t v → Rep K at_ ρ' H t v
  | .non, _, _, r => r
  | .bl _, _, _, r => r
  | .int _, _, _, r => r
  | .str _, _, _, r => r
  | .fn _, _, _, r => r
  | .tup ts, _, n, r => by
    obtain ⟨a, vs, e, h1, h2⟩ := r
    exact ⟨a, vs, e, h1, flatL_rep n h2⟩
  | .scr _, _, n, _ => by cases n
  | .lst _, _, n, _ => by cases n
  | .dct _, _, n, _ => by cases n
  | .loc _, _, n, _ => by cases n
  | .act, _, n, _ => by cases n
theorem flatL_rep {K : PySem.W.Frag} {ρ ρ' : Pl} {H : Hp} : ∀ {t : List T} {v : List V}, flatL t = true → RepL K at_ ρ H t v → RepL K at_ ρ' H t v
  | [], _, _, r => r
  | t :: ts, _, n, r => by
    obtain ⟨v, s, e, h1, h2⟩ := r
    simp only [flatL, Bool.and_eq_true] at n
    exact ⟨v, s, e, flat_rep n.1 h1, flatL_rep n.2 h2⟩
end
/-- a result, seen by the caller -/
theorem Mv.back {p : List Addr} {h : List Addr} {ρ ρ1 : Pl} {H H1 : Hp} (m : Mv ⟨[], h⟩ H ρ1 H1) : Mv ρ H ρ H1 := ⟨⟨[], ρ.add_nil.symm, by simp⟩, fun b o e _ nt => m.exn b o e (by simp) nt⟩
theorem StRep.back {K : PySem.W.Frag} {ρ ρ1 : Pl} {H H1 : Hp} {st : Store} {h : List Addr} (s : StRep K at_ ρ H st) (m : Mv ⟨[], h⟩ H ρ1 H1) (t : LamX.Tabs at_.tb H1) : StRep K at_ ρ H1 st := by
  have k : ∀ b o, H b = some o → (∀ ps, o ≠ .tbl ps) → H1 b = some o := fun b o e n => m.ext b o e (by simp) n
  have mw : Mw ρ H ρ H1 := ⟨fun h => h, fun b o e _ n => k b o e n, fun e hn _ => hn⟩
  refine ⟨s.len, s.nd, s.dj, fun a ha => ?_, t, fun l a c h1 h2 => (s.cell l a c h1 h2).mw s.sep mw fun u e => ?_⟩
  · rcases s.hid a ha with ⟨vs, e⟩ | ⟨vs, e⟩ | ⟨o, vs, e⟩ | ⟨P', w', vs, e⟩
    · exact .inl ⟨vs, k _ _ e (by intro _ z; cases z)⟩
    · exact .inr (.inl ⟨vs, k _ _ e (by intro _ z; cases z)⟩)
    · exact .inr (.inr (.inl ⟨o, vs, k _ _ e (by intro _ z; cases z)⟩))
    · exact .inr (.inr (.inr ⟨P', w', vs, k _ _ e (by intro _ z; cases z)⟩))
  · refine k _ _ e fun ps z => ?_
    subst z
    exact Tr.notbl (s.sep a (.inl (List.mem_of_getElem? h1))) ps e
/-- a call whose callee sees no places -/
theorem Out.iso {K : PySem.W.Frag} {ρ : Pl} {H : Hp} {st : Store} {f : Nat} {ts : List T} {vs : List V} {Q : VK} {Z : Value → Option Addr → Hp → Prop} (s : StRep K at_ ρ H st) (r : RepL K at_ ρ H ts vs) (o : Out K at_ ρ H (callE c f true ts st) (Got K at_ Q) Z) :
    ∃ ρ' st' us, StRep K at_ ρ' H st' ∧ RepL K at_ ρ' H us vs ∧ Out K at_ ρ' H (c.cf f us st') (Got K at_ Q) Z := by
  simp only [callE] at o
  cases e : resL st ts with
  | none => simp only [e] at o; exact o.elim
  | some us =>
    simp only [e] at o
    obtain ⟨nl, rl⟩ := resL_rep s e r
    -- what is out of sight
    have key : ∀ h : List Addr, (∀ a ∈ h, a ∈ ρ) → RepL K at_ ⟨[], h⟩ H us vs → (us = ts → ∀ a, a ∈ ρ → a ∈ h) → ∃ ρ' st' us, StRep K at_ ρ' H st' ∧ RepL K at_ ρ' H us vs ∧ Out K at_ ρ' H (c.cf f us st') (Got K at_ Q) Z := by
      intro h hh rr hall
      refine ⟨⟨[], h⟩, [], us, s.away hh, rr, ?_⟩
      cases e2 : c.cf f us [] with
      | no => simp only [e2] at o; exact o.elim
      | ok v st2 =>
        simp only [e2] at o
        intro ρ1 H1 m1 s1 w rw'
        cases e3 : res st2 v with
        | none => simp only [e3] at o; exact o.elim
        | some u =>
          simp only [e3] at o
          obtain ⟨hc, o⟩ := o.iteN
          obtain ⟨n3, r3⟩ := res_rep s1 e3 rw'
          refine o ρ H1 (Mv.back (p := []) m1) (s.back m1 s1.tab) w ?_
          rcases hc with hc | hc
          · refine rep_sight (fun a hn z => hn (.inr ?_)) n3 r3
            have : ρ1.hd = h := by obtain ⟨m, em, _⟩ := m1.grow; rw [em]; rfl
            rw [this]
            exact hall hc a z
          · exact flat_rep hc r3
      | exc x st2 =>
        simp only [e2] at o
        intro ρ1 H1 cls d m1 s1 rx
        cases e3 : resL st2 x.fs with
        | none => simp only [e3] at o; exact o.elim
        | some fs =>
          simp only [e3] at o
          obtain ⟨hc, o⟩ := o.iteN
          refine o ρ H1 cls d (Mv.back (p := []) m1) (s.back m1 s1.tab) ⟨rx.1, ?_⟩
          rcases rx.2 with q | ⟨dd, xs, ws, h1, h2, h3, h4⟩
          · rw [q] at e3; cases e3; exact .inl rfl
          · obtain ⟨n3, r3⟩ := resL_rep s1 e3 h3
            refine .inr ⟨dd, xs, ws, h1, h2, ?_, h4⟩
            rcases hc with hc | hc
            · refine repL_sight (fun a hn z => hn (.inr ?_)) n3 r3
              have : ρ1.hd = h := by obtain ⟨m, em, _⟩ := m1.grow; rw [em]; rfl
              rw [this]
              exact hall hc a z
            · exact flatL_rep hc r3
    by_cases hu : us = ts
    · refine key (ρ.pl ++ ρ.hd) (fun a ha => (List.mem_append.mp ha)) ?_ fun _ a ha => List.mem_append.mpr ha
      subst hu
      exact repL_sight (ρ := ρ) (ρ' := ⟨[], ρ.pl ++ ρ.hd⟩) (fun a hn z => z.elim (fun z => (nomatch z)) fun z => hn (List.mem_append.mp z)) nl r
    · exact key ρ.hd (fun a ha => .inr ha) rl fun z => absurd z hu
theorem e_call {k : Nat} {f n : Nat} {fd : FuncData} {ps : List Str} {x : Str} {p pos : Pos} {e : Expr} {es : List Expr} {us : List E} {iso : Bool} (F : FnG X.prog X.w X.K X.mg X.base k (at_.fa f) fd ps (spF X.K at_ n (c.cf f))) (hgd : X.A.guards = some []) (hr : Room k X.A) (hg : Gl X x) (hm : X.mg x = some (.ref (at_.fa f)))
    (hk : PySem.W.keepIn X.K (.ref (at_.fa f)) = true) (hb : Binds X.K fd ps []) (tk : Takes X W) (ha : PA X (e :: es) (tEs X.K at_ W fun env st => evEs c us env st)) (hn : us.length = n) (hdb : (x == ("__debug__" : Str)) = false) (he : starEach (e :: es) X.env = (false, eval e X.env) :: starEach es X.env) (hpl : (backTo pos (starEach es X.env)).any (·.1) = false) :
    PE X (.Call (.Name x p) (e :: es) [] pos) (tE X.K at_ W fun env st => evE c (.call f iso us) env st) := by
  refine PE_imp (pe_callG F hgd hr hg hm hk hb tk ha hdb he hpl) fun σ H Q ⟨ρ, env, st, er, sr, o⟩ => ?_
  simp only [evE] at o
  refine ⟨ρ, env, st, er, sr, o.bind.impE fun ts ρ1 H1 st1 ee m1 s1 o1 vs rv => ⟨?_, ?_⟩⟩
  · rw [← rv.length, evEs_len ee, hn]
  · cases iso with
    | false => exact ⟨ρ1, st1, ts, s1, rv, o1⟩
    | true => exact Out.iso s1 rv o1
theorem e_call0 {k : Nat} {f : Nat} {fd : FuncData} {ps : List Str} {x : Str} {p pos : Pos} {iso : Bool} (F : FnG X.prog X.w X.K X.mg X.base k (at_.fa f) fd ps (spF X.K at_ 0 (c.cf f))) (hgd : X.A.guards = some []) (hr : Room k X.A) (hg : Gl X x) (hm : X.mg x = some (.ref (at_.fa f)))
    (hk : PySem.W.keepIn X.K (.ref (at_.fa f)) = true) (hb : Binds X.K fd ps []) (tk : Takes X W) (hdb : (x == ("__debug__" : Str)) = false) :
    PE X (.Call (.Name x p) [] [] pos) (tE X.K at_ W fun env st => evE c (.call f iso []) env st) := by
  refine PE_imp (pe_callG0 F hgd hr hg hm hk hb tk hdb) fun σ H Q ⟨ρ, env, st, er, sr, o⟩ => ?_
  simp only [evE, evEs, Res.bind_ok] at o
  refine ⟨rfl, ?_⟩
  cases iso with
  | false => exact ⟨ρ, st, [], sr, rfl, o⟩
  | true => exact Out.iso (ts := []) (vs := []) sr rfl o
/-- a def that stands in a local name is called -/
theorem e_callv {i : Nat} {x : Str} {p pos : Pos} {e : Expr} {es : List Expr} {us : List E} {iso : Bool} (hN : X.N[i]? = some x) (hv : Vis X.env.scope x) (hd : (x == ("__debug__" : Str)) = false) (hcd : (x == ("__classdict__" : Str)) = false) (hgd : X.A.guards = some []) (tk : Takes X W)
    (fnn : ∀ f, f < c.nd → ∃ n k fd ps, PySem.W.keepIn X.K (.ref (at_.fa f)) = true ∧ Binds X.K fd ps [] ∧ Room k X.A ∧ FnG X.prog X.w X.K X.mg X.base k (at_.fa f) fd ps (spF X.K at_ n (c.cf f)) ∧ ∀ ts st, ts.length ≠ n → c.cf f ts st = .no)
    (ha : PA X (e :: es) (tEs X.K at_ W fun env st => evEs c us env st)) (he : starEach (e :: es) X.env = (false, eval e X.env) :: starEach es X.env) (hpl : (backTo pos (starEach es X.env)).any (·.1) = false) :
    PE X (.Call (.Name x p) (e :: es) [] pos) (tE X.K at_ W fun env st => evE c (.callv i iso us) env st) := by
  constructor
  intro pins s σ H Q I ⟨ρ, env, st, er, sr, o⟩
  simp only [evE] at o
  split at o
  · rename_i f ei
    obtain ⟨v, hσ, rv⟩ := er.val i _ ei
    cases rv
    have var := (pe_var (X := X) (pos := p) (i := i) hN hv hd hcd).run pins s σ H (fun v H1 => v = .ref (at_.fa f) ∧ H1 = H) I ⟨.ref (at_.fa f), hσ, rfl, rfl⟩
    refine wpAny_Call_Name_kw (thn var fun u s1 ⟨v, H1, I1, r1, q1⟩ => ?_)
    cases q1.1
    cases q1.2
    cases (show u = Value.ref (at_.fa f) from r1)
    obtain ⟨hf, o⟩ := o.iteN
    obtain ⟨n, k, fd, ps, kp, bd, hr, F, hn⟩ := fnn f hf
    refine PySem.W.callWith_K (h₀ := X.base) I1.ok.mod.kin kp (thn (ha.run pos pins s1 σ H (fun vs H1 => spF X.K at_ n (c.cf f) vs H1 Q (WE W σ)) I1 ?_) fun us' s2 ⟨vs, H2, I2, r, q⟩ => ⟨I2.kIn, run_fnG F hgd hr bd tk I2 r q⟩) he hpl
    refine ⟨ρ, env, st, er, sr, o.bind.imp fun ts ρ1 H1 st1 m1 s1' o1 vs rv => ?_⟩
    cases iso with
    | false =>
      have hl : ts.length = n := Classical.byContradiction fun z => by
        rw [show callE c f false ts st1 = c.cf f ts st1 from rfl, hn ts st1 z] at o1
        exact o1.elim
      exact ⟨by rw [← rv.length]; exact hl, ρ1, st1, ts, s1', rv, o1⟩
    | true =>
      obtain ⟨ρ', st', us2, a1, a2, a3⟩ := Out.iso s1' rv o1
      have hl : us2.length = n := Classical.byContradiction fun z => by
        rw [hn us2 st' z] at a3
        exact a3.elim
      exact ⟨by rw [← a2.length]; exact hl, ρ', st', us2, a1, a2, a3⟩
  · exact o.elim
end
end Lw
set_option Elab.async false
set_option linter.all false
set_option maxRecDepth 100000
/-! LwH: lambdas without parameters, handed to a def that hears them. -/
namespace Lw
open PySem PySem.Spec L2 PyProof.Rows LamX

section
variable {X : Cx} {pins : List (Addr × Obj)}
      {σ : L2.St} {H HZ : Hp} {s s1 : Shared}
/-- x(), in the def that got the lambda; the lambda's body may lean on guards = some [] -/
theorem act_G {CXg : CXT} {Eg : XK} {Ng : List Str} {qg : Str} {sg : Scope} {g f c' : Addr} {cdg pm ctv : Value} {params : Arguments} {body : Expr} {scope : Scope} {k i : Nat} {a : Str} {pn : List (Addr × Obj)} {xe : Value → Shared → Prop} {W : WX} {E : XK} {tb : TE} {p1 p2 : Pos}
    (hgd : X.A.guards = some []) (I : Inv X pins σ H s) (L : LamS X.env.scope scope) (hf : s.heap.get? f = some (PySem.W.kla_obj "<lambda>" (X.env.qual ++ "<lambda>") params body scope (cloFrom X.env.cells scope.names []) pm c' ctv)) (hfn : H f = none) (hfr : f ∉ frs X.stack)
    (hbind : bindArgs
          (PySem.W.kla_fn "<lambda>" (X.env.qual ++ "<lambda>") params body scope (cloFrom X.env.cells scope.names []) pm (.ref c') ctv) ⟨[], []⟩ = pure [])
    (tk : Takes ((cxOf CXg X.prog X.w X.K X.mg X.base Ng qg sg g cdg X.A X.stack s H Eg).tr pn xe) W)
          (hW : ∀ cls d σ' H', E cls d H' → W cls d σ' H') (hr : Room (k + 1) (X.A.deeper (envOfC qg sg s.heap.objs.size g cdg)))
    (hbody : ∀ (A : Around) (outer : List PySem.Env) (s : Shared) (H : Hp), A.guards = some [] → Room k (A.deeper (lamEnv X scope s.heap.objs.size f c')) → PE (lamCx X A outer s H E scope f c') body tb)
    (hN : Ng[i]? = some a) (hv : Vis sg a) (hd : (a == ("__debug__" : Str)) = false) (hcd : (a == ("__classdict__" : Str)) = false) :
    PE ((cxOf CXg X.prog X.w X.K X.mg X.base Ng qg sg g cdg X.A X.stack s H Eg).tr pn xe)
          (.Call (.Name a p1) [] [] p2)
      (fun σZ HZ Q => σZ[i]? = some (some (.ref f)) ∧ HZ c' = some (CodeO c' (X.env.qual ++ "<lambda>")) ∧ tb σ HZ Q)
            := by
  constructor
  intro pinsZ sZ σZ HZ Q IZ ⟨hs, hc, ht⟩
  have var := (pe_var (X := (cxOf CXg X.prog X.w X.K X.mg X.base Ng qg sg g cdg X.A X.stack s H Eg).tr pn xe) (pos := p1) (i := i) hN hv hd hcd).run pinsZ sZ σZ HZ (fun v H1 => v = .ref f ∧ H1 = HZ) IZ ⟨.ref f, hs, rfl, rfl⟩
  refine wpAny_Call_Name_kw (thn var fun u s1 ⟨v, H1, I1, r1, q1⟩ => ?_)
  cases q1.1
  cases q1.2
  cases (show u = Value.ref f from r1)
  have of1 := I1.base.keep f _ hf hfn hfr (fun z => (nomatch (show f ∈ ([] : List Addr) from z)))
  refine PySem.W.callWith_F0
        ⟨_, _, _, _, of1⟩ ?_
  obtain ⟨⟨oc, vs, t, hoc, hdc, hvc⟩, _, _⟩
        := I1.hok c' _ hc
  have rc : codeAny (model X.prog X.w) (X.A.deeper (envOfC qg sg s.heap.objs.size g cdg)) (.call (.ref f) ⟨[], []⟩)
        (CR (L2.CX X.prog X.w) (envOfC qg sg s.heap.objs.size g cdg :: X.stack) X.prog X.w HZ s1 Q E) s1 := by
    refine PySem.W.kla_callFunE hr.depth of1 rfl L.co
          L.gen rfl ⟨c', oc, vs, t, rfl, hoc, hdc, hvc⟩ ?_
    rw [hbind]
    refine wpAny_pure
          (wpAny_newFunctionEnv (fun y hy => (L.own y hy).2) (fun y hy => absurd hy (by simp)) (fun h₁ hns hsb => ⟨I1.nolimit.fresh _ hsb, ?_⟩) L.kind)
    have kp : ∀ b o, s1.heap.get? b = some o → h₁.get? b = some o := fun b o e
          => hsb.extBut b o (Nat.ne_of_lt (Heap.lt_size e)) (Heap.get?_push_of_some _ e)
    have J : Inv (lamCx X (X.A.deeper (envOfC qg sg s.heap.objs.size g cdg)) (envOfC qg sg s.heap.objs.size g cdg :: X.stack) s1 HZ E scope f c')
          [] σ HZ { s1 with heap := h₁, toks := s1.toks + ([] : List (Str × Value)).length } :=
      lam_start2 I L I1.env0 hr.hd I1.base hns kp
    show codeAny _ _
          (.expr body (lamEnv X scope s1.heap.objs.size f c')) _ _
    refine PySem.W.kla_codeExpr (wpAny_mono ((hbody (X.A.deeper (envOfC qg sg s.heap.objs.size g cdg)) _ s1 HZ hgd (hr.deeper _)).run [] _ _ HZ Q J ht) (fun v s' ⟨w', H', J', rv, q⟩ => ?_) fun e s' hq => hq)
    exact
          ⟨w', H', J'.os, J'.bare, J'.base, J'.hok, rv, q⟩
  have hx : Passes (L2.CX X.prog X.w)
        ((cxOf CXg X.prog X.w X.K X.mg X.base Ng qg sg g cdg X.A X.stack s H Eg).tr pn xe) E := passes_call tk hW
  refine wpAny_call
        (codeAny_mono rc fun r s' hq => ?_)
  match r, hq with
  | .error e, hq => exact hx pinsZ σZ HZ s1 e s' I1 hq
  | .ok (.ret u), hq => exact I1.after hq
  | .ok .next, hq => exact hq.elim
  | .ok .brk, hq => exact hq.elim
  | .ok .cont, hq => exact hq.elim
/-- x(lambda: body) -/
theorem lamcall_G {T : List (Addr × Str)} {TT : (XK → Hp → VK → Prop) → Hp → VK → Prop} {x a : Str} {g c P : Addr} {k : Nat} {pg : Arguments} {bg : List Stmt} {sg : Scope} {dV kV doc pm cdv ct oc : Value} {an od : Option Addr} {osl : Array (Option Value)} {Ng : List Str}
    {params : Arguments} {body : Expr} {scope : Scope} {t : XK → TE} {p lpos pos : Pos} (hgd : X.A.guards = some []) (hg : Gl X x) (hm : X.mg x = some (.ref g)) (hk : PySem.W.keepIn X.K (.ref g) = true)
    (lk : X.K.lookup g = some ⟨oc, od, .func (PySem.W.fnOf x x pg bg sg dV kV doc pm an cdv ct), osl⟩) (hcg : PySem.W.codeIn X.K cdv x = true)
          (hb : L2.Binds X.K (PySem.W.fnOf x x pg bg sg dV kV doc pm an cdv ct) [a] []) (Sg : FnScope Ng [a] sg) (hNg : Ng[0]? = some a) (hva : Vis sg a)
    (hG : GivesTo X Ng x sg g cdv
          bg a (X.env.qual ++ "<lambda>") TT)
    (TB : TabB X.base X.mg c P) (hcode : X.env.code = .ref c) (hmT : (P, X.env.qual ++ "<lambda>") ∈ T)
          (hu : ∀ p ∈ T, p.1 = P → p.2 = X.env.qual ++ "<lambda>") (hr : Room (k + 2) X.A) (L : LamS X.env.scope scope) (hdef : defaultsOf params X.env = ([], []))
    (hbind : ∀ (q : Str) (cl : List (Str × Addr)) (pm cv ctv : Value), bindArgs
          (PySem.W.kla_fn "<lambda>" q params body scope cl pm cv ctv) ⟨[], []⟩ = pure [])
    (hbody : ∀ (A : Around) (outer : List PySem.Env) (s : Shared) (H : Hp) (E : XK) (f c' : Addr), A.guards = some [] → Room k (A.deeper (lamEnv X scope s.heap.objs.size f c')) → PE (lamCx X A outer s H E scope f c') body (t E))
    (hdb : (x == ("__debug__" : Str)) = false) (hd : (a == ("__debug__" : Str)) = false) (hcd : (a == ("__classdict__" : Str)) = false) :
    PE X (.Call (.Name x p) [.Lambda params body scope lpos] [] pos)
          (tLam T TT t) := by
  constructor
  intro pins s σ H Q I ⟨hT, h⟩
  refine wpAny_Call_Name_kw
        (ld_glob I hg hm ?_ hdb)
  refine PySem.W.callWith_K (h₀ := X.base)
        I.ok.mod.kin hk ?_ (by rfl) (by rfl)
  show wpAny _ _
        (spliced ((false, eval (.Lambda params body scope lpos) X.env) :: backTo pos (starEach [] X.env))) _ _ s
  refine Calls.spliced_cons (lam_make2 I TB hcode hmT hu hT hdef (L.has I.ok) fun f c' pm' ctv H1 s' I1 eN T1 hf hfn hfr hco => Calls.spliced_nil ⟨I1.kIn, ?_⟩)
  have rc : codeAny (model X.prog X.w) X.A (.call (.ref g) ⟨[.ref f], []⟩)
        (CR C8.CX0 X.stack X.prog X.w H1 s' Q C8.E0) s' := by
    refine run_ofS (N := Ng) (ps := [a]) (us := [.ref f]) (vs := [.ref f]) lk
          hcg Sg hr I1.env0 (hb s' [.ref f] I1.kIn rfl) (.cons rfl .nil) rfl fun hr' => ?_
    have ac := fun (W : WX) (pn : List (Addr × Obj)) (xe : Value → Shared → Prop) (E : XK) (p1 p2 : Pos) tk hW => act_G (CXg := C8.CX0) (Eg := C8.E0) (Ng := Ng) (qg := x) (sg := sg) (g := g) (cdg := cdv) (a := a) (pn := pn) (xe := xe) (W := W) (E := E) (p1 := p1) (p2 := p2) (i := 0) hgd I1 L hf hfn hfr (hbind _ _ _ _ _) tk hW hr' (fun A outer s H hA hr2 => hbody A outer s H E f c' hA hr2) hNg hva hd hcd
    obtain ⟨t', ht', hq'⟩ := hG f c' s' H1 Q (fun E H' Q' => t E σ H' Q') ac hco (h H1 eN T1)
    exact ⟨t', ht'.nox, hq'⟩
  refine wpAny_call
        (codeAny_mono rc fun r s2 hq => ?_)
  match r, hq with
  | .error e, hq => exact (show False from hq).elim
  | .ok (.ret u), hq => exact I1.after hq
  | .ok .next, hq => exact hq.elim
  | .ok .brk, hq => exact hq.elim
  | .ok .cont, hq => exact hq.elim
end

/-! ### the defs that hear -/
section
variable {X : Cx} {es : List Expr} {t : TA} {pos : Pos}
/-- a new tuple of these values -/
def NewT (Q : VK) (H : Hp) (xs : List V) : Prop := xs.length ≤ sizeLine ∧ ∀ p ob, H p = none → ob.dict = none → Q (.ref p) (upd H p (.frz ob (.tup xs)))
def tTupF (t : TA) : TE := fun σ H Q => t σ H fun xs H1 => NewT Q H1 xs
theorem pe_tupF {k : Nat} (h : PA X es t) : PE X (.Tuple es k pos) (tTupF t) := by
  constructor
  intro pins s σ H Q I hq
  refine wpAny_Tuple_spliced (thn (h.run pos pins s σ H _ I hq) fun us' s1 ⟨xs, H1, I1, r, z, q⟩ => ⟨by rw [← r.length]; exact z, ?_⟩)
  exact ⟨.ref _, _, Inv_newT (t' := s1.toks) (n := 0) I1 (fun b o e => Heap.get?_push_of_some _ e) (Nat.le_refl _) (Heap.get?_push_size _ rfl) rfl rfl r z, rfl, q _ _ (I1.hok.fresh (Nat.le_refl _)) rfl⟩
/-- try: return (told, a()) / except x: return (ret,) -/
def TTheard (K : PySem.W.Frag) (CS : Addr) (told ret : Str) : (XK → Hp → VK → Prop) → Hp → VK → Prop := fun tl H Q =>
  tl (fun cls _ H' => ∃ b, PySem.W.exmOne K cls (.ref CS) = some b ∧ (b = true → NewT Q H' [.str ret]) ∧ (b = false → False)) H fun v H' => NewT Q H' [.str told, v]
theorem line2 : (2 : Nat) ≤ sizeLine := by rw [sizeLine_eq]; decide
theorem heard_gives {Ng : List Str} {x a e q told ret : Str} {sg : Scope} {g CS : Addr} {cdg : Value} {j j2 k k2 : Nat} {p1 p2 p3 p4 p5 p6 p7 p8 p9 pa pb : Pos} (hge : sg.names.lookup e = some .globalImplicit) (hme : X.mg e = some (.ref CS)) (hde : (e == ("__debug__" : Str)) = false) (h0 : ∀ f : Addr, (L2.start Ng [V.ref f])[0]? = some (some (V.ref f))) :
    GivesTo X Ng x sg g cdg [.Try [.Return (some (.Tuple [.Constant (.str told) j2 p9, .Call (.Name a p1) [] [] p2] k pa)) p3] [.ExceptHandler (some (.Name e p4)) none [.Return (some (.Tuple [.Constant (.str ret) j p5] k2 pb)) p6] p7] [] [] p8] a q (TTheard X.K CS told ret) := by
  intro f c' s H Q tl act hc h
  have hgl : Gl
        (cxOf C8.CX0 X.prog X.w X.K X.mg X.base Ng x sg g cdg X.A X.stack s H C8.E0).nox e := hge
  refine
        ⟨_, pss_one (ps_try_only (X := (cxOf C8.CX0 X.prog X.w X.K X.mg X.base Ng x sg g cdg X.A X.stack s H C8.E0).nox) (c := .ref CS)
      (tb := fun W D σ H => ∃ Ech : XK, (∀ cls d σ' H', Ech cls d H' → W cls d σ' H') ∧ σ[0]? = some (some (.ref f)) ∧ H c' = some (CodeO c' q) ∧ tl Ech H fun v H' => NewT D.rt H' [.str told, v])
      rfl rfl ⟨hgl, hde, .inl hme⟩ LamX.takes0 (fun W pn xe tk _ => ?_) (fun a oe cls d pn _ _ => pss_one (ps_ret (pe_tupF (pa_cons pe_str pa_nil))))), ?_⟩
  · constructor
    intro pins s' σ H' D I ⟨Ech, hW, h1, h2, h3⟩
    have hp := act W
          pn xe Ech p1 p2 tk hW
    have hq := pss_one (ps_ret (pos := p3) (pe_tupF (k := k) (pos := pa) (pa_cons (pe_str (j := j2) (pos := p9) (x := told)) (pa_cons hp pa_nil))))
    exact hq.run pins s'
          σ H' D I ⟨h1, h2, h3⟩
  · exact ⟨fun cls _ H' => ∃ b, PySem.W.exmOne X.K cls (.ref CS) = some b ∧ (b = true → NewT Q H' [.str ret]) ∧ (b = false → False), fun cls d σ' H' ⟨b, e1, e2, e3⟩ => ⟨b, e1, fun hb a _ => e2 hb, fun hb => e3 hb⟩, h0 f, hc, h⟩
/-- try: a() / except x: return True .. return False -/
def TTnot (K : PySem.W.Frag) (CS : Addr) : (XK → Hp → VK → Prop) → Hp → VK → Prop := fun tl H Q =>
  tl (fun cls _ H' => ∃ b, PySem.W.exmOne K cls (.ref CS) = some b ∧ (b = true → Q (.bl true) H') ∧ (b = false → False)) H fun _ H' => Q (.bl false) H'
theorem not_gives {Ng : List Str} {x a e q : Str} {sg : Scope} {g CS : Addr} {cdg : Value} {j j2 : Nat} {p1 p2 p3 p4 p5 p6 p7 p8 p9 pa : Pos} (hge : sg.names.lookup e = some .globalImplicit) (hme : X.mg e = some (.ref CS)) (hde : (e == ("__debug__" : Str)) = false) (h0 : ∀ f : Addr, (L2.start Ng [V.ref f])[0]? = some (some (V.ref f))) :
    GivesTo X Ng x sg g cdg [.Try [.Expr (.Call (.Name a p1) [] [] p2) p3] [.ExceptHandler (some (.Name e p4)) none [.Return (some (.Constant (.bool true) j p5)) p6] p7] [] [] p8, .Return (some (.Constant (.bool false) j2 p9)) pa] a q (TTnot X.K CS) := by
  intro f c' s H Q tl act hc h
  have hgl : Gl
        (cxOf C8.CX0 X.prog X.w X.K X.mg X.base Ng x sg g cdg X.A X.stack s H C8.E0).nox e := hge
  refine ⟨_, pss_cons (ps_try_only (X := (cxOf C8.CX0 X.prog X.w X.K X.mg X.base Ng x sg g cdg X.A X.stack s H C8.E0).nox) (c := .ref CS)
      (tb := fun W D σ H => ∃ Ech : XK, (∀ cls d σ' H', Ech cls d H' → W cls d σ' H') ∧ σ[0]? = some (some (.ref f)) ∧ H c' = some (CodeO c' q) ∧ tl Ech H fun _ H' => D.nx σ H')
      rfl rfl ⟨hgl, hde, .inl hme⟩ LamX.takes0 (fun W pn xe tk _ => ?_) (fun a oe cls d pn _ _ => pss_one (ps_ret pe_bl))) (pss_one (ps_ret pe_bl)), ?_⟩
  · constructor
    intro pins s' σ H' D I ⟨Ech, hW, h1, h2, h3⟩
    have hq := pss_one (ps_expr (pos := p3) (act W pn xe Ech p1 p2 tk hW))
    exact hq.run pins s'
          σ H' D I ⟨h1, h2, h3⟩
  · exact ⟨fun cls _ H' => ∃ b, PySem.W.exmOne X.K cls (.ref CS) = some b ∧ (b = true → Q (.bl true) H') ∧ (b = false → False), fun cls d σ' H' ⟨b, e1, e2, e3⟩ => ⟨b, e1, fun hb a _ => e2 hb, fun hb => e3 hb⟩, h0 f, hc, h⟩
end

/-! ### by the evaluator -/
/-- the form of a def that hears: its parameter, the error's class, what it tells -/
def hkForm : List Stmt → Option (Str × Str × Option (Str × Str))
  | [.Try [.Return (some (.Tuple [.Constant (.str told) _ _, .Call (.Name a _) [] [] _] _ _)) _] [.ExceptHandler (some (.Name e _)) none [.Return (some (.Tuple [.Constant (.str ret) _ _] _ _)) _] _] [] [] _] => some (a, e, some (told, ret))
  | [.Try [.Expr (.Call (.Name a _) [] [] _) _] [.ExceptHandler (some (.Name e _)) none [.Return (some (.Constant (.bool b) _ _)) _] _] [] [] _, .Return (some (.Constant (.bool d) _ _)) _] => if b = true ∧ d = false then some (a, e, none) else none
  | _ => none
def hkCs : Hk → List Nat
  | .told _ _ cs => cs
  | .nothing cs => cs
  | .many _ _ => []
def hkIs : Hk → Option (Str × Str) → Bool
  | .told t r _, some p => decide (p = (t, r))
  | .nothing _, none => true
  | _, _ => false
/-- a def that hears -/
def HearD (K : PySem.W.Frag) (mg : Str → Option Value) (at_ : At) (hk : Hk) (x : Str) : Prop :=
  ∃ (ga CS : Addr) (a e : Str) (N : List Str) (pg : Arguments) (bg : List Stmt) (sg : Scope) (dV kV doc pm cdv ct oc : Value) (an od : Option Addr) (osl : Array (Option Value)) (o : Option (Str × Str)),
    mg x = some (.ref ga) ∧ PySem.W.keepIn K (.ref ga) = true ∧ K.lookup ga = some ⟨oc, od, .func (PySem.W.fnOf x x pg bg sg dV kV doc pm an cdv ct), osl⟩ ∧ PySem.W.codeIn K cdv x = true ∧ L2.Binds K (PySem.W.fnOf x x pg bg sg dV kV doc pm an cdv ct) [a] [] ∧
    FnScope N [a] sg ∧ N[0]? = some a ∧ Vis sg a ∧ (x == ("__debug__" : Str)) = false ∧ (a == ("__debug__" : Str)) = false ∧ (a == ("__classdict__" : Str)) = false ∧ (e == ("__debug__" : Str)) = false ∧
    sg.names.lookup e = some .globalImplicit ∧ mg e = some (.ref CS) ∧ hkForm bg = some (a, e, o) ∧ hkIs hk o = true ∧ ∀ i ∈ hkCs hk, PySem.W.exmOne K (.ref (at_.ca i)) (.ref CS) = some true

section
variable {X : Cx} {at_ : At} {W : WX} {c : Cf}
/-- all but the tables stays -/
theorem StRep.extN {K : PySem.W.Frag} {ρ : Pl} {H H1 : Hp} {st : Store} (s : StRep K at_ ρ H st) (k : LamX.ExtN H H1) (t : LamX.Tabs at_.tb H1) : StRep K at_ ρ H1 st := by
  have mw : Mw ρ H ρ H1 := ⟨fun h => h, fun b o e _ n => k b o e n, fun e hn _ => hn⟩
  refine ⟨s.len, s.nd, s.dj, fun a ha => ?_, t, fun l a c h1 h2 => (s.cell l a c h1 h2).mw s.sep mw fun u e => ?_⟩
  · rcases s.hid a ha with ⟨vs, e⟩ | ⟨vs, e⟩ | ⟨o, vs, e⟩ | ⟨P', w', vs, e⟩
    · exact .inl ⟨vs, k _ _ e (by intro _ z; cases z)⟩
    · exact .inr (.inl ⟨vs, k _ _ e (by intro _ z; cases z)⟩)
    · exact .inr (.inr (.inl ⟨o, vs, k _ _ e (by intro _ z; cases z)⟩))
    · exact .inr (.inr (.inr ⟨P', w', vs, k _ _ e (by intro _ z; cases z)⟩))
  · refine k _ _ e fun ps z => ?_
    subst z
    exact Tr.notbl (s.sep a (.inl (List.mem_of_getElem? h1))) ps e
theorem Mv.extN {ρ : Pl} {H H1 : Hp} (k : LamX.ExtN H H1) : Mv ρ H ρ H1 := ⟨⟨[], ρ.add_nil.symm, by simp⟩, fun b o e _ nt => k b o e nt⟩
theorem newT_of {K : PySem.W.Frag} {ρ ρ1 : Pl} {H H1 : Hp} {st : Store} {Q : VK} {ts : List T} {xs : List V} {Z : Value → Option Addr → Hp → Prop} (o : Out K at_ ρ H (.ok (.tup ts) st) (fun t ρ' H' _ => ∀ v, Rep K at_ ρ' H' t v → Q v H') Z) (m : Mv ρ H ρ1 H1) (s : StRep K at_ ρ1 H1 st) (r : RepL K at_ ρ1 H1 ts xs) (hz : xs.length ≤ sizeLine) : NewT Q H1 xs := by
  refine ⟨hz, fun p ob hp hd => ?_⟩
  have m1 := Mv.new s hp (.frz ob (.tup xs))
  exact o ρ1 _ (m.trans m1) (s.new hp _) _ ⟨p, xs, rfl, .inl ⟨ob, upd_same .., hd⟩, RepL.mv s.sep m1 _ _ r⟩
theorem e_hear {x : Str} {p lpos pos : Pos} {hk : Hk} {u : E} {k : Nat} {cc P : Addr} {params : Arguments} {body : Expr} {scope : Scope} (HD : HearD X.K X.mg at_ hk x) (hg : Gl X x) (hgd : X.A.guards = some [])
    (TB : TabB X.base X.mg cc P) (hcode : X.env.code = .ref cc) (hmT : (P, X.env.qual ++ "<lambda>") ∈ at_.tb) (hu : ∀ p ∈ at_.tb, p.1 = P → p.2 = X.env.qual ++ "<lambda>") (hr : Room (k + 2) X.A) (L : LamS X.env.scope scope) (hdef : defaultsOf params X.env = ([], []))
    (hbind : ∀ (q : Str) (cl : List (Str × Addr)) (pm cv ctv : Value), bindArgs
          (PySem.W.kla_fn "<lambda>" q params body scope cl pm cv ctv) ⟨[], []⟩ = pure [])
    (hbody : ∀ (A : Around) (outer : List PySem.Env) (s : Shared) (H : Hp) (E : XK) (f c' : Addr), A.guards = some [] → Room k (A.deeper (lamEnv X scope s.heap.objs.size f c')) → PE (lamCx X A outer s H E scope f c') body (tE X.K at_ (fun cls d _ H => E cls d H) fun env st => evE c.dn u env st)) :
    PE X (.Call (.Name x p) [.Lambda params body scope lpos] [] pos) (tE X.K at_ W fun env st => evE c (.hear hk u) env st) := by
  obtain ⟨ga, CS, a, e, N, pg, bg, sg, dV, kV, doc, pm, cdv, ct, oc, an, od, osl, o0, h1, h2, h3, h4, h5, h6, h7, h8, h9, h10, h11, h12, h13, h14, h15, h16, h17⟩ := HD
  have h0 : ∀ f : Addr, (L2.start N [V.ref f])[0]? = some (some (V.ref f)) := fun f => rfl
  unfold hkForm at h15
  split at h15
  · cases h15
    cases hk with
    | nothing cs => cases h16
    | many _ _ => cases h16
    | told t r cs =>
      cases of_decide_eq_true h16
      refine PE_imp (lamcall_G (T := at_.tb) (t := fun E => tE X.K at_ (fun cls d _ H => E cls d H) fun env st => evE c.dn u env st) hgd hg h1 h2 h3 h4 h5 h6 h7 h8 (heard_gives h13 h14 h12 h0) TB hcode hmT hu hr L hdef hbind hbody h9 h10 h11) fun σ H Q ⟨ρ, env, st, er, sr, ot⟩ => ⟨sr.tab, fun H1 eN T1 => ?_⟩
      simp only [evE] at ot
      obtain ⟨_, ot⟩ := ot.iteN
      have m0 : Mv ρ H ρ H1 := .extN eN
      refine ⟨ρ, env, st, er.mv sr.sep m0, sr.extN eN T1, ?_⟩
      show Out X.K at_ ρ H1 (evE c.dn u env st) _ _
      revert ot
      cases evE c.dn u env st with
      | no => exact fun z => z.elim
      | ok v st2 => exact fun ot ρ' H' m s v' rv => newT_of ot (m0.trans m) s ⟨_, _, rfl, rfl, _, _, rfl, rv, rfl⟩ line2
      | exc y st2 =>
        intro ot ρ' H' cls d m s rx
        simp only [hearR] at ot
        obtain ⟨hc, ot⟩ := ot.iteN
        exact ⟨true, by rw [rx.1]; exact h17 _ hc, fun _ => newT_of ot (m0.trans m) s ⟨_, _, rfl, rfl, rfl⟩ (Nat.le_trans (Nat.le_succ 1) line2), fun z => by cases z⟩
  · split at h15
    · rename_i hb
      obtain ⟨rfl, rfl⟩ := hb
      cases h15
      cases hk with
      | told t r cs => cases h16
      | many _ _ => cases h16
      | nothing cs =>
        refine PE_imp (lamcall_G (T := at_.tb) (t := fun E => tE X.K at_ (fun cls d _ H => E cls d H) fun env st => evE c.dn u env st) hgd hg h1 h2 h3 h4 h5 h6 h7 h8 (not_gives h13 h14 h12 h0) TB hcode hmT hu hr L hdef hbind hbody h9 h10 h11) fun σ H Q ⟨ρ, env, st, er, sr, ot⟩ => ⟨sr.tab, fun H1 eN T1 => ?_⟩
        simp only [evE] at ot
        obtain ⟨_, ot⟩ := ot.iteN
        have m0 : Mv ρ H ρ H1 := .extN eN
        refine ⟨ρ, env, st, er.mv sr.sep m0, sr.extN eN T1, ?_⟩
        show Out X.K at_ ρ H1 (evE c.dn u env st) _ _
        revert ot
        cases evE c.dn u env st with
        | no => exact fun z => z.elim
        | ok v st2 => exact fun ot ρ' H' m s v' rv => ot ρ' H' (m0.trans m) s _ rfl
        | exc y st2 =>
          intro ot ρ' H' cls d m s rx
          simp only [hearR] at ot
          obtain ⟨hc, ot⟩ := ot.iteN
          exact ⟨true, by rw [rx.1]; exact h17 _ hc, fun _ => ot ρ' H' (m0.trans m) s _ rfl, fun z => by cases z⟩
    · cases h15
  · cases h15
end
end Lw
set_option Elab.async false
set_option linter.all false
set_option maxRecDepth 100000
/-! LwK: sorted(things, key = lambda x: ..), the keys texts. -/
namespace Lw
open PySem PySem.Spec L2 PyProof.Rows
/-! ### the sort's turns, over the layer (after the shape of KE.SortKeyHeap) -/
section
variable {X : Cx} {at_ : At} {pins : List (Addr × Obj)} {σ : L2.St} {H : Hp} {s : Shared} {A' : Around} {a kS fa c' : Addr} {fo : Obj} {q : Str} {us : List Value} {ks : List T} {ρ : Pl} {st : Store} {P : PySem.Fin → Shared → Prop} {E : Value → Shared → Prop}
/-- what is known while the keys are asked -/
def KJ (K : PySem.W.Frag) (at_ : At) (ρ : Pl) (st : Store) (c' : Addr) (q : Str) (H' : Hp) : Prop := StRep K at_ ρ H' st ∧ H' c' = some (LamX.CodeO c' q)
/-- what a call of the key's function gives -/
def KTurn (X : Cx) (at_ : At) (σ : L2.St) (A' : Around) (fa : Addr) (fo : Obj) (us : List Value) (ks : List T) (ρ : Pl) (st : Store) (c' : Addr) (q : Str) (H : Hp) : Prop :=
  ∀ (i : Nat) (u : Value) (kt : T), us[i]? = some u → ks[i]? = some kt → ∀ (pins' : List (Addr × Obj)) (H' : Hp) (s' : Shared), Inv X pins' σ H' s' → Mv ρ H ρ H' → KJ X.K at_ ρ st c' q H' → s'.heap.get? fa = some fo → H' fa = none →
    wpAny (model X.prog X.w) A' (call (.ref fa) [u]) (fun r s'' => ∃ H'' k, RelV k r ∧ Rep X.K at_ ρ H'' kt k ∧ Inv X pins' σ H'' s'' ∧ Mv ρ H' ρ H'' ∧ KJ X.K at_ ρ st c' q H'' ∧ s''.heap.get? fa = some fo ∧ H'' fa = none) (fun _ _ => False) s'
/-- keys that can be compared -/
structure KGood (ks : List T) : Prop where
  py : ∀ t ∈ ks, toPy t = some (dOf t)
  al : PySem.W.AllAlike (ks.map dOf)
  so : PySem.W.Sortable (ks.map dOf)
  dp : ∀ d ∈ ks.map dOf, d.depth ≤ 40
theorem kgood_of {ts ws : List T} (h : sortBy ks ts = some ws) : KGood ks ∧ ws = (sortKD (ks.zip ts)).map (·.2) := by
  unfold sortBy at h
  split at h
  · rename_i ds hd
    split at h
    · rename_i hc
      obtain ⟨h1, h2, h3⟩ := hc
      cases h
      obtain ⟨em, ee⟩ := toPyL_each hd
      refine ⟨⟨ee, ?_, ?_, ?_⟩, rfl⟩
      · rw [em]
        exact fun d hd' d' hd2 => List.all_eq_true.mp (List.all_eq_true.mp h1 d hd') d' hd2
      · rw [em]
        rcases h2 with h2 | h2
        · refine .inl fun d hd' => ?_
          have := List.all_eq_true.mp h2 d hd'
          unfold tupD at this
          split at this
          · exact ⟨_, _, rfl⟩
          · cases this
        · refine .inr fun d hd' => ?_
          have := List.all_eq_true.mp h2 d hd'
          refine ⟨fun z => ?_, fun xs z => ?_⟩ <;> (subst z; cases this)
      · rw [em]
        exact fun d hd' => of_decide_eq_true (List.all_eq_true.mp h3 d hd')
    · cases h
  · cases h
theorem fpOk_H {H' : Hp} {b : Addr} (f : FpOk X pins H b) (n : H' b = none) : FpOk X pins H' b := ⟨n, f.2⟩
/-- a heap without the object at b -/
def freeAt (h : Heap) (b : Addr) : Heap := h.update b fun o => { o with data := .freed }
theorem free_none (h : Heap) (b : Addr) : (freeAt h b).get? b = none := by
  unfold freeAt
  cases h with
  | mk objs l =>
    simp only [Heap.update, Heap.get?, Array.getElem?_modify, if_true]
    cases objs[b]? <;> rfl
theorem key_rest {e1 : Nat} {H0 : Hp} (I : Inv X pins σ H s) (j : KJ X.K at_ ρ st c' q H) (kg : KGood ks) (fa_ : FpOk X pins H a) (fk : FpOk X pins H kS) (ff : H fa = none) (hka : kS ≠ a) (hfa : fa ≠ a) (hfk : fa ≠ kS) (nk : s.heap.get? kS = some (seqObj "list" #[] 0)) (na : s.heap.get? a = some (seqObj "list" #[] e1)) (nf : s.heap.get? fa = some fo)
    (hlen : ks.length = us.length) (hZ : us.length ≤ sizeLine) (hu : A'.units + 60 < cLine) (turn : KTurn X at_ σ A' fa fo us ks ρ st c' q H0) (m0 : Mv ρ H0 ρ H)
    (h : ∀ (H' : Hp) (s' : Shared) (out : List Value) (c : Nat), Inv X pins σ H' s' → Mv ρ H0 ρ H' → KJ X.K at_ ρ st c' q H' → H' a = none → s'.heap.get? a = some (seqObj "list" out.toArray c) → PySem.W.KeyedOut false (ks.map dOf) us out → P (.done (.ret .none)) s') :
    wpAny (model X.prog X.w) A' (ksk_rest a (.ref fa) false us.toArray e1 (.ref kS)) P E s := by
  unfold ksk_rest
  refine wpAny_bind
        (wpAny_rule ?_)
  first
    | rw [List.forIn_toArray]
    | (rw [← Array.forIn_toList];
          simp only [List.toList_toArray])
    | rw [← Array.forIn_toList]
  refine wpAny_bind (ksk_fold (fun i s' => ∃ H' kA e, Inv X pins σ H' s' ∧ Mv ρ H0 ρ H' ∧ KJ X.K at_ ρ st c' q H' ∧ H' a = none ∧ H' kS = none ∧ H' fa = none ∧ s'.heap.get? kS = some (seqObj "list" kA e) ∧ s'.heap.get? a = some (seqObj "list" #[] e1) ∧ s'.heap.get? fa = some fo ∧ PySem.W.EachIs (fun v (kt : T) => ∃ k, RelV k v ∧ Rep X.K at_ ρ H' kt k) kA.toList (ks.take i)) us 0 s
    ⟨H, #[], 0, I, m0, j, fa_.1, fk.1, ff, nk, na, nf, by rw [List.take_zero]; exact .nil⟩ ?step ?done)
  case step =>
    rintro i x s' hx ⟨H', kA, e, I', m', j', ha', hk', hf', nk', na', nf', hks⟩
    simp only [Nat.zero_add] at hks ⊢
    have hi : i < us.length := (List.getElem?_eq_some_iff.mp hx).1
    obtain ⟨y, hy⟩ : ∃ y, ks[i]? = some y := ⟨_, List.getElem?_eq_getElem (by omega)⟩
    have hz : kA.size ≤ us.length := by
      have h1 := hks.length
      rw [Array.length_toList, List.length_take]
            at h1
      omega
    have fps : ∀ b ∈ [a, kS], FpOk X pins H' b := fun b hb => by
      have hb : b = a ∨ b = kS := by simpa using hb
      rcases hb with rfl | rfl
      · exact fpOk_H fa_ ha'
      · exact fpOk_H fk hk'
    have hobj : ∀ b ∈ [a, kS], ∃ o, s'.heap.get? b = some o ∧ ∀ v, o.data ≠ .cell v := fun b hb => by
      have hb : b = a ∨ b = kS := by simpa using hb
      rcases hb with rfl | rfl
      · exact ⟨_, na', fun v z => by cases z⟩
      · exact ⟨_, nk', fun v z => by cases z⟩
    have Ip := I'.pinned fps hobj
    refine wpAny_bind (wpAny_attempt (wpAny_mono (turn i x y hx hy _ H' s' Ip m' j' nf' hf') (fun v s'' he => ?_) fun _ _ hF => hF.elim))
    obtain ⟨H'', k, rk, ry, I2, m2, j2, nf2, hf2⟩ := he
    try dsimp only
    have pin : ∀ b ∈ [a, kS], ∀ o, s'.heap.get? b = some o → s''.heap.get? b = some o ∧ H'' b = none := fun b hb o eo =>
      let z := I2.pin (b, o) (List.mem_append_right _ (List.mem_append_right _ (mem_pinsAt hb eo)))
      ⟨z.1, z.2.1⟩
    obtain ⟨na2, ha2⟩ := pin a (by simp) _ na'
    obtain ⟨nk2, hk2⟩ := pin kS (by simp) _ nk'
    have I3 : Inv X pins σ H'' s'' := I2.unpinned
    have s1 := Heap.SameBut.update s''.heap kS (Obj.mapSeq (·.push v))
    obtain ⟨c2, hc2⟩ : ∃ c2, (s''.heap.update kS (Obj.mapSeq (·.push v))).get? kS = some (seqObj "list" (kA.push v) c2) := ⟨_, get?_update_seq nk2 (·.push v)⟩
    have ek : ks.take (i + 1) = ks.take i ++ [y] := by rw [List.take_add_one, hy]; simp
    have ea : (kA.push v).toList
          = kA.toList ++ [v] := by simp
    refine wpAny_bind
          (listUpdate_at nk2 rfl ?_ (Nat.le_trans hz hZ) (Nat.le_trans (Nat.le_of_eq (Array.size_push ..)) (Nat.succ_le_succ (Nat.le_trans hz hZ))))
    obtain ⟨g0, g1, g2, g3, g4, g5⟩ := fpOk_H fk hk2
    have I4 := I3.turned (t' := s''.toks) (h' := s''.heap.update kS (Obj.mapSeq (·.push v))) (it := kS) (fun b o hb eo => (s1.2 b hb).trans eo) g0 g1 g3 g4 g5
    refine wpAny_pure ⟨rfl, H'', kA.push v, c2, I4, m'.trans m2, j2, ha2, hk2, hf2, hc2, (s1.2 a hka.symm).trans na2, (s1.2 fa hfk).trans nf2, ?_⟩
    rw [ea, ek]
    exact PySem.W.each_snoc (R := fun v (kt : T) => ∃ k, RelV k v ∧ Rep X.K at_ ρ H'' kt k) ⟨k, rk, ry⟩ (hks.mono fun u z ⟨k', r1, r2⟩ => ⟨k', r1, Rep.mv j'.1.sep m2 _ _ r2⟩)
  case done =>
    rintro s' ⟨H', kA, e, I', m', j', ha', hk', hf', nk', na', nf', hks⟩
    have e3 : ks.take (0 + us.length) = ks := List.take_of_length_le (by omega)
    rw [e3] at hks
    have hsz : kA.size = us.length := by
      have h1 := hks.length
      rw [Array.length_toList]
            at h1
      omega
    have hread : PySem.W.EachIs (fun v k => ∃ as, Reads s'.heap v k as) kA.toList (ks.map dOf) := by
      refine PySem.W.each_map (R := fun v k => ∃ as, Reads s'.heap v k as) dOf ((PySem.W.each_mem hks).mono fun v kt hv => ?_)
      obtain ⟨⟨k, r1, r2⟩, hm⟩ := hv
      have hp : pyOf st kt = some (dOf kt) := by simp only [pyOf, toPy_res (kg.py _ hm), Option.bind_some, kg.py _ hm]
      exact Dp.reads I' _ _ v (rep_pyOf j'.1 r2 hp) r1
    try dsimp only
    refine wpAny_bind
          (listItems_at nk' rfl ?_)
    have hk1 : (freeAt s'.heap kS).get? kS = none := free_none _ _
    have kp : PySem.W.KeepsBut a (freeAt s'.heap kS) s'.heap := fun b o hb eo => by
      by_cases hbk : b = kS
      · subst hbk; rw [hk1] at eo; cases eo
      · unfold freeAt at eo
        rw [Heap.get?_update_ne _ _ _ _ hbk] at eo
        exact eo
    refine PySem.W.keyH_end (κ := PySem.W.dataKind s'.heap (ks.map dOf)) (h₁ := freeAt s'.heap kS) kp hk1 nk' na' hka
      (PySem.W.SortsAt.data (s := s') hread kg.al kg.so (fun d hd => by
        have := kg.dp d hd
        omega)) hsz hZ fun h3 tk3 c k3 n3 => ?_
    -- the end: two objects have turned
    have hmid : ∀ b o, b ≠ kS → s'.heap.get? b = some o → (h3.update a fun _ => seqObj "list" #[] e1).get? b = some o := fun b o hb eo => by
      by_cases hba : b = a
      · subst hba
        rw [na'] at eo
        cases eo
        exact Heap.get?_update_self _ n3 rfl
      · rw [Heap.get?_update_ne _ _ _ _ hba]
        refine k3 b o hba ?_
        unfold freeAt
        rw [Heap.get?_update_ne _ _ _ _ hb]
        exact eo
    obtain ⟨g0, g1, _, g3, g4, g5⟩ := fpOk_H fk hk'
    have I5 := I'.turned (t' := tk3) (h' := h3.update a fun _ => seqObj "list" #[] e1) (it := kS) hmid g0 g1 g3 g4 g5
    obtain ⟨q0, q1, _, q3, q4, q5⟩ := fpOk_H fa_ ha'
    have I6 := I5.turned (t' := tk3) (h' := h3) (it := a) (fun b o hb eo => by
      have eo : (h3.update a fun _ => seqObj "list" #[] e1).get? b = some o := eo
      rw [Heap.get?_update_ne _ _ _ _ hb] at eo
      exact eo) q0 q1 q3 q4 q5
    exact h H' _ _ c I6 m' j' ha' n3 ⟨s'.heap, kA.toList, kg.al, rfl, hread⟩
theorem key_tree {n : Nat} {H0 : Hp} (I : Inv X pins σ H s) (j : KJ X.K at_ ρ st c' q H) (kg : KGood ks) (fa_ : FpOk X pins H a) (ff : H fa = none) (hfa : fa ≠ a) (ho : s.heap.get? a = some (seqObj "list" us.toArray n)) (nf : s.heap.get? fa = some fo)
    (hlen : ks.length = us.length) (hZ : us.length ≤ sizeLine) (hu : A'.units + 60 < cLine) (turn : KTurn X at_ σ A' fa fo us ks ρ st c' q H0) (m0 : Mv ρ H0 ρ H)
    (h : ∀ (H' : Hp) (s' : Shared) (out : List Value) (c : Nat), Inv X pins σ H' s' → Mv ρ H0 ρ H' → KJ X.K at_ ρ st c' q H' → H' a = none → s'.heap.get? a = some (seqObj "list" out.toArray c) → PySem.W.KeyedOut false (ks.map dOf) us out → P (.done (.ret .none)) s') :
    wpAny (model X.prog X.w) A' (ksk_tree a (.ref fa) false) P E s := by
  have ha : a < s.heap.objs.size
        := Heap.lt_size ho
  have hf : fa < s.heap.objs.size := Heap.lt_size nf
  obtain ⟨e1, ho1⟩ : ∃ e1, (s.heap.update a (Obj.mapSeq fun _ => (#[] : Array Value))).get?
        a = some (seqObj "list" #[] e1) := ⟨_, get?_update_seq ho fun _ => #[]⟩
  have hkS : ((s.heap.update a (Obj.mapSeq fun _ => (#[] : Array Value))).push (seqObj "tuple" us.toArray 0)).objs.size = s.heap.objs.size + 1 := by rw [size_push', Heap.size_update]
  unfold ksk_tree
  refine wpAny_bind
        (listItems_at ho rfl ?_)
  refine wpAny_bind
        (listUpdate_at ho rfl ?_ (by rw [List.size_toArray]; exact hZ) (Nat.zero_le _))
  refine wpAny_bind
        (seqEpoch_at ho1 rfl ?_)
  refine wpAny_bind (wpAny_newTuple ?_ (by show us.length ≤ _; exact hZ))
  refine wpAny_bind
        (wpAny_newList ?_ (Nat.zero_le _))
  refine wpAny_holding ?_
  obtain ⟨g0, g1, _, g3, g4, g5⟩ := id fa_
  have I1 := I.turned (t' := s.toks) (h' := s.heap.update a (Obj.mapSeq fun _ => (#[] : Array Value))) (it := a) (fun b o hb eo => (Heap.get?_update_ne _ _ _ _ hb).trans eo) g0 g1 g3 g4 g5
  have I2 := I1.kept (t' := s.toks) (h' := (s.heap.update a (Obj.mapSeq fun _ => (#[] : Array Value))).push (seqObj "tuple" us.toArray 0)) fun b o eo => Heap.get?_push_of_some _ eo
  have I3 := I2.kept (t' := s.toks) (h' := ((s.heap.update a (Obj.mapSeq fun _ => (#[] : Array Value))).push (seqObj "tuple" us.toArray 0)).push (seqObj "list" #[] 0)) fun b o eo => Heap.get?_push_of_some _ eo
  have fk : FpOk X pins H ((s.heap.update a (Obj.mapSeq fun _ => (#[] : Array Value))).push (seqObj "tuple" us.toArray 0)).objs.size := I2.fpOk (Nat.le_refl _) (I2.hok.fresh (Nat.le_refl _))
  have nf1 : (s.heap.update a (Obj.mapSeq fun _ => (#[] : Array Value))).get? fa = some fo := (Heap.get?_update_ne _ _ _ _ hfa).trans nf
  exact key_rest (H0 := H0) (kS := ((s.heap.update a (Obj.mapSeq fun _ => (#[] : Array Value))).push (seqObj "tuple" us.toArray 0)).objs.size) I3 j kg fa_ fk ff (by rw [hkS]; exact Nat.ne_of_gt (Nat.lt_succ_of_lt ha)) hfa (by rw [hkS]; exact Nat.ne_of_lt (Nat.lt_succ_of_lt hf)) (Heap.get?_push_size _ rfl)
    (Heap.get?_push_of_some _ (Heap.get?_push_of_some _ ho1)) (Heap.get?_push_of_some _ (Heap.get?_push_of_some _ nf1)) hlen hZ hu turn m0 h
/-- behind the collecting: the new list is sorted -/
theorem key_list {Qv : PySem.Fin → Shared → Prop} {H0 : Hp} (I : Inv X pins σ H s) (j : KJ X.K at_ ρ st c' q H) (kg : KGood ks) (ff : H fa = none) (nf : s.heap.get? fa = some fo) (hlen : ks.length = us.length) (hZ : us.length ≤ sizeLine) (hu : A'.units + 70 < cLine)
    (turn : KTurn X at_ σ A'.in1 fa fo us ks ρ st c' q H0) (m0 : Mv ρ H0 ρ H)
    (h : ∀ (p : Addr) (H' : Hp) (s' : Shared) (out : List Value) (c : Nat), Inv X pins σ H' s' → Mv ρ H0 ρ H' → KJ X.K at_ ρ st c' q H' → H' p = none → FpOk X pins H' p → s'.heap.get? p = some (seqObj "list" out.toArray c) → PySem.W.KeyedOut false (ks.map dOf) us out → Qv (.done (.ret (.ref p))) s') :
    wpAny (model X.prog X.w) A' (do let l ← newList us; let _ ← holding [l] (call (.builtin "list.sort") [l] [(Str.ofString "key", .ref fa)]); ret l) Qv E s := by
  refine wpAny_bind (wpAny_newList ?_ hZ)
  have I1 := I.kept (t' := s.toks) (h' := s.heap.push (seqObj "list" us.toArray 0)) fun b o eo => Heap.get?_push_of_some _ eo
  have nn : H s.heap.objs.size = none := I.hok.fresh (Nat.le_refl _)
  have fp : FpOk X pins H s.heap.objs.size := I.fpOk (Nat.le_refl _) nn
  have hfs : fa ≠ s.heap.objs.size := Nat.ne_of_lt (Heap.lt_size nf)
  have hp : (s.heap.push (seqObj "list" us.toArray 0)).get? s.heap.objs.size = some (seqObj "list" us.toArray 0) := Heap.get?_push_size _ rfl
  refine wpAny_bind (wpAny_holding (wpAny_call_entry_kw slot_list_sort ⟨_, hp, rfl⟩ entry_list_sort ?_ (ksk_l1 _ _)))
  rw [ksk_t1]
  refine key_tree (H0 := H0) (s := { s with heap := s.heap.push (seqObj "list" us.toArray 0) }) I1 j kg fp ff hfs hp (Heap.get?_push_of_some _ nf) hlen hZ (by show A'.units + 1 + 60 < cLine; omega) turn m0 fun H' s' out c I' m' j' hn hg ho => ⟨_, rfl, ?_⟩
  exact wpAny_pure (h _ H' s' out c I' m' j' hn (fpOk_H fp hn) hg ho)
end
section
variable {X : Cx} {at_ : At} {pins : List (Addr × Obj)} {σ : L2.St} {H : Hp} {s : Shared} {fa : Addr} {fo : Obj} {ρ : Pl} {st : Store} {Q : VK} {Z : Value → Option Addr → Hp → Prop}
theorem each_zipL {α β γ : Type} {R : α → γ → Prop} : ∀ {ss : List β} {us : List α} {cs : List γ}, ss.length = cs.length → PySem.W.EachIs R us cs → PySem.W.EachIs (fun u b => R u b.2) us (ss.zip cs)
  | [], _, [], _, h => by
    cases h
    exact .nil
  | x :: ss, _, c :: cs, e, h => by
    cases h with
    | cons a b => exact .cons a (each_zipL (ss := ss) (cs := cs) (by simpa using e) b)
  | [], _, c :: cs, e, _ => by simp at e
  | x :: ss, _, [], e, _ => by simp at e
theorem zip_map3 {α β γ δ : Type} (f : β → δ) : ∀ (ss : List α) (cs : List β), (ss.zip cs).map (fun b => (b.1, f b.2)) = ss.zip (cs.map f)
  | [], _ => rfl
  | _ :: _, [] => rfl
  | x :: ss, c :: cs => by
    simp only [List.zip_cons_cons, List.map_cons]
    rw [zip_map3 (γ := γ) f ss cs]
theorem each_snd {α β γ : Type} {R : α → γ → Prop} : ∀ {us : List α} {L : List (β × γ)}, PySem.W.EachIs (fun u b => R u b.2) us L → PySem.W.EachIs R us (L.map (·.2))
  | _, _, .nil => .nil
  | _, _, .cons a b => .cons a (each_snd b)
theorem vals_at : ∀ {xs : List V} {us : List Value}, xs.length = us.length → (∀ (j : Nat) (u : Value), us[j]? = some u → ∃ x, xs[j]? = some x ∧ RelV x u) → Vals xs us
  | [], [], _, _ => .nil
  | x :: xs, u :: us, e, h => by
    obtain ⟨y, h1, h2⟩ := h 0 u rfl
    cases h1
    exact .cons h2 (vals_at (by simpa using e) fun j v hv => h (j + 1) v (by simpa using hv))
  | [], u :: us, e, _ => by simp at e
  | x :: xs, [], e, _ => by simp at e
theorem leaf_keys {K : PySem.W.Frag} : ∀ {kvs : List (T × T)} {ks : List (Leaf × V)}, RepF K at_ ρ H kvs ks → ∀ p ∈ ks, p.1 = .none ∨ ∃ x, p.1 = .text x
  | [], _, h, p, hp => by cases h; cases hp
  | (k, t) :: r, _, h, p, hp => by
    obtain ⟨q, v, s, rfl, h0, _, h2⟩ := h
    rcases List.mem_cons.mp
          hp with rfl | hp
    · cases k with
      | non => exact .inl h0
      | str x => exact .inr ⟨x, h0⟩
      | _ => exact h0.elim
    · exact leaf_keys h2 p hp
theorem leaf_val {P : Program} {w : World} {k : Leaf} {v : Value} (h : (leafKind P w).is k v = true) (hk : k = .none ∨ ∃ x, k = .text x) : RelV (lfV k) v := by
  have h : Leaf.isOf k v = true := h
  rcases hk with rfl | ⟨x, rfl⟩
  · cases v <;> first | rfl | exact absurd h Bool.false_ne_true
  · obtain ⟨t, rfl⟩ := Value.isStrOf_shape (show Value.isStrOf x v = true from h)
    exact ⟨t, rfl⟩
theorem key_fin {fz : Bool} {c' : Addr} {q : Str} {us : List Value} {vs : List V} {ts ws ks : List T} (hu : X.A.units + 130 < cLine) (I : Inv X pins σ H s) (j : KJ X.K at_ ρ st c' q H) (rl : RepL X.K at_ ρ H ts vs) (rv : Vals vs us) (hlen : ks.length = ts.length) (hz : ts.length ≤ big)
    (ff : H fa = none) (nf : s.heap.get? fa = some fo) (turn : KTurn X at_ σ X.A.in1.in1 fa fo us ks ρ st c' q H) (hsb : sortBy ks ts = some ws) (o : Out X.K at_ ρ H (mkL fz ws st) (Got X.K at_ Q) Z) :
    wpAny (model X.prog X.w) X.A.in1 (do let l ← newList us; let _ ← holding [l] (call (.builtin "list.sort") [l] [(Str.ofString "key", .ref fa)]); ret l) (fun f s' => ∃ v, f = .done (.ret v) ∧ EP X pins σ Q v s') (fun e s' => False) s := by
  have l1 : us.length = ts.length := by rw [rl.length, ← rv.length]
  obtain ⟨kg, ews⟩ := kgood_of hsb
  subst ews
  refine key_list (H0 := H) I j kg ff nf (by omega) (by rw [l1, ← big_line]; exact hz) (by show X.A.units + 1 + 70 < cLine; omega) turn Mv.refl fun p H' s' out c I' m j' hn hg ho hk => ⟨_, rfl, ?_⟩
  obtain ⟨sr', _⟩ := j'
  have rl' : RepL X.K at_ ρ H' ts vs := RepL.mv j.1.sep m _ _ rl
  have hzv : (ts.zip vs).length = ts.length := by rw [List.length_zip, rl.length, Nat.min_self]
  have each := each_zipL (ss := ks) (by rw [hzv]; exact hlen) (is2_zip (K := X.K) (at_ := at_) (ρ := ρ) (H := H') rl' rv)
  have hb : (ks.zip (ts.zip vs)).map (fun b => dOf b.1) = ks.map dOf := by
    have e1 := zip_fst (xs := ks) (ys := ts.zip vs) (by rw [hzv]; exact hlen)
    conv => rhs; rw [← e1, List.map_map]
    rfl
  rw [← hb] at hk
  have ko := PySem.W.keyedOut_each (fun b : T × (T × V) => dOf b.1) hk each
  have ko2 := each_snd ko
  obtain ⟨ro, rr⟩ := is2_out ko2
  have ef : (((ks.zip (ts.zip vs)).mergeSort (PySem.W.dataLe false fun b => dOf b.1)).map (·.2)).map (·.1) = (sortKD (ks.zip ts)).map (·.2) := by
    rw [sortKD_merge]
    have e1 := PySem.W.sort_maps (r := PySem.W.dataLe false fun b : T × (T × V) => dOf b.1) (s := PySem.W.dataLe false fun p : T × T => dOf p.1) (fun b : T × (T × V) => (b.1, b.2.1)) (l := ks.zip (ts.zip vs)) (fun _ _ _ _ => rfl)
    have e2 : (ks.zip (ts.zip vs)).map (fun b : T × (T × V) => (b.1, b.2.1)) = ks.zip ts := by
      rw [zip_map3 (γ := T) (fun b : T × V => b.1), zip_fst rl.length]
    rw [e2] at e1
    rw [← e1, List.map_map, List.map_map]
    rfl
  rw [ef] at rr
  have hl2 : ((((ks.zip (ts.zip vs)).mergeSort (PySem.W.dataLe false fun b => dOf b.1)).map (·.2)).map (·.2)).length ≤ sizeLine := by
    rw [List.length_map, List.length_map, List.length_mergeSort, List.length_zip, hzv, ← big_line]
    exact Nat.le_trans (Nat.min_le_right _ _) hz
  have I2 := I'.take (t' := s'.toks) (h' := s'.heap) (it := p) (o := .lst _) (fun _ _ _ e => e) hg ⟨hl2, _, c, ro, ho⟩
  exact ⟨.ref p, _, I2, rfl, fin_lst (o.mv m) sr' rr hn⟩
/-- sorted(d, key = f), sorted(l, key = f) -/
theorem key_call {fz : Bool} {c' d : Addr} {q : Str} {t : T} {ts ws ks : List T} (hcalm : X.calm = true) (hp : at_.pg = X.prog) (hw : at_.wd = X.w) (hu : X.A.units + 130 < cLine) (I : Inv X pins σ H s) (j : KJ X.K at_ ρ st c' q H) (r : Rep X.K at_ ρ H t (.ref d)) (ki : keyItems st t = some ts) (hlen : ks.length = ts.length) (hz : ts.length ≤ big)
    (ff : H fa = none) (nf : s.heap.get? fa = some fo) (turn : ∀ us vs, RepL X.K at_ ρ H ts vs → Vals vs us → KTurn X at_ σ X.A.in1.in1 fa fo us ks ρ st c' q H) (hsb : sortBy ks ts = some ws) (o : Out X.K at_ ρ H (mkL fz ws st) (Got X.K at_ Q) Z) :
    wpAny (model X.prog X.w) X.A (call (.builtin "sorted") [.ref d] [(Str.ofString "key", .ref fa)]) (EP X pins σ Q) X.xe s := by
  refine call_function_entry_kw kind_sorted plain_sorted entry_sorted (ksk_s1 _ _) ?_
  unfold Builtin.«sorted»
  refine wpAny_bind
        (m := checkCount "sorted" 1 1 _) (wpAny_pure ?_)
  have lists : ∀ vs, SqL X.K H d vs → RepL X.K at_ ρ H ts vs → wpAny (model X.prog X.w) X.A.in1 (do let l ← newList (← collect (.ref d)); let _ ← holding [l] (call (.builtin "list.sort") [l] [(Str.ofString "key", .ref fa)]); ret l) (fun f s' => ∃ v, f = .done (.ret v) ∧ EP X pins σ Q v s') (fun e s' => False) s := fun vs hs rl => by
    obtain ⟨its, rv, hl, hzz⟩ := I.list hs
    refine wpAny_bind (collect_list hl.isList ?_ (by rw [← rv.length]; exact hzz))
    refine key_fin hu (I.kept (t' := s.toks) fun b u e => ?_) j rl rv hlen hz ff ?_ (turn its vs rl rv) hsb o
    · rw [Heap.get?_update_ne _ _ _ _ (Nat.ne_of_lt (Heap.lt_size e))]
      exact
            Heap.get?_push_of_some _ e
    · show Heap.get? _ fa = _
      rw [Heap.get?_update_ne _ _ _ _ (Nat.ne_of_lt (Heap.lt_size nf))]
      exact Heap.get?_push_of_some _ nf
  have main : wpAny (model X.prog X.w) X.A.in1 (do let l ← newList (← collect (.ref d)); let _ ← holding [l] (call (.builtin "list.sort") [l] [(Str.ofString "key", .ref fa)]); ret l) (fun f s' => ∃ v, f = .done (.ret v) ∧ EP X pins σ Q v s') (fun e s' => False) s := by
    unfold keyItems at ki
    split at ki
    · rename_i l
      obtain ⟨a, ea, hla⟩ := r
      cases ea
      split at ki
      · rename_i kvs e
        cases ki
        obtain ⟨ks, h1, h2⟩ := ldc_at j.1 hla e
        rw [hp, hw] at h1
        obtain ⟨zz, lo, vs, rel, dd⟩ := lf_of I.hok h1
        obtain ⟨ep, hat⟩ := dd.dictAt
        have hvl : vs.length = (kvs.map (·.1)).length := by rw [List.length_map, repF_length h2, ← rel.length]
        refine wpAny_bind (PySem.W.kdu_collect (A := X.A.in1) (PySem.W.kdl_dict (knd := leafKind X.prog X.w) (kvs := vs) (ep := ep) lo) (I.ok.hd hcalm) hat (by rw [hvl, ← big_line]; exact hz) fun h' tk acc hk hacc => ?_)
        have rv : Vals (ks.map fun p => lfV p.1) acc.toList := by
          refine vals_at ?_ fun j u hj => ?_
          · have e1 : acc.toList.length = vs.length := by rw [Array.length_toList]; exact hacc.1
            rw [List.length_map, e1]
            exact rel.length
          · obtain ⟨k, x, e1, e2⟩ := hacc.2 j u (by rw [← Array.getElem?_toList]; exact hj)
            have e3 : (ks.map (·.1))[j]? = some k := by
              rw [rel.keys, List.getElem?_map, e1]
              rfl
            rw [List.getElem?_map] at e3
            obtain ⟨pq, hpq, epq⟩ := Option.map_eq_some_iff.mp e3
            refine ⟨lfV k, by rw [List.getElem?_map, hpq, ← epq]; rfl, leaf_val e2 ?_⟩
            rw [← epq]
            exact leaf_keys h2 pq (List.mem_of_getElem? hpq)
        exact key_fin (s := { s with heap := h', toks := tk }) hu (I.kept (t' := tk) hk) j (repF_keys h2) rv hlen hz ff (hk _ _ nf) (turn _ _ (repF_keys h2) rv) hsb o
      · rename_i us e
        cases ki
        obtain ⟨vs, h1, h2⟩ := j.1.cell l _ _ hla e
        exact lists vs (.of h1) h2
      · cases ki
    · obtain ⟨a, vs, ea, h1, h2⟩ := r
      cases ea
      cases ki
      exact lists vs h1.seq h2
    · cases ki
  refine wpAny_mono main (fun f s' h => ?_) fun e s' h => h.elim
  obtain ⟨v, rfl, h⟩ := h
  exact ⟨v, rfl, h⟩
end
/-! ### a lambda with one parameter -/
def onePar (x : Str) : Arguments → Bool
  | ⟨[], [a], none, [], [], none, []⟩ => decide (a.arg = x)
  | _ => false
theorem bind_one (a : Arg) (q : Str) (body : Expr) (scope : Scope) (cl : List (Str × Addr)) (pm cv ctv u : Value) : bindArgs (PySem.W.kla_fn "<lambda>" q ⟨[], [a], none, [], [], none, []⟩ body scope cl pm cv ctv) ⟨[u], []⟩ = pure [(a.arg, u)] := by
  unfold bindArgs
  simp [seqItems?, List.lookup]
  rfl
theorem onePar_bind {x : Str} {params : Arguments} (h : onePar x params = true) : (∀ (q : Str) (body : Expr) (scope : Scope) (cl : List (Str × Addr)) (pm cv ctv u : Value), bindArgs (PySem.W.kla_fn "<lambda>" q params body scope cl pm cv ctv) ⟨[u], []⟩ = pure [(x, u)]) ∧ ∀ env, defaultsOf params env = ([], []) := by
  unfold onePar at h
  split at h
  · rename_i a
    have e : a.arg = x := of_decide_eq_true h
    subst e
    exact ⟨fun q body scope cl pm cv ctv u => bind_one a q body scope cl pm cv ctv u, fun _ => rfl⟩
  · cases h
theorem clo_none {cells : List (Str × Addr)} : ∀ {names : List (Str × NameKind)} {acc : List (Str × Addr)}, (∀ y ∈ names, y.2 ≠ .free) → cloFrom cells names acc = acc
  | [], acc, _ => rfl
  | (n, kd) :: r, acc, h => by
    have h1 := h (n, kd) List.mem_cons_self
    unfold cloFrom
    have ih := clo_none (cells := cells) (names := r) (acc := acc) fun y hy => h y (List.mem_cons_of_mem _ hy)
    cases kd <;> first | exact absurd rfl h1 | exact ih
mutual
theorem res_noLoc : ∀ {t u : T}, res [] t = some u → noLoc t = true
  | .non, _, _ => rfl
  | .bl _, _, _ => rfl
  | .int _, _, _ => rfl
  | .str _, _, _ => rfl
  | .fn _, _, _ => rfl
  | .scr _, _, _ => rfl
  | .act, _, h => by cases h
  | .loc _, _, h => by simp [res] at h
  | .tup ts, _, h => by
    obtain ⟨us, e, _⟩ := Option.map_eq_some_iff.mp (show (resL [] ts).map T.tup = some _ from h)
    exact resL_noLoc e
  | .lst ts, _, h => by
    obtain ⟨us, e, _⟩ := Option.map_eq_some_iff.mp (show (resL [] ts).map T.lst = some _ from h)
    exact resL_noLoc e
  | .dct kvs, _, h => by
    simp only [res] at h
    split at h
    · assumption
    · cases h
theorem resL_noLoc : ∀ {ts us : List T}, resL [] ts = some us → noLocL ts = true
  | [], _, _ => rfl
  | t :: ts, _, h => by
    simp only [resL] at h
    split at h
    · rename_i u us e1 e2
      simp only [noLocL, res_noLoc e1, resL_noLoc e2, Bool.and_self]
    · cases h
end
theorem keyVals_at {f : T → Res T} : ∀ {ts ks : List T} {i : Nat} {kt : T}, keyVals f ts = some ks → ks[i]? = some kt → ∃ t st2, ts[i]? = some t ∧ f t = .ok kt st2 ∧ (toPy kt).isSome = true
  | [], _, i, kt, h, hk => by cases h; simp at hk
  | t :: ts, _, i, kt, h, hk => by
    simp only [keyVals] at h
    split at h
    · rename_i v st' e
      split at h
      · rename_i hp
        obtain ⟨xs, e2, rfl⟩ := Option.map_eq_some_iff.mp h
        cases i with
        | zero => simp at hk; subst hk; exact ⟨t, st', rfl, e, hp⟩
        | succ i =>
          obtain ⟨t', st2, h1, h2⟩ := keyVals_at e2 (i := i) (by simpa using hk)
          exact ⟨t', st2, by simpa using h1, h2⟩
      · cases h
    · cases h
theorem keyVals_len {f : T → Res T} : ∀ {ts ks : List T}, keyVals f ts = some ks → ks.length = ts.length
  | [], _, h => by cases h; rfl
  | t :: ts, _, h => by
    simp only [keyVals] at h
    split at h
    · split at h
      · obtain ⟨xs, e2, rfl⟩ := Option.map_eq_some_iff.mp h
        simp [keyVals_len e2]
      · cases h
    · cases h
section
variable {X : Cx} {at_ : At} {pins : List (Addr × Obj)} {σ : L2.St} {H : Hp} {s : Shared} {fa : Addr} {ρ : Pl} {st : Store} {W : WX} {c : Cf}
/-- the context of the lambda's body -/
abbrev lamC (X : Cx) (x : Str) (scope : Scope) (A : Around) (s : Shared) (H : Hp) (f c' : Addr) : Cx := cxOf (L2.CX X.prog X.w) X.prog X.w X.K X.mg X.base [x] (X.env.qual ++ "<lambda>") scope f (.ref c') A X.stack s H fun _ _ _ => False
theorem room_key {k : Nat} {A : Around} (r : Room (k + 2) A) (env : PySem.Env) : Room k (A.in1.in1.deeper env) :=
  ⟨r.hd, by have := r.dp; show A.depth + 1 + 3 * k + 5 < _; omega, by have := r.un; show A.units + 1 + 1 + 3 + 16 * k + 200 < _; omega⟩
theorem lam_turn {k : Nat} {x : Str} {params : Arguments} {body : Expr} {scope : Scope} {pm ctv : Value} {c' : Addr} {u : E} {ts ks : List T} {vs : List V} {us : List Value} (S : FnScope [x] [x] scope) (hpar : onePar x params = true) (hgd : X.A.guards = some []) (hr : Room (k + 2) X.A) (hfr : fa ∉ frs X.stack)
    (hbody : ∀ (A : Around) (s : Shared) (H : Hp), A.guards = some [] → Room k (A.deeper (envOfC (X.env.qual ++ "<lambda>") scope s.heap.objs.size fa (.ref c'))) → PE (lamC X x scope A s H fa c') body (tE X.K at_ noX fun env st => evE c.dn u env st))
    (sr0 : StRep X.K at_ ρ H st) (rl : RepL X.K at_ ρ H ts vs) (rv : Vals vs us) (hks : keyVals (fun t => if resL [] [t] = some [t] then evE c.dn u [some t] [] else .no) ts = some ks) :
    KTurn X at_ σ X.A.in1.in1 fa (PySem.W.kla_obj "<lambda>" (X.env.qual ++ "<lambda>") params body scope (cloFrom X.env.cells scope.names []) pm c' ctv) us ks ρ st c' (X.env.qual ++ "<lambda>") H := by
  intro i w kt hw hk pins' H' s' I' m j' nf hf
  obtain ⟨sr', hc'⟩ := j'
  -- the item, its key
  obtain ⟨t, st2, ht, hev, hpy⟩ := keyVals_at hks hk
  have hres : resL [] [t] = some [t] := by
    by_cases z : resL [] [t] = some [t]
    · exact z
    · rw [if_neg z] at hev; cases hev
  rw [if_pos hres] at hev
  obtain ⟨v, hv, rt⟩ := rl.getT ht
  have rt' := Rep.mv sr0.sep m _ _ rt
  have rvw : RelV v w := by
    obtain ⟨w', hw', r⟩ := Vals.get rv hv
    rw [hw] at hw'
    cases hw'
    exact r
  have nl : noLocL [t] = true := resL_noLoc hres
  have nl1 : noLoc t = true := by
    simp only [noLocL, Bool.and_true] at nl
    exact nl
  have aw : StRep X.K at_ ⟨[], ρ.pl ++ ρ.hd⟩ H' [] := sr'.away fun a ha => List.mem_append.mp ha
  have ra : Rep X.K at_ ⟨[], ρ.pl ++ ρ.hd⟩ H' t v := rep_sight (fun a hn z => z.elim (fun (z : a ∈ ([] : List Addr)) => absurd z (by simp)) fun z => hn (List.mem_append.mp z)) nl1 rt'
  have er : EnvRep X.K at_ ⟨[], ρ.pl ++ ρ.hd⟩ H' (L2.start [x] [v]) [some t] := envRep_start (d := ⟨1, 1, []⟩) (N := [x]) (ts := [t]) (vs := [v]) ⟨v, [], rfl, ra, rfl⟩ rfl (Nat.le_refl _) rfl
  have goal : tE X.K at_ noX (fun env st => evE c.dn u env st) (L2.start [x] [v]) H' (fun v' H1 => Rep X.K at_ ρ H1 kt v' ∧ Mv ρ H' ρ H1 ∧ KJ X.K at_ ρ st c' (X.env.qual ++ "<lambda>") H1) := by
    refine ⟨⟨[], ρ.pl ++ ρ.hd⟩, [some t], [], er, aw, ?_⟩
    show Out _ _ _ _ (evE c.dn u [some t] []) _ _
    rw [hev]
    intro ρ1 H1 m1 s1 v' rv'
    obtain ⟨d, hd⟩ := Option.isSome_iff_exists.mp hpy
    have nk : noLoc kt = true := res_noLoc (toPy_res (st := []) hd)
    have hh : ρ1.hd = ρ.pl ++ ρ.hd := by obtain ⟨mm, em, _⟩ := m1.grow; rw [em]; rfl
    refine ⟨rep_sight (fun a hn z => hn (.inr ?_)) nk rv', Mv.back (p := []) m1, sr'.back m1 s1.tab, m1.ext _ _ hc' (by simp) (fun ps z => by unfold LamX.CodeO at z; cases z)⟩
    rw [hh]
    exact List.mem_append.mpr z
  -- the call
  have rc : codeAny (model X.prog X.w) X.A.in1.in1 (.call (.ref fa) ⟨[w], []⟩) (CR (L2.CX X.prog X.w) X.stack X.prog X.w H' s' (fun v' H1 => Rep X.K at_ ρ H1 kt v' ∧ Mv ρ H' ρ H1 ∧ KJ X.K at_ ρ st c' (X.env.qual ++ "<lambda>") H1) fun _ _ _ => False) s' := by
    obtain ⟨⟨oc, vs0, tq, hoc, hdc, hvc⟩, _, _⟩ := I'.hok c' _ hc'
    refine PySem.W.kla_callFunE (show X.A.in1.in1.depth < _ from hr.depth) nf rfl S.co S.gen rfl ⟨c', oc, vs0, tq, rfl, hoc, hdc, hvc⟩ ?_
    rw [(onePar_bind hpar).1]
    refine wpAny_pure ?_
    show wpAny _ _ (newFunctionEnv scope mainGlobals (cloFrom X.env.cells scope.names []) [(x, w)] _ (some fa) (.ref c') none builtinsNs) _ _ _
    rw [clo_none S.nofree]
    refine wpAny_newFunctionEnv_cells S.kind (fun y hy => ?_) fun env he s1 xx => ?_
    · have e : y = (x, w) := by simpa using hy
      subst e
      rcases S.par x (by simp) with z | z
      · exact .inl z
      · exact .inr ⟨z, PySem.W.cellsFrom_some _ _ _ (.inl z)⟩
    · subst he
      refine ⟨I'.nolimit.keeps xx.toInCall.keep, ?_⟩
      have J : Inv (lamC X x scope X.A.in1.in1 s' H' fa c') [] (L2.start [x] [v]) H' s1 := inv_start (ps := [x]) (us := [w]) (vs := [v]) S hr.hd I'.env0.in1.in1 rfl (.cons rvw .nil) xx
      refine PySem.W.kla_codeExpr (wpAny_mono ((hbody X.A.in1.in1 s' H' hgd (room_key hr _)).run [] s1 _ H' _ J goal) (fun r s'' hq => ?_) fun e s'' hq => hq)
      obtain ⟨v', H1, J', rv', q⟩ := hq
      exact ⟨v', H1, J'.os, J'.bare, J'.base, J'.hok, rv', q⟩
  refine wpAny_call (codeAny_mono rc fun r s'' hq => ?_)
  match r, hq with
  | .ok (.ret u'), hq =>
    obtain ⟨v', H1, os, bare, un, hok, r, q1, q2, q3⟩ := hq
    exact ⟨H1, v', r, q1, I'.call' (ch := []) os un hok bare (fun b z => absurd z (by simp)), q2, q3, un.keep fa _ nf hf hfr (by simp), un.free fa _ nf hf (by simp)⟩
  | .ok .next, hq => exact hq.elim
  | .ok .brk, hq => exact hq.elim
  | .ok .cont, hq => exact hq.elim
  | .error e, hq => exact (by
      obtain ⟨_, _, _, _, _, _, _, _, _, _, _, _, z⟩ := hq
      exact (show False from z).elim)
theorem keyItems_ref {K : PySem.W.Frag} {t : T} {v : V} {ts : List T} (r : Rep K at_ ρ H t v) (h : keyItems st t = some ts) : ∃ d, v = .ref d := by
  unfold keyItems at h
  split at h
  · obtain ⟨a, e, _⟩ := r; exact ⟨a, e⟩
  · obtain ⟨a, vs, e, _⟩ := r; exact ⟨a, e⟩
  · cases h
/-- sorted(o, key = lambda x: body) -/
theorem e_lsrt {k : Nat} {oe body : Expr} {p pos lpos kpos : Pos} {params : Arguments} {scope : Scope} {x : Str} {fz : Bool} {o u : E} {cc P : Addr} (hp : at_.pg = X.prog) (hw : at_.wd = X.w) (hcalm : X.calm = true) (hu : X.A.units + 130 < cLine) (hgd : X.A.guards = some []) (hgs : Gl X "sorted") (hm : X.mg "sorted" = none)
    (TB : LamX.TabB X.base X.mg cc P) (hcode : X.env.code = .ref cc) (hmT : (P, X.env.qual ++ "<lambda>") ∈ at_.tb) (huT : ∀ p ∈ at_.tb, p.1 = P → p.2 = X.env.qual ++ "<lambda>") (hr : Room (k + 2) X.A) (S : FnScope [x] [x] scope) (hpar : onePar x params = true)
    (ho : PE X oe (tE X.K at_ W fun env st => evE c o env st)) (hso : starEach [oe] X.env = [(false, eval oe X.env)])
    (hbody : ∀ (f c' : Addr) (A : Around) (s : Shared) (H : Hp), A.guards = some [] → Room k (A.deeper (envOfC (X.env.qual ++ "<lambda>") scope s.heap.objs.size f (.ref c'))) → PE (lamC X x scope A s H f c') body (tE X.K at_ noX fun env st => evE c.dn u env st)) :
    PE X (.Call (.Name "sorted" p) [oe] [⟨some "key", .Lambda params body scope lpos, kpos⟩] pos) (tE X.K at_ W fun env st => evE c (.lsrt fz o u) env st) := by
  refine ⟨fun pins s σ H Q I ⟨ρ, env, st, er, sr, ot⟩ => ?_⟩
  simp only [evE] at ot
  refine wpAny_Call_Name_kw (ld_blt I hgs hm (by rfl) ?_ (by decide) (by decide))
  have hA := (pa_cons (es := []) ho pa_nil hso).run pos pins s σ H (fun vs H1 => ∃ ρ1 st1 t v ts ks ws, vs = [v] ∧ StRep X.K at_ ρ1 H1 st1 ∧ Rep X.K at_ ρ1 H1 t v ∧ keyItems st1 t = some ts ∧ keyVals (fun t => if resL [] [t] = some [t] then evE c.dn u [some t] [] else .no) ts = some ks ∧ ts.length ≤ big ∧ sortBy ks ts = some ws ∧ Out X.K at_ ρ1 H1 (mkL fz ws st1) (Got X.K at_ Q) (fun cls d H' => W cls d σ H')) I ?_
  · refine PyProof.Rows.callWith_kw (thn hA fun us s1 ⟨vs, H1, I1, r1, ρ1, st1, t, v, ts, ks, ws, ev, sr1, rt, ki, kv, hz, hsb, o1⟩ => ?_) (by rw [hso]; rfl) (by rw [hso]; rfl)
    subst ev
    obtain ⟨w, rfl, rw1⟩ := vals1 r1
    obtain ⟨d, rfl⟩ := keyItems_ref rt ki
    cases rw1
    obtain ⟨hbind, hdef⟩ := onePar_bind hpar
    show wpAny _ _ (evalAll ((do let v ← eval (.Lambda params body scope lpos) X.env; standAt pos; pure v) :: [])) _ _ s1
    refine wpAny_evalAll_cons (wpAny_bind (LamX.lam_make2 I1 TB hcode hmT huT sr1.tab (hdef _) (fun y hy e => absurd e (S.nofree y hy)) fun f c' pm ctv H2 s2 I2 eN T2 hf hfn hfr hco => wpAny_bind (wpAny_standAt (wpAny_pure (wpAny_evalAll_nil ?_)))))
    show wpAny _ _ (call (.builtin "sorted") [.ref d] [(Str.ofString "key", .ref f)]) _ _ s2
    have m2 : Mv ρ1 H1 ρ1 H2 := .extN eN
    have sr2 := sr1.extN eN T2
    exact key_call (c' := c') (q := X.env.qual ++ "<lambda>") hcalm hp hw hu I2 ⟨sr2, hco⟩ (Rep.mv sr1.sep m2 _ _ rt) ki (keyVals_len kv) hz hfn hf (fun us vs rl rv => lam_turn S hpar hgd hr hfr (hbody f c') sr2 rl rv kv) hsb (o1.mv m2)
  · refine tE_then (f := fun env st => evE c o env st) (g := fun x env st => if c.top = true then (match keyItems st x with
      | some ts => match keyVals (fun t => if resL [] [t] = some [t] then evE c.dn u [some t] [] else .no) ts with
        | some ks => if ts.length ≤ big then (match sortBy ks ts with
          | some us => mkL fz us st
          | none => .no) else .no
        | none => .no
      | none => .no) else .no) er sr ot fun t ρ1 H1 st1 v er1 s1 m1 r1 o1 => ?_
    obtain ⟨_, o1⟩ := o1.iteN
    cases ki : keyItems st1 t with
    | none => simp only [ki] at o1; exact o1.elim
    | some ts =>
      simp only [ki] at o1
      cases kv : keyVals (fun t => if resL [] [t] = some [t] then evE c.dn u [some t] [] else .no) ts with
      | none => simp only [kv] at o1; exact o1.elim
      | some ks =>
        simp only [kv] at o1
        obtain ⟨hz, o1⟩ := o1.iteN
        cases hsb : sortBy ks ts with
        | none => simp only [hsb] at o1; exact o1.elim
        | some ws =>
          simp only [hsb] at o1
          exact ⟨ρ1, st1, t, v, ts, ks, ws, rfl, s1, r1, ki, kv, hz, hsb, o1⟩
theorem e_lsrt_no {oe le : Expr} {p pos kpos : Pos} {fz : Bool} {o u : E} (ht : ¬ c.top = true) (hgs : Gl X "sorted") (hm : X.mg "sorted" = none) (ho : PE X oe (tE X.K at_ W fun env st => evE c o env st)) (hso : starEach [oe] X.env = [(false, eval oe X.env)]) :
    PE X (.Call (.Name "sorted" p) [oe] [⟨some "key", le, kpos⟩] pos) (tE X.K at_ W fun env st => evE c (.lsrt fz o u) env st) := by
  refine ⟨fun pins s σ H Q I ⟨ρ, env, st, er, sr, ot⟩ => ?_⟩
  simp only [evE, if_neg ht] at ot
  refine wpAny_Call_Name_kw (ld_blt I hgs hm (by rfl) ?_ (by decide) (by decide))
  have hA := (pa_cons (es := []) ho pa_nil hso).run pos pins s σ H (fun vs H1 => False) I ?_
  · exact PyProof.Rows.callWith_kw (thn hA fun us s1 ⟨vs, H1, I1, r1, z⟩ => z.elim) (by rw [hso]; rfl) (by rw [hso]; rfl)
  · exact tE_then (f := fun env st => evE c o env st) (g := fun x env st => (.no : Res T)) er sr ot fun t ρ1 H1 st1 v er1 s1 m1 r1 o1 => o1.elim
end
end Lw
set_option Elab.async false
set_option linter.all false
set_option maxRecDepth 100000
/-! LwX: own exceptions that keep two values: class C(..): def __init__(self, a, b): super().__init__(a, b); self.a = a; self.b = b. -/
namespace Lw
open PySem PySem.Spec L2 PyProof.Rows

abbrev veB : List Value := [.type "ValueError", .type "Exception", .type "BaseException", .type "object"]
/-- the suite of such an __init__ -/
def supB (sf pa pb : Str) (q : Nat → Pos) : List Stmt :=
  [.Expr (.Call (.Attribute (.Call (.Name "super" (q 0)) [] [] (q 1)) "__init__" (q 2)) [.Name pa (q 3), .Name pb (q 4)] [] (q 5)) (q 6),
   .Assign [.Attribute (.Name sf (q 7)) pa (q 8)] (.Name pa (q 9)) (q 10),
   .Assign [.Attribute (.Name sf (q 11)) pb (q 12)] (.Name pb (q 13)) (q 14)]

section
variable {prog : Program} {w : World} {K : PySem.W.Frag} {mg : Str → Option Value} {base : Heap}
      {A : Around} {R : Result → Shared → Prop} {h1 : Heap} {gg : Array GenState} {dr : Drawn} {tk : Nat} {os : OsState}
  {a C fI cc cda t0 : Addr} {u v : Value} {sf pa pb qual : Str} {q : Nat → Pos} {params : Arguments} {scope : Scope} {dV kV doc pm ct oc ccl cl : Value} {an od cdd cld : Option Addr} {osl ccs csl : Array (Option Value)} {vs : Array Value} {file : Str} {tf : Tok} {ar : Arg}
theorem sup_init (M : Mod K mg base) (kb : ∀ b o, base.get? b = some o → h1.get? b = some o) (ha : base.get? a = none)
    (O : OexC K C) (exi : PySem.W.excInitIn K C veB "ValueError.__new__" = true) (ve : PySem.W.subIn K (.ref C) (.type "ValueError") = some true) (slf : PySem.W.mroIn K C (.ref C) = some true)
    (sup : PySem.W.ks_superIn K C C "__init__" = some (some (.builtin "ValueError.__init__"))) (tp : PySem.W.nsIn K cStatics "thirdparty.any" = some none) (ns : mg "super" = none)
    (fa : PySem.W.findIn K (.ref C) pa = some none) (fb : PySem.W.findIn K (.ref C) pb = some none)
    (lk : K.lookup fI = some ⟨oc, od, .func (PySem.W.ksFn "__init__" qual params (supB sf pa pb q) scope dV kV doc pm an (.ref cda) ct cc), osl⟩) (hcd : PySem.W.codeIn K (.ref cda) qual = true)
    (lc : K.lookup cda = some ⟨ccl, cdd, .fields vs, ccs⟩) (hvs : vs[2]? = some (.str file tf)) (hfile : ((prog.main.file : Str) == file) = true) (lcc : K.lookup cc = some ⟨cl, cld, .cell (some (.ref C)), csl⟩)
    (s1 : scope.names.lookup ("super" : Str) = some .globalImplicit) (s2 : scope.names.lookup ("__class__" : Str) = some .free) (s3 : scope.names.lookup sf = some .local) (s4 : scope.names.lookup pa = some .local) (s5 : scope.names.lookup pb = some .local)
    (s6 : scope.kind = .function) (s7 : scope.isCoroutine = false) (s8 : scope.isGenerator = false) (s9 : ∀ x ∈ scope.names, x.2 ≠ .cell)
    (hp : (params.posonlyargs ++ params.args).head? = some ar) (har : ar.arg = sf) (htop : (prog.main.scope.names.lookup ("super" : Str)).isSome = false)
    (hbd : L2.Binds K (PySem.W.ksFn "__init__" qual params (supB sf pa pb q) scope dV kV doc pm an (.ref cda) ct cc) [sf, pa, pb] [])
    (n1 : sf ≠ pa) (n2 : sf ≠ pb) (n3 : pa ≠ pb) (d1 : (sf == ("__debug__" : Str)) = false) (d2 : (pa == ("__debug__" : Str)) = false) (d3 : (pb == ("__debug__" : Str)) = false) (hline : ((q 2).endLine == (q 5).line) = true)
    (he : h1.get? a = some (PySem.W.excObj C t0 none .none)) (hroom : A.depth < recursionLimit)
    (hq : ∀ h' dx t0' tk' m, (∀ b o, b ≠ a → h1.get? b = some o → h'.get? b = some o) → h1.objs.size ≤ dx → h'.get? a = some (PySem.W.excObj C t0' (some dx) .none) → h'.Ns1 dx m → m pa = some u → m pb = some v → (∀ y, y ≠ pa → y ≠ pb → m y = none) →
      R (.ok (.ret .none)) ⟨h', gg, dr, tk', os⟩) :
    codeAny (model prog w) A (.call (.ref fI) ⟨[.ref a, u, v], []⟩) R ⟨h1, gg, dr, tk, os⟩ := by
  have KX : K.In h1 := M.kin.keeps kb
  obtain ⟨nm, q0, N0, bs, bm, sn, sub, ab, col, dd, k0, k1, k2, k3, k5, hC, hbm⟩ := O.cls
  have hcl : PySem.W.clsIn K C = some { name := nm, bases := bs, mro := .ref C :: bm, ns := N0, qualname := q0, hasDict := true, slotNames := sn, subclasses := sub, abstract := ab, collection := col, hasDel := false } := by unfold PySem.W.clsIn; rw [hC] <;> rfl
  refine ks_codeAny_call_defAt (fd := PySem.W.ksFn "__init__" qual params (supB sf pa pb q) scope dV kV doc pm an (.ref cda) ct cc) (body := supB sf pa pb q) (binds := [(sf, .ref a), (pa, u), (pb, v)]) hroom (KX _ _ lk) rfl (M.nolimit.keeps kb) (PySem.W.codeRec_of KX hcd) rfl
    (by have := hbd ⟨h1, gg, dr, tk, os⟩ [.ref a, u, v] KX rfl; exact this) s9 (fun x hx => ?_) (fun h2 hns hk2 => ?_) s7 s8 s6
  · simp only [List.mem_cons, List.not_mem_nil, or_false] at hx
    rcases hx with rfl | rfl | rfl <;> assumption
  generalize hm : (fun y : Str => ([(sf, Value.ref a), (pa, u), (pb, v)] : List (Str × Value)).reverse.lookup y) = m at hns
  have ms : m sf = some (.ref a) := by
    rw [← hm]
    show List.lookup sf [(pb, v), (pa, u), (sf, Value.ref a)] = _
    simp only [List.lookup_cons, beq_eq_false_iff_ne.mpr n2, beq_eq_false_iff_ne.mpr n1, beq_self_eq_true]
  have mA : m pa = some u := by
    rw [← hm]
    show List.lookup pa [(pb, v), (pa, u), (sf, Value.ref a)] = _
    simp only [List.lookup_cons, beq_eq_false_iff_ne.mpr n3, beq_self_eq_true]
  have mB : m pb = some v := by
    rw [← hm]
    show List.lookup pb [(pb, v), (pa, u), (sf, Value.ref a)] = _
    simp only [List.lookup_cons, beq_self_eq_true]
  have hab : ∀ {b : Addr} {o : Obj}, base.get? b = some o → b ∉ [a] := fun {b o} e z => by
    have : b = a := by simpa using z
    rw [this, ha] at e
    cases e
  have X0 : K.In (PySem.W.hideAll h1 [a]) := M.kin.keeps fun b o e => PySem.W.hideAll_get _ (kb b o e) (hab e)
  have al : a < h1.objs.size := Heap.lt_size he
  have F1 : Fr (PySem.W.hideAll h1 [a]) h1.objs.size h2 m := ⟨hns, fun b o e => hk2 b o (PySem.W.of_hideAll _ e), Nat.le_of_eq (PySem.W.hideAll_size _ _)⟩
  have W1 : News (PySem.W.hideAll h1 [a]) h1.objs.size h2 [(a, PySem.W.excObj C t0 none .none)] := fun p hp => by
    have : p = (a, PySem.W.excObj C t0 none .none) := by simpa using hp
    subst this
    exact ⟨hk2 _ _ he, Nat.ne_of_lt al, PySem.W.hideAll_none _ List.mem_cons_self⟩
  have kb2 : ∀ {h : Heap}, Fr (PySem.W.hideAll h1 [a]) h1.objs.size h m → ∀ b o, base.get? b = some o → h.get? b = some o := fun {h} F b o e => F.keep b o (PySem.W.hideAll_get _ (kb b o e) (hab e))
  -- super().__init__(pa, pb)
  refine ks_wpAt_execs_cons (ks_wpAt_Expr_any (ks_wpAt_MethodCall (pl := do return (← importBound (.Call (.Name "super" (q 0)) [] [] (q 1)) (PySem.W.ksEnv qual scope h1.objs.size fI (.ref cda) cc)).getD true) ?_ ?_) (by show interactive (PySem.W.ksEnv qual scope h1.objs.size fI (.ref cda) cc) = false; unfold interactive; show (scope.kind == .module && _) = false; rw [s6]; rfl))
  rotate_left
  · have hpos : methodCallPos true (.Call (.Name "super" (q 0)) [] [] (q 1)) (PySem.W.ksEnv qual scope h1.objs.size fI (.ref cda) cc) (q 2) (q 5) = pure (q 5) := by unfold methodCallPos; simp [hline]
    show (do
      let ov ← attributeBase (.Call (.Name "super" (q 0)) [] [] (q 1)) "__init__" (PySem.W.ksEnv qual scope h1.objs.size fI (.ref cda) cc) (eval (.Call (.Name "super" (q 0)) [] [] (q 1)) (PySem.W.ksEnv qual scope h1.objs.size fI (.ref cda) cc))
      standAt (q 2).atName
      (do
        let (f, first) ← holding [ov] (getMethod ov "__init__" (do return (← importBound (.Call (.Name "super" (q 0)) [] [] (q 1)) (PySem.W.ksEnv qual scope h1.objs.size fI (.ref cda) cc)).getD true))
        let callPos ← methodCallPos true (.Call (.Name "super" (q 0)) [] [] (q 1)) (PySem.W.ksEnv qual scope h1.objs.size fI (.ref cda) cc) (q 2) (q 5)
        callWith callPos f first _ _)) = _
    rw [hpos]
    rfl
  have X2 : K.In h2 := M.kin.keeps (kb2 F1)
  obtain ⟨mb, g1, g2⟩ := M.blt
  refine ks_wpAt_super_base (env := PySem.W.ksEnv qual scope h1.objs.size fI (.ref cda) cc) s1 s2 rfl rfl (X2 _ _ lk) rfl hp rfl (X2 _ _ lc) rfl hvs hfile htop ?_
  refine PySem.W.ks_loadName_global s6 s1 (Calls.loadGlobal_builtin (M.glob.keeps (kb2 F1)) ns (g1.keeps (kb2 F1)) ((g2 "super" (by decide +kernel)).trans (by first | exact PyProof.Rows.Boot.«super» | decide +kernel)) ⟨rfl, ?_⟩)
  refine wpAny_loadName_free s6 s2 rfl ⟨_, X2 _ _ lcc, rfl⟩ ?_
  rw [har]
  refine wpAny_loadName_local s6 s3 F1.ns ms ?_
  refine ks_wpAny_isType_cls (X2 _ _ hC) rfl ⟨rfl, ?_⟩
  refine ks_wpAny_call_super (X2 _ _ hC) rfl (W1 _ List.mem_cons_self).1 rfl (fun c e => by cases e) (PySem.W.looks_mroIn X2 slf) (fun h3 e3 k3' => ?_)
  obtain ⟨F3, W3, l3⟩ := PySem.W.ks_newsPush (s := ⟨h2, gg, dr, tk + 3, os⟩) F1 W1 rfl e3 k3'
  refine PySem.W.kxs_method PySem.W.kxs_ValueError F3 X0 W3 List.mem_cons_self (PySem.W.InstAt.of_exc0 W3 (List.mem_cons_of_mem _ List.mem_cons_self)) tp sup ve rfl fun mw h4 F4 W4 l4 => ?_
  refine PySem.W.kxs_callWith1 W4 List.mem_cons_self (Calls.spliced_cons (wpAny_Name (wpAny_loadName_local s6 s4 F4.ns mA (Calls.spliced_cons (wpAny_Name (wpAny_loadName_local s6 s5 F4.ns mB (Calls.spliced_nil ⟨PySem.W.kxs_at W4 List.mem_cons_self, ?_⟩)) d3))) d2)) (by rfl) (by rfl)
  have uq : PySem.W.UpdF a (PySem.W.excObj C t0 none .none) _ _ := .tail (p := (mw, PySem.W.kxs_mw "ValueError.__init__" a)) (fun z => absurd (l4 _ (List.mem_cons_of_mem _ List.mem_cons_self)) (by rw [show mw = a from z]; exact Nat.lt_irrefl _))
    (.tail (p := (h2.objs.size, PySem.W.ks_superObj C a C)) (fun z => absurd (l3 _ List.mem_cons_self) (by rw [show h2.objs.size = a from z]; exact Nat.lt_irrefl _)) (.head (r := []) fun p hp => by cases hp))
  refine PySem.W.kxs_call F4 X0 W4 PySem.F.excBase_ValueError exi List.mem_cons_self uq (by rw [sizeLine_eq]; simp) fun t5 h5 F5 W5 l5 => ?_
  -- self.pa = pa
  have e5 : h5.get? a = some (PySem.W.excObj C t5 none .none) := (W5 _ (List.mem_cons_of_mem _ (List.mem_cons_of_mem _ (List.mem_cons_of_mem _ List.mem_cons_self)))).1
  have X5 : K.In h5 := M.kin.keeps (kb2 F5)
  refine ks_wpAt_execs_cons (ks_wpAt_Assign_Attr (wpAt_of_wpAny (wpAny_Name (wpAny_loadName_local s6 s4 F5.ns mA (wpAny_Name (wpAny_loadName_local s6 s3 F5.ns ms ?_) d1)) d2)))
  refine PySem.W.set_plain X5 (ox := PySem.W.excObj C t5 none .none) (od := none) ⟨e5, rfl, rfl, trivial⟩ O.sa ?_
  refine PySem.HandSPX.exc_osa X5 e5 hcl (show PySem.HandSPX.refsVE (.ref C :: bm) = true from hbm) rfl fa (fun h6 tk6 dx k6 dn dne e6 hn6 => ?_)
  -- self.pb = pb
  have al5 : h1.objs.size < h5.objs.size := F5.ns.lt
  have ns6 : h6.Ns h1.objs.size m := by
    obtain ⟨oL, es, ep, hL, r⟩ := F5.ns
    exact ⟨oL, es, ep, k6 _ _ (Nat.ne_of_gt al) hL, r⟩
  have kb6 : ∀ b o, base.get? b = some o → h6.get? b = some o := fun b o e => k6 b o (fun z => hab e (by rw [z]; exact List.mem_cons_self)) (kb2 F5 b o e)
  have X6 : K.In h6 := M.kin.keeps kb6
  refine ks_wpAt_execs_cons (ks_wpAt_Assign_Attr (wpAt_of_wpAny (wpAny_Name (wpAny_loadName_local s6 s5 ns6 mB (wpAny_Name (wpAny_loadName_local s6 s3 ns6 ms ?_) d1)) d3)))
  obtain ⟨oD, esD, epD, hoD, hdD, hrD⟩ := hn6
  refine PySem.W.set_plain X6 (ox := PySem.W.excObj C t5 (some dx) .none) (od := some oD) ⟨e6, rfl, rfl, hoD⟩ O.sa ?_
  refine PySem.OEX.osa_old X6 e6 ⟨oD, esD, epD, hoD, hdD, hrD⟩ (nl := [pa]) (fun y hy => ?_) (by simp) hcl (show PySem.HandSPX.refsVE (.ref C :: bm) = true from hbm) rfl fb (fun h7 tk7 k7 hn7 => ?_)
  · by_cases e : y = pa
    · rw [e]; exact List.mem_cons_self
    · rw [if_neg e] at hy
      exact absurd rfl hy
  -- the end
  refine wpAt_of_wpAny ?_
  have ltb : ∀ {b : Addr} {o : Obj}, h1.get? b = some o → b ≠ dx := fun {b o} e => Nat.ne_of_lt (Nat.lt_of_lt_of_le (Nat.lt_trans (Heap.lt_size e) al5) dn)
  refine wpAny_execs_nil (hq h7 dx t5 _ _ (fun b o hb e => ?_) (Nat.le_trans (Nat.le_of_lt al5) dn) (k7 _ _ (Ne.symm dne) e6) hn7 ?_ ?_ fun y y1 y2 => ?_)
  · exact k7 b o (ltb e) (k6 b o hb (F5.keep b o (PySem.W.hideAll_get _ e fun z => hb (by simpa using z))))
  · rw [if_neg n3, if_pos rfl]
  · rw [if_pos rfl]
  · rw [if_neg y2, if_neg y1]
end
/-- what is known of such a class -/
structure SupF (prog : Program) (K : PySem.W.Frag) (mg : Str → Option Value) (C : Addr) (pa pb : Str) : Prop where
  oex : OexC K C
  exi : PySem.W.excInitIn K C veB "ValueError.__new__" = true
  ve : PySem.W.subIn K (.ref C) (.type "ValueError") = some true
  slf : PySem.W.mroIn K C (.ref C) = some true
  sup : PySem.W.ks_superIn K C C "__init__" = some (some (.builtin "ValueError.__init__"))
  tp : PySem.W.nsIn K cStatics "thirdparty.any" = some none
  ns : mg "super" = none
  fa : PySem.W.findIn K (.ref C) pa = some none
  fb : PySem.W.findIn K (.ref C) pb = some none
  ab : pa ≠ pb
  da : (pa == ("__debug__" : Str)) = false
  db : (pb == ("__debug__" : Str)) = false
  htop : (prog.main.scope.names.lookup ("super" : Str)).isSome = false
  ini : ∃ (fI cc cda : Addr) (sf qual : Str) (q : Nat → Pos) (params : Arguments) (scope : Scope) (dV kV doc pm ct oc ccl cl : Value) (an od cdd cld : Option Addr) (osl ccs csl : Array (Option Value)) (vs : Array Value) (file : Str) (tf : Tok) (ar : Arg),
    PySem.W.findIn K (.ref C) "__init__" = some (some (.ref fI)) ∧ PySem.W.typeIn K (.ref fI) = some (.type "function") ∧
    K.lookup fI = some ⟨oc, od, .func (PySem.W.ksFn "__init__" qual params (supB sf pa pb q) scope dV kV doc pm an (.ref cda) ct cc), osl⟩ ∧ PySem.W.codeIn K (.ref cda) qual = true ∧
    K.lookup cda = some ⟨ccl, cdd, .fields vs, ccs⟩ ∧ vs[2]? = some (.str file tf) ∧ ((prog.main.file : Str) == file) = true ∧ K.lookup cc = some ⟨cl, cld, .cell (some (.ref C)), csl⟩ ∧
    scope.names.lookup ("super" : Str) = some .globalImplicit ∧ scope.names.lookup ("__class__" : Str) = some .free ∧ scope.names.lookup sf = some .local ∧ scope.names.lookup pa = some .local ∧ scope.names.lookup pb = some .local ∧
    scope.kind = .function ∧ scope.isCoroutine = false ∧ scope.isGenerator = false ∧ (∀ x ∈ scope.names, x.2 ≠ .cell) ∧
    (params.posonlyargs ++ params.args).head? = some ar ∧ ar.arg = sf ∧ L2.Binds K (PySem.W.ksFn "__init__" qual params (supB sf pa pb q) scope dV kV doc pm an (.ref cda) ct cc) [sf, pa, pb] [] ∧
    sf ≠ pa ∧ sf ≠ pb ∧ (sf == ("__debug__" : Str)) = false ∧ ((q 2).endLine == (q 5).line) = true

section
variable {X : Cx} {e1 e2 : Expr} {ta : TA} {x pa pb : Str} {C : Addr} {k : Nat} {p pos : Pos}
/-- C(e1, e2) -/
def tMkS (C : Addr) (pa pb : Str) (ta : TA) : L2.St → Hp → XK → Prop := fun σ H Q => ta σ H fun vs H1 => ∃ y z, vs = [y, z] ∧ ∀ d fs, H1 d = none → fs.lookup pa = some y → fs.lookup pb = some z → Q (.ref C) (some d) (upd H1 d (.xd fs))
theorem pmk_sup (F : SupF X.prog X.K X.mg C pa pb) (hr : Room (k + 1) X.A) (hg : Gl X x) (hm : X.mg x = some (.ref C)) (ha : PA X [e1, e2] ta) (hdb : (x == ("__debug__" : Str)) = false)
    (he : starEach [e1, e2] X.env = (false, eval e1 X.env) :: starEach [e2] X.env := by rfl) (hpl : (backTo pos (starEach [e2] X.env)).any (·.1) = false := by rfl) :
    PMk X (.Call (.Name x p) [e1, e2] [] pos) (tMkS C pa pb ta) := by
  intro pins s σ H Q I h
  have T := F.oex
  obtain ⟨nm, q0, N, bs, bm, sn, sub, ab, col, dd, k0, k1, k2, k3, k5, hC, hbm⟩ := T.cls
  refine wpAny_Call_Name_kw
        (ld_glob I hg hm ?_ hdb)
  refine PySem.W.callWith_K (h₀ := X.base) I.ok.mod.kin T.kC (thn (ha.run pos pins s σ H _ I h) fun us s1 ⟨vs, H1, I1, r1, q1⟩ => ⟨I1.kIn, ?_⟩) he hpl
  obtain ⟨y, z, rfl, hq⟩ := q1
  obtain ⟨u, v, rfl, ru, rv⟩ : ∃ u v, us = [u, v] ∧ RelV y u ∧ RelV z v := by
    cases r1 with
    | cons ru r1 => cases r1 with
      | cons rv r1 => cases r1; exact ⟨_, _, rfl, ru, rv⟩
  show wpAny _ _ (call (.ref C) [u, v]) _ _ _
  obtain
        ⟨hp, g, dr, tk, os⟩ := s1
  obtain ⟨fI, cc, cda, sf, qual, q, params, scope, dV, kV, doc, pm, ct, oc, ccl, cl, an, od, cdd, cld, osl, ccs, csl, vs, file, tf, ar, iC, tI, lk, hcd, lc, hvs, hfile, lcc, s1, s2, s3, s4, s5, s6, s7, s8, s9, hpa, har, hbd, n1, n2, d1, hline⟩ := F.ini
  have hsz : hp.objs.size ≤
        hp.objs.size + 1 := Nat.le_succ _
  have hn : H1 (hp.objs.size + 1)
        = none := I1.hok.fresh hsz
  have kk : ∀ b o, hp.get? b = some o → ((hp.push (PySem.W.kdv_tup [u, v])).push (PySem.HandSPX.excO C hp.objs.size)).get? b = some o := fun b o e => Heap.get?_push_of_some _ (Heap.get?_push_of_some _ e)
  have hget : ((hp.push (PySem.W.kdv_tup [u, v])).push (PySem.HandSPX.excO C hp.objs.size)).get? (hp.objs.size + 1) = some (PySem.HandSPX.excO C hp.objs.size) := by heap_get
  have I2 : L2.Inv X pins σ (upd H1 (hp.objs.size + 1) (exo (hp.objs.size + 1) C none)) ⟨(hp.push (PySem.W.kdv_tup [u, v])).push (PySem.HandSPX.excO C hp.objs.size), g, dr, tk, os⟩ :=
    I1.laid (t' := tk) (a := hp.objs.size + 1) (o := exo (hp.objs.size + 1) C none) (h' := (hp.push (PySem.W.kdv_tup [u, v])).push (PySem.HandSPX.excO C hp.objs.size)) kk hsz (exo_ok hget)
  have hbase : X.base.get? (hp.objs.size + 1) = none := by
    cases e : X.base.get? (hp.objs.size + 1) with
    | none => rfl
    | some o => exact absurd (Heap.lt_size (I1.bk _ _ e)) (Nat.not_lt.mpr hsz)
  refine wpAny_call (PySem.HandSPX.call_own PySem.F.excBase_ValueError (fun Y => PySem.HandSPX.refsVE_contains Y bm hbm) (I1.kIn _ _ hC) (PySem.W.looks_findIn I1.kIn iC) (fun self => PySem.W.bind_fn I1.kIn self tI) (by rw [sizeLine_eq]; simp)
    (sup_init (u := u) (v := v) (t0 := hp.objs.size) I1.ok.mod I2.bk hbase T F.exi F.ve F.slf F.sup F.tp F.ns F.fa F.fb lk hcd lc hvs hfile lcc s1 s2 s3 s4 s5 s6 s7 s8 s9 hpa har F.htop hbd n1 n2 F.ab d1 F.da F.db hline hget (hr.make C [u, v] []).depth
      fun h' dx t0' tk' m k6 hdx hea hns m1 m2 m3 => ?_))
  generalize hH0 : upd H1 (hp.objs.size + 1) (exo (hp.objs.size + 1) C none) = H0 at I2
  have e0 : H0 (hp.objs.size + 1) = some (exo (hp.objs.size + 1) C none) := by rw [← hH0, upd_same]
  have hnd : H0 dx = none := I2.hok.fresh hdx
  have dne : dx ≠ hp.objs.size + 1 := (Nat.ne_of_lt (Nat.lt_of_lt_of_le (Heap.lt_size hget) hdx)).symm
  have hd1 : H1 dx = none := by rw [← hH0, upd_ne dne] at hnd; exact hnd
  have nd : ∀ {b : Addr} {o : Obj}, ((hp.push (PySem.W.kdv_tup [u, v])).push (PySem.HandSPX.excO C hp.objs.size)).get? b = some o → b ≠ dx := fun {b o} q => Nat.ne_of_lt (Nat.lt_of_lt_of_le (Heap.lt_size q) hdx)
  have na : ∀ {b : Addr}, H0 b = none → b ≠ hp.objs.size + 1 := fun {b} n z => by
    rw [z, e0] at n
    cases n
  have un : Un (frs X.stack) [] H0 (upd (upd H0 dx (exd dx [(pb, z), (pa, y)])) (hp.objs.size + 1) (exo (hp.objs.size + 1) C (some dx))) ((hp.push (PySem.W.kdv_tup [u, v])).push (PySem.HandSPX.excO C hp.objs.size)) h' := {
    keep := fun b o q n _ _ => k6 b o (na n) q
    slot := fun b o q n _ _ => ⟨o.slots, k6 b o (na n) q⟩
    free := fun b o q n _ => by
      rw [upd_ne (na n), upd_ne (nd q)]
      exact n
    there := fun b o q _ => by
      by_cases hb : b = hp.objs.size + 1
      · rw [hb]; exact ⟨_, hea⟩
      · exact ⟨o, k6 b o hb q⟩
    tups := fun b xs q => by
      rw [upd_ne (at_ne e0 q exo_tup), upd_ne (ne_of_none q hnd)]
      exact q
    frzs := fun b o w q => by
      rw [upd_ne (at_ne e0 q exo_frz), upd_ne (ne_of_none q hnd)]
      exact q
    tbls := fun b ps q => ⟨#[], by rw [upd_ne (at_ne e0 q exo_tbl), upd_ne (ne_of_none q hnd), q]; simp⟩ }
  have rel : ∀ f, RelO (([(pb, z), (pa, y)] : List (Str × V)).lookup f) (m f) := fun f => by
    rw [lookup_put]
    split
    · rename_i e; rw [e, m2]; exact rv
    · rename_i e2
      rw [lookup_put]
      split
      · rename_i e; rw [e, m1]; exact ru
      · rename_i e3; rw [m3 f e3 e2]; exact True.intro
  have hok : HOk X.prog X.w (upd (upd H0 dx (exd dx [(pb, z), (pa, y)])) (hp.objs.size + 1) (exo (hp.objs.size + 1) C (some dx))) h' := fun b o q => by
    by_cases hb : b = hp.objs.size + 1
    · subst hb
      rw [upd_same] at q
      cases q
      exact exo_ok hea
    · rw [upd_ne hb] at q
      by_cases hd : b = dx
      · subst hd
        rw [upd_same] at q
        cases q
        exact exd_ok hns rel
      · rw [upd_ne hd] at q
        exact (I2.hok b o q).stay (fun c v hc z => k6 c v (by
            rcases hc with hc | hc
            · rw [hc]
              exact hb
            · exact at_ne e0 hc exo_own) z)
          (fun c hc => by rw [upd_ne (at_ne e0 hc exo_own), upd_ne (ne_of_none hc hnd)]; exact hc) (fun c xs hc => by rw [upd_ne (at_ne e0 hc exo_tup), upd_ne (ne_of_none hc hnd)]; exact hc)
  have eH : upd (del (upd (upd H0 dx (exd dx [(pb, z), (pa, y)])) (hp.objs.size + 1) (exo (hp.objs.size + 1) C (some dx))) (hp.objs.size + 1)) dx (.xd [(pb, z), (pa, y)]) = upd H1 dx (.xd [(pb, z), (pa, y)]) := by
    funext b
    by_cases hb : b = dx
    · rw [hb, upd_same, upd_same]
    · rw [upd_ne hb, upd_ne hb]
      by_cases ha : b = hp.objs.size + 1
      · rw [ha, del_same, hn]
      · rw [del_ne ha, upd_ne ha, upd_ne hb, ← hH0, upd_ne ha]
  subst hH0
  refine ⟨rfl, mk_end (d := dx) (fs := [(pb, z), (pa, y)]) (raises_own T.exC T.tyC) I1 hsz kk un hok rfl I1.bare (upd_same ..) (by rw [upd_ne dne, upd_same]) hd1 ?_⟩
  rw [eH]
  refine hq dx _ hd1 ?_ ?_
  · rw [lookup_put, if_neg F.ab, lookup_put, if_pos rfl]
  · rw [lookup_put, if_pos rfl]
end
end Lw
set_option Elab.async false
set_option linter.all false
set_option maxRecDepth 100000
/-! LwY: several except clauses, some with a name; none of what may come is left over. -/
namespace Lw
open PySem PySem.Spec L2 PyProof.Rows

abbrev SuT := Addr → Value → Option Addr → TS
/-- what a clause asks: its class, its name's slot, its suite's reading -/
structure Cl where
  c : Value
  slot : Option Nat
  ts : SuT
def Cl.in_ (q : Cl) (a : Addr) (cls : Value) (d : Option Addr) (D : Ends) (σ : L2.St) (H : Hp) : Prop :=
  match q.slot with
  | none => q.ts a cls d D σ H
  | some i => q.ts a cls d { nx := fun σ' H' => D.nx (σ'.set i none) H', rt := D.rt, bk := fun σ' H' => D.bk (σ'.set i none) H', ct := fun σ' H' => D.ct (σ'.set i none) H' } (σ.set i (some (.ref a))) H
def wCls (K : PySem.W.Frag) (D : Ends) : List Cl → WX
  | [] => fun _ _ _ _ => False
  | q :: r => fun cls d σ H => ∃ b, PySem.W.exmOne K cls q.c = some b ∧ (b = true → ∀ a, H a = none → q.in_ a cls d D σ H) ∧ (b = false → wCls K D r cls d σ H)
/-- the suite keeps what is said of it -/
def SuOk (X : Cx) (suite : List Stmt) (ts : SuT) : Prop := ∀ (a : Addr) (oe : Obj) (cls : Value) (d : Option Addr) (pn : List (Addr × Obj)), Zc cls d oe → (∃ vs, oe.data = .fields vs) → PSs (X.suite a ((a, oe) :: pn)) suite (ts a cls d)
def NameOk (X : Cx) : Option Str → Option Nat → Prop
  | none, none => True
  | some n, some i => X.N[i]? = some n ∧ X.env.kindOf n = some .local
  | _, _ => False
inductive ClsOk (X : Cx) : List ExceptHandler → List Cl → Prop
  | nil : ClsOk X [] []
  | cons {x : Str} {q : Cl} {n : Option Str} {b₀ : Stmt} {suite : List Stmt} {np pos' : Pos} {hds : List ExceptHandler} {l : List Cl} (hc : Names X x q.c) (hn : NameOk X n q.slot) (hsu : SuOk X (b₀ :: suite) q.ts) (r : ClsOk X hds l) :
      ClsOk X (.ExceptHandler (some (.Name x np)) n (b₀ :: suite) pos' :: hds) (q :: l)

section
variable {X : Cx} {body : List Stmt} {h₀ : ExceptHandler} {hds : List ExceptHandler} {l : List Cl} {pos : Pos} {tb : WX → TS}
/-- one that has been caught goes along the clauses -/
theorem go_cls {B : Heap} {a : Addr} {cls : Value} {d : Option Addr} {σ : L2.St} {H : Hp} {D : Ends} {pins : List (Addr × Obj)} {s : Shared} {hds : List ExceptHandler} (ok : X.Ok) (hf : X.env.frame = some X.env.locals) (hN : X.N.Nodup)
    (fl : HandSPX.FlyingZ B (X.env :: X.outer) a (Zc cls d) s.heap) (na : H a = none) (J : L2.Inv X pins σ H s) (land : ∀ h4, HandSPX.FlyingZ B (X.env :: X.outer) a (Zc cls d) h4 → s.heap.UpToSlots h4 → L2.Inv X pins σ H { s with heap := h4 })
    (hk : ClsOk X hds l) (w : wCls X.K D l cls d σ H) : wpAny (model X.prog X.w) X.A (handleBy (.ref a) X.env hds) (L2.SP X pins D) X.xe s := by
  have nofr : ∀ {h : Heap}, HandSPX.FlyingZ B (X.env :: X.outer) a (Zc cls d) h → a ∉ frs (X.env :: X.outer) := fun {h} f hm => by
    obtain ⟨oe, vs, he, _, hd⟩ := f.there
    obtain ⟨_, o, e', hnf⟩ := f.2.2.1.mem hm
    rw [he] at e'
    cases e'
    exact hnf _ hd
  have nL : a ≠ X.env.locals := fun z => nofr fl (List.mem_filterMap.mpr ⟨X.env, List.mem_cons_self, by rw [hf, z]⟩)
  have nF : a ∉ X.fs
        := fun hm => by
    obtain ⟨e, he, q⟩ :=
          List.mem_filterMap.mp hm
    exact nofr fl (List.mem_filterMap.mpr ⟨e, List.mem_cons_of_mem _ he, q⟩)
  obtain ⟨oe, vs, he, hz, hd⟩
        := fl.there
  have S := J.suite he hd na nL nF
  induction hk with
  | nil => exact w.elim
  | @cons x q n b₀ suite np pos' hds l hc hn hsu r ih =>
    obtain ⟨b, hb, yes, no⟩ := w
    refine wpAny_handleBy_cons (codeAny_handlers_test ?_) (by intro z; cases z)
    have LT : PySem.W.Looks (model X.prog X.w) s.heap (typeOf (.ref a)) cls := fun A Q E s k q => wpAny_typeOf_ref (k _ _ he) (by rw [hz.1]; exact q)
    have at_ : ∀ {Q E : Value → Shared → Prop}, Q q.c s → wpAny (model X.prog X.w) (X.A.mark (some (.ref a))) (eval (.Name x np) X.env) Q E s := fun {Q E} h => by
      rcases hc with ⟨c1, c2, c3 | ⟨c3, c4, c5⟩⟩
      · exact ld_glob (X := X.suite a ((a, oe) :: (X.pn ++ pins))) S c1 c3 h c2
      · exact ld_blt (X := X.suite a ((a, oe) :: (X.pn ++ pins))) S c1 c3 c4 h c5 c2
    refine at_ ((PySem.W.exm_one J.kIn LT hb).here ?_)
    cases b with
    | false => exact ih (no rfl)
    | true =>
      have yes := yes rfl a na
      obtain ⟨qc, qs, qt⟩ := q
      cases n with
      | none =>
        cases qs with
        | some i => exact (show False from hn).elim
        | none =>
          refine codeAny_handlers_suite (HandSPX.lands_againZ fl fun h4 fl4 up4 => ?_)
          obtain
                ⟨oe4, vs4, he4, hz4, hd4⟩ := fl4.there
          have S4 := (land h4 fl4 up4).suite he4 hd4 na nL nF
          refine wpAny_mono ((hsu a oe4 cls d (X.pn ++ pins) hz4 ⟨_, hd4⟩).run [] _ _ H _ S4 yes) (fun f s6 hsp => ?_) (fun _ _ z => z.elim)
          match f, hsp with
          | .next, ⟨σ6, H6, S6, q6⟩ => exact ⟨_, _, S6.unsuite ok, q6⟩
          | .brk, ⟨σ6, H6, S6, q6⟩ => exact ⟨_, _, S6.unsuite ok, q6⟩
          | .cont, ⟨σ6, H6, S6, q6⟩ => exact ⟨_, _, S6.unsuite ok, q6⟩
          | .ret u, ⟨v6, σ6, H6, S6, r6, q6⟩ => exact ⟨_, _, _, S6.unsuite ok, r6, q6⟩
      | some nm =>
        cases qs with
        | none => exact (show False from hn).elim
        | some i =>
          obtain ⟨hi, hln⟩ := hn
          refine codeAny_handlers_suite_as (HandSPX.lands_againZ fl fun h4 fl4 up4 => ?_)
          obtain
                ⟨oe4, vs4, he4, hz4, hd4⟩ := fl4.there
          have S4 := (land h4 fl4 up4).suite he4 hd4 na nL nF
          refine store_ok (X := X.suite a ((a, oe4) :: (X.pn ++ pins))) (v := .ref a) S4 hN hi (.inl hln) rfl (fun s5 S5 => ?_) (.inr hln)
          refine wpAny_mono ((hsu a oe4 cls d (X.pn ++ pins) hz4 ⟨_, hd4⟩).run [] s5 _ H _ S5 yes) (fun f s6 hsp => ?_) (fun _ _ z => z.elim)
          match f, hsp with
          | .next, ⟨σ6, H6, S6, q6⟩ => exact gone_ok (S6.unsuite ok) hN hi hln fun s7 J7 => ⟨_, _, J7, q6⟩
          | .brk, ⟨σ6, H6, S6, q6⟩ => exact gone_ok (S6.unsuite ok) hN hi hln fun s7 J7 => ⟨_, _, J7, q6⟩
          | .cont, ⟨σ6, H6, S6, q6⟩ => exact gone_ok (S6.unsuite ok) hN hi hln fun s7 J7 => ⟨_, _, J7, q6⟩
          | .ret u, ⟨v6, σ6, H6, S6, r6, q6⟩ => exact gone_ok (S6.unsuite ok) hN hi hln fun s7 J7 => ⟨_, _, _, J7, r6, q6⟩
theorem ps_clauses (hs : X.stack = X.env :: X.outer) (hf : X.env.frame = some X.env.locals) (hN : X.N.Nodup)
    (hb : ∀ (W : WX) (pn : List (Addr × Obj)) (xe : Value → Shared → Prop), Takes
          (X.tr pn xe) W → PassesOwn (model X.prog X.w) X.A X.env xe → PSs (X.tr pn xe) body (tb W))
    (hk : ClsOk X (h₀ :: hds) l) : PS X (.Try body (h₀ :: hds) [] [] pos) (fun D σ H => tb (wCls X.K D l) D σ H) := by
  refine
        ⟨fun pins s σ H D I h => ?_⟩
  have ok := I.ok
  have hfr : X.A.frames =
        some (X.env :: X.outer) := by rw [ok.frames, hs]
  refine wpAny_Try_except (wpAny_mono ((hb (wCls X.K D l) (X.pn ++ pins) (fun e s₁ => wpAny (model X.prog X.w) X.A (noteFrame e X.env) (fun _ s₂ => wpAny (model X.prog X.w) X.A (setFlight e none) (fun _ s₃ =>
    wpAny (model X.prog X.w) X.A (handleBy e X.env (h₀ :: hds)) (L2.SP X pins D) X.xe s₃) X.xe s₂) X.xe s₁) (fun u s' xx => ?_) PassesOwn.looking).run [] s σ H D (I.toTry _) h) (fun f s1 hsp => ?_) (fun e s1 he => he))
  · obtain ⟨a, B, sI, pins', σ', H', cls, d, rfl, J', nb, up, sky, na, os, ag, w⟩ := xx
    have J := J'.ofTry ok
    refine Sky.land Zc.steady hfr hf (show Sky B (X.env :: X.outer) a (Zc cls d) X.env.locals s'.heap by rw [← hs]; exact sky) fun h3 fl3 up3 => ?_
    exact go_cls ok hf hN fl3 na (J.landed nb fl3.1 (up.trans up3) os ag) (fun h4 fl4 up4 => J.landed nb fl4.1 ((up.trans up3).trans up4) os ag) hk w
  · match f, hsp with
    | .next, ⟨σ', H', J', q⟩ => exact wpAny_execs_nil ⟨σ', H', J'.ofTry ok, q⟩
    | .brk, ⟨σ', H', J', q⟩ => exact ⟨σ', H', J'.ofTry ok, q⟩
    | .cont, ⟨σ', H', J', q⟩ => exact ⟨σ', H', J'.ofTry ok, q⟩
    | .ret u, ⟨v, σ', H', J', r, q⟩ => exact ⟨v, σ', H', J'.ofTry ok, r, q⟩
end

/-! ### a def that hears with several clauses -/
/-- a clause: the class that it names, what it tells, the fields that it tells (the name's slot, the fields) -/
structure Hc where
  CS : Addr
  ret : Str
  nm : Option (Nat × Str × Str)
/-- an error with two fields -/
def XdF (H : Hp) (d : Option Addr) (f g : Str) (v w : V) : Prop := ∃ dd fs, d = some dd ∧ H dd = some (.xd fs) ∧ fs.lookup f = some v ∧ fs.lookup g = some w
def Hc.ts (q : Hc) : SuT := fun a cls d D σ H => match q.nm with
  | none => NewT D.rt H [.str q.ret]
  | some (i, f, g) => (i < σ.length → σ[i]? = some (some (.ref a))) ∧ cls = .ref q.CS ∧ ∃ v w, XdF H d f g v w ∧ NewT D.rt H [.str q.ret, v, w]
def Hc.cl (q : Hc) : Cl := ⟨.ref q.CS, q.nm.map (·.1), q.ts⟩
def hWish (K : PySem.W.Frag) (Q : VK) : List Hc → XK
  | [] => fun _ _ _ => False
  | q :: r => fun cls d H => ∃ b, PySem.W.exmOne K cls (.ref q.CS) = some b ∧ (b = true → match q.nm with
      | none => NewT Q H [.str q.ret]
      | some (_, f, g) => cls = .ref q.CS ∧ ∃ v w, XdF H d f g v w ∧ NewT Q H [.str q.ret, v, w]) ∧ (b = false → hWish K Q r cls d H)
theorem hWish_wCls {K : PySem.W.Frag} {D : Ends} : ∀ {l : List Hc} {cls : Value} {d : Option Addr} {σ : L2.St} {H : Hp}, hWish K D.rt l cls d H → wCls K D (l.map Hc.cl) cls d σ H
  | [], _, _, _, _, h => h
  | q :: r, cls, d, σ, H, ⟨b, e, y, n⟩ => ⟨b, e, fun hb a _ => by
      have y := y hb
      obtain ⟨CS, ret, nm⟩ := q
      cases nm with
      | none => exact y
      | some t =>
        obtain ⟨i, f, g⟩ := t
        obtain ⟨y1, v, w, y2, y3⟩ := y
        refine ⟨fun hi => ?_, y1, v, w, y2, y3⟩
        rw [List.length_set] at hi
        rw [List.getElem?_set_self hi], fun hb => hWish_wCls (n hb)⟩
def TTmany (K : PySem.W.Frag) (told : Str) (l : List Hc) : (XK → Hp → VK → Prop) → Hp → VK → Prop := fun tl H Q => tl (hWish K Q l) H fun v H' => NewT Q H' [.str told, v]
/-- the form of a clause: its class, what it tells, its name, the fields -/
def hcForm : ExceptHandler → Option (Str × Str × Option (Str × Str × Str))
  | .ExceptHandler (some (.Name e _)) none [.Return (some (.Tuple [.Constant (.str ret) _ _] _ _)) _] _ => some (e, ret, none)
  | .ExceptHandler (some (.Name e _)) (some n) [.Return (some (.Tuple [.Constant (.str ret) _ _, .Attribute (.Name n1 _) f _, .Attribute (.Name n2 _) g _] _ _)) _] _ => if n1 = n ∧ n2 = n then some (e, ret, some (n, f, g)) else none
  | _ => none
/-- what is asked of a clause -/
def HcIs (K : PySem.W.Frag) (mg : Str → Option Value) (N : List Str) (sg : Scope) (hd : ExceptHandler) (q : Hc) : Prop :=
  ∃ e o, hcForm hd = some (e, q.ret, o) ∧ sg.names.lookup e = some .globalImplicit ∧ mg e = some (.ref q.CS) ∧ (e == ("__debug__" : Str)) = false ∧ (match o, q.nm with
    | none, none => True
    | some (n, f, g), some (i, f', g') => f = f' ∧ g = g' ∧ N[i]? = some n ∧ sg.names.lookup n = some .local ∧ (n == ("__debug__" : Str)) = false ∧ (n == ("__classdict__" : Str)) = false ∧ XfC K q.CS ∧ PySem.W.findIn K (.ref q.CS) f = some none ∧ PySem.W.findIn K (.ref q.CS) g = some none
    | _, _ => False)
inductive HcsIs (K : PySem.W.Frag) (mg : Str → Option Value) (N : List Str) (sg : Scope) : List ExceptHandler → List Hc → Prop
  | nil : HcsIs K mg N sg [] []
  | cons {hd hds q l} (h : HcIs K mg N sg hd q) (r : HcsIs K mg N sg hds l) : HcsIs K mg N sg (hd :: hds) (q :: l)
section
variable {X : Cx}
theorem hc_ok {Y : Cx} {N : List Str} {sg : Scope} (hN : Y.N = N) (hs : Y.env.scope = sg) {hd : ExceptHandler} {q : Hc} (h : HcIs Y.K Y.mg N sg hd q) {hds : List ExceptHandler} {l : List Cl} (r : ClsOk Y hds l) : ClsOk Y (hd :: hds) (q.cl :: l) := by
  obtain ⟨e, o, h1, h2, h3, h4, h5⟩ := h
  obtain ⟨CS, ret, nm⟩ := q
  subst hs
  unfold hcForm at h1
  split at h1
  · cases h1
    cases nm with
    | some _ => exact h5.elim
    | none => exact .cons ⟨h2, h4, .inl h3⟩ trivial (fun a oe cls d pn _ _ => PSs_imp (pss_one (ps_ret (pe_tupF (pa_cons pe_str pa_nil)))) fun D σ H z => z) r
  · split at h1
    · rename_i hnn
      obtain ⟨rfl, rfl⟩ := hnn
      cases h1
      cases nm with
      | none => exact h5.elim
      | some t =>
        obtain ⟨i, f, g⟩ := t
        obtain ⟨rfl, rfl, k1, k2, k3, k4, k5, k6, k7⟩ := h5
        rw [← hN] at k1
        refine .cons (q := Hc.cl ⟨CS, ret, some (i, _, _)⟩) ⟨h2, h4, .inl h3⟩ ⟨k1, k2⟩ (fun a oe cls d pn hz hf => ⟨fun pins s σ H D I h => ?_⟩) r
        obtain ⟨z1, z2, v, w, ⟨dd, fs, z3, z4, z5, z6⟩, z7⟩ := h
        have hl : i < σ.length := by rw [I.len]; exact (List.getElem?_eq_some_iff.mp k1).1
        have pv : ∀ p, PE (Y.suite a ((a, oe) :: pn)) (.Name _ p) (tVar i) := fun p => pe_var k1 (.inl k2) k3 k4
        refine (pss_one (ps_ret (pe_tupF (pa_cons pe_str (pa_cons (pe_xf k5 k6 hz hf (pv _)) (pa_cons (pe_xf k5 k7 hz hf (pv _)) pa_nil)))))).run pins s σ H D I ?_
        exact ⟨_, z1 hl, rfl, z2, dd, fs, v, z3, z4, z5, _, z1 hl, rfl, z2, dd, fs, w, z3, z4, z6, z7⟩
    · cases h1
  · cases h1
theorem hcs_ok {Y : Cx} {N : List Str} {sg : Scope} (hN : Y.N = N) (hs : Y.env.scope = sg) : ∀ {hds : List ExceptHandler} {l : List Hc}, HcsIs Y.K Y.mg N sg hds l → ClsOk Y hds (l.map Hc.cl) := fun {hds l} h => by
  induction h with
  | nil => exact .nil
  | cons h r ih => exact hc_ok hN hs h ih
theorem many_gives {Ng : List Str} {x a q told : Str} {sg : Scope} {g : Addr} {cdg : Value} {j k : Nat} {p1 p2 p3 p8 p9 pa : Pos} {h₀ : ExceptHandler} {hds : List ExceptHandler} {l : List Hc} (nd : Ng.Nodup) (hk : HcsIs X.K X.mg Ng sg (h₀ :: hds) l) (h0 : ∀ f : Addr, (L2.start Ng [V.ref f])[0]? = some (some (V.ref f))) :
    LamX.GivesTo X Ng x sg g cdg [.Try [.Return (some (.Tuple [.Constant (.str told) j p9, .Call (.Name a p1) [] [] p2] k pa)) p3] (h₀ :: hds) [] [] p8] a q (TTmany X.K told l) := by
  intro f c' s H Q tl act hc h
  refine ⟨_, pss_one (ps_clauses (X := (cxOf C8.CX0 X.prog X.w X.K X.mg X.base Ng x sg g cdg X.A X.stack s H C8.E0).nox) (l := l.map Hc.cl)
      (tb := fun W D σ H => ∃ Ech : XK, (∀ cls d σ' H', Ech cls d H' → W cls d σ' H') ∧ σ[0]? = some (some (.ref f)) ∧ H c' = some (LamX.CodeO c' q) ∧ tl Ech H fun v H' => NewT D.rt H' [.str told, v])
      rfl rfl nd (fun W pn xe tk _ => ⟨fun pins s' σ H' D I ⟨Ech, hW, h1, h2, h3⟩ => ?_⟩) (hcs_ok rfl rfl hk)), ?_⟩
  · have hp := act W pn xe Ech p1 p2 tk hW
    have hq := pss_one (ps_ret (pos := p3) (pe_tupF (k := k) (pos := pa) (pa_cons (pe_str (j := j) (pos := p9) (x := told)) (pa_cons hp pa_nil))))
    exact hq.run pins s'
          σ H' D I ⟨h1, h2, h3⟩
  · exact ⟨hWish X.K Q l, fun cls d σ' H' w => hWish_wCls w, h0 f, hc, h⟩
end
/-- the clauses of the evaluator are those of the text -/
inductive ClIs (K : PySem.W.Frag) (at_ : At) : List (List Nat × List Nat × Str × Bool) → List Hc → Prop
  | nil : ClIs K at_ [] []
  | cons {cs ns : List Nat} {r : Str} {w : Bool} {rest : List (List Nat × List Nat × Str × Bool)} {q : Hc} {l : List Hc} (h1 : q.ret = r) (h2 : ∀ i ∈ cs, PySem.W.exmOne K (.ref (at_.ca i)) (.ref q.CS) = some true) (h3 : ∀ i ∈ ns, PySem.W.exmOne K (.ref (at_.ca i)) (.ref q.CS) = some false)
      (h4 : match q.nm with
        | none => w = false
        | some (_, f, g) => w = true ∧ ∀ i ∈ cs, at_.ca i = q.CS ∧ at_.xf i = [f, g]) (t : ClIs K at_ rest l) : ClIs K at_ ((cs, ns, r, w) :: rest) (q :: l)
theorem line3 : (3 : Nat) ≤ sizeLine := by rw [sizeLine_eq]; decide
theorem hWish_of {K : PySem.W.Frag} {at_ : At} {ρ ρ1 : Pl} {H H1 : Hp} {st : Store} {Q : VK} {Z : Value → Option Addr → Hp → Prop} {x : Exc} {cls : Value} {d : Option Addr} {t : T} (m : Mv ρ H ρ1 H1) (s : StRep K at_ ρ1 H1 st) (rx : RepX K at_ ρ1 H1 x cls d)
    (o : Out K at_ ρ H (.ok t st) (fun t ρ' H' _ => ∀ v, Rep K at_ ρ' H' t v → Q v H') Z) : ∀ {hs : List (List Nat × List Nat × Str × Bool)} {l : List Hc}, ClIs K at_ hs l → hearM hs x = some t → hWish K Q l cls d H1 := fun {hs l} k => by
  induction k with
  | nil => intro h; cases h
  | @cons cs ns r w rest q l h1 h2 h3 h4 _ ih =>
    intro h
    obtain ⟨CS, ret, nm⟩ := q
    have h1 : ret = r := h1
    subst h1
    simp only [hearM] at h
    split at h
    · rename_i hc
      refine ⟨true, by rw [rx.1]; exact h2 _ hc, fun _ => ?_, fun z => by cases z⟩
      cases nm with
      | none =>
        have h4 : w = false := h4
        subst h4
        cases h
        exact newT_of o m s ⟨_, _, rfl, rfl, rfl⟩ (Nat.le_trans (Nat.le_succ 1) line2)
      | some p =>
        obtain ⟨i, f, g⟩ := p
        obtain ⟨hw, h5⟩ := h4
        subst hw
        obtain ⟨k1, k2⟩ := h5 _ hc
        obtain ⟨xc, fs⟩ := x
        match fs, h with
        | [a, b], h =>
          cases h
          obtain ⟨e1, e2⟩ := rx
          rcases e2 with z | ⟨dd, fl, vs, e3, e4, ⟨va, r1, rfl, ra, vb, r2, rfl, rb, rfl⟩, e5⟩
          · cases z
          · obtain ⟨v0, z0, l0⟩ := e5 0 f (by rw [k2]; rfl)
            obtain ⟨v1, z1, l1⟩ := e5 1 g (by rw [k2]; rfl)
            cases z0
            cases z1
            exact ⟨by rw [e1, k1], va, vb, ⟨dd, fl, e3, e4, l0, l1⟩, newT_of o m s ⟨_, _, rfl, rfl, _, _, rfl, ra, _, _, rfl, rb, rfl⟩ line3⟩
    · split at h
      · rename_i hc
        exact ⟨false, by rw [rx.1]; exact h3 _ hc, (fun z => by cases z), fun _ => ih h⟩
      · cases h
/-- a def that hears with several clauses -/
def HearM (K : PySem.W.Frag) (mg : Str → Option Value) (at_ : At) (hk : Hk) (x : Str) : Prop :=
  ∃ (ga : Addr) (a told : Str) (N : List Str) (pg : Arguments) (h₀ : ExceptHandler) (hds : List ExceptHandler) (sg : Scope) (dV kV doc pm cdv ct oc : Value) (an od : Option Addr) (osl : Array (Option Value)) (hs : List (List Nat × List Nat × Str × Bool)) (l : List Hc) (j k : Nat) (p1 p2 p3 p8 p9 pa : Pos),
    hk = .many told hs ∧ mg x = some (.ref ga) ∧ PySem.W.keepIn K (.ref ga) = true ∧
    K.lookup ga = some ⟨oc, od, .func (PySem.W.fnOf x x pg [.Try [.Return (some (.Tuple [.Constant (.str told) j p9, .Call (.Name a p1) [] [] p2] k pa)) p3] (h₀ :: hds) [] [] p8] sg dV kV doc pm an cdv ct), osl⟩ ∧ PySem.W.codeIn K cdv x = true ∧
    L2.Binds K (PySem.W.fnOf x x pg [.Try [.Return (some (.Tuple [.Constant (.str told) j p9, .Call (.Name a p1) [] [] p2] k pa)) p3] (h₀ :: hds) [] [] p8] sg dV kV doc pm an cdv ct) [a] [] ∧
    FnScope N [a] sg ∧ N[0]? = some a ∧ Vis sg a ∧ (x == ("__debug__" : Str)) = false ∧ (a == ("__debug__" : Str)) = false ∧ (a == ("__classdict__" : Str)) = false ∧ HcsIs K mg N sg (h₀ :: hds) l ∧ ClIs K at_ hs l
section
variable {X : Cx} {at_ : At} {W : WX} {c : Cf}
theorem e_hearM {x : Str} {p lpos pos : Pos} {hk : Hk} {u : E} {k : Nat} {cc P : Addr} {params : Arguments} {body : Expr} {scope : Scope} (HD : HearM X.K X.mg at_ hk x) (hg : Gl X x) (hgd : X.A.guards = some [])
    (TB : LamX.TabB X.base X.mg cc P) (hcode : X.env.code = .ref cc) (hmT : (P, X.env.qual ++ "<lambda>") ∈ at_.tb) (hu : ∀ p ∈ at_.tb, p.1 = P → p.2 = X.env.qual ++ "<lambda>") (hr : Room (k + 2) X.A) (L : LamX.LamS X.env.scope scope) (hdef : defaultsOf params X.env = ([], []))
    (hbind : ∀ (q : Str) (cl : List (Str × Addr)) (pm cv ctv : Value), bindArgs
          (PySem.W.kla_fn "<lambda>" q params body scope cl pm cv ctv) ⟨[], []⟩ = pure [])
    (hbody : ∀ (A : Around) (outer : List PySem.Env) (s : Shared) (H : Hp) (E : XK) (f c' : Addr), A.guards = some [] → Room k (A.deeper (LamX.lamEnv X scope s.heap.objs.size f c')) → PE (LamX.lamCx X A outer s H E scope f c') body (tE X.K at_ (fun cls d _ H => E cls d H) fun env st => evE c.dn u env st)) :
    PE X (.Call (.Name x p) [.Lambda params body scope lpos] [] pos) (tE X.K at_ W fun env st => evE c (.hear hk u) env st) := by
  obtain ⟨ga, a, told, N, pg, h₀, hds, sg, dV, kV, doc, pm, cdv, ct, oc, an, od, osl, hs, l, j, kk, p1, p2, p3, p8, p9, pa, rfl, h2, h3, h4, h5, h6, h7, h8, h9, h10, h11, h12, h13, h14⟩ := HD
  have h0 : ∀ f : Addr, (L2.start N [V.ref f])[0]? = some (some (V.ref f)) := fun f => rfl
  refine PE_imp (lamcall_G (T := at_.tb) (t := fun E => tE X.K at_ (fun cls d _ H => E cls d H) fun env st => evE c.dn u env st) hgd hg h2 h3 h4 h5 h6 h7 h8 h9 (many_gives h7.nd h13 h0) TB hcode hmT hu hr L hdef hbind hbody h10 h11 h12) fun σ H Q ⟨ρ, env, st, er, sr, ot⟩ => ⟨sr.tab, fun H1 eN T1 => ?_⟩
  simp only [evE] at ot
  obtain ⟨_, ot⟩ := ot.iteN
  have m0 : Mv ρ H ρ H1 := .extN eN
  refine ⟨ρ, env, st, er.mv sr.sep m0, sr.extN eN T1, ?_⟩
  show Out X.K at_ ρ H1 (evE c.dn u env st) _ _
  revert ot
  cases evE c.dn u env st with
  | no => exact fun z => z.elim
  | ok v st2 => exact fun ot ρ' H' m s v' rv => newT_of ot (m0.trans m) s ⟨_, _, rfl, rfl, _, _, rfl, rv, rfl⟩ line2
  | exc y st2 =>
    intro ot ρ' H' cls d m s rx
    simp only [hearR] at ot
    cases hm : hearM hs y with
    | none => rw [hm] at ot; exact ot.elim
    | some t =>
      rw [hm] at ot
      exact hWish_of (m0.trans m) s rx ot h14 hm
end
end Lw
set_option Elab.async false
set_option linter.all false
set_option maxRecDepth 100000
/-! LwW: t[::-1] of a tuple, str(int). -/
namespace Lw
open PySem PySem.Spec L2 PyProof.Rows

theorem adjust_rev (n : Nat) : Builtin.Slice.sliceAdjust none none (-1) (n : Int) = ((n : Int) - 1, -1) := by
  simp [Builtin.Slice.sliceAdjust]
theorem places_rev (n : Nat) : Builtin.Slice.slicePlaces ((n : Int) - 1) (-1) (-1) = n := by
  unfold
        Builtin.Slice.slicePlaces
  rw [if_neg (by omega)]
  split
  · simp
  · omega
theorem pick_rev (xs : Array Value) : ((List.range xs.size).filterMap fun (k : Nat) => xs[(((xs.size : Int) - 1) + (k : Int) * (-1)).toNat]?).toArray = xs.toList.reverse.toArray := by
  have e : ∀ k ∈ List.range xs.size, xs[(((xs.size : Int) - 1) + (k : Int) * (-1)).toNat]? = (fun k => xs[xs.size - 1 - k]?) k := fun k hk => by
    have := List.mem_range.mp hk
    have : (((xs.size : Int) - 1) + (k : Int) * (-1)).toNat = xs.size - 1 - k := by omega
    rw [this]
  have cong : ∀ (l : List Nat) (f g : Nat → Option Value), (∀ k ∈ l, f k = g k) → l.filterMap f = l.filterMap g := by
    intro l f g
    induction l with
    | nil => intro _; rfl
    | cons a l ih =>
      intro h
      rw [List.filterMap_cons, List.filterMap_cons, h a List.mem_cons_self, ih fun k hk => h k (List.mem_cons_of_mem _ hk)]
  rw [cong _ _ _ e]
  have h := PySem.W.krv_range xs.size
  have : ((List.range xs.size).map fun k => xs.size - 1 - k).filterMap (fun i => xs[i]?) = xs.toList.reverse := by
    rw [h, List.filterMap_reverse, PySem.W.krv_all]
  rw [← this, List.filterMap_map]
  rfl
section
variable {prog : Program}
      {w : World} {A : Around} {E : Value → Shared → Prop} {s : Shared}
theorem getItem_rev {t sl : Addr} {items : Array Value} {vs : Value} {Q : Value → Shared → Prop} (ht : IsTup s.heap t items) (hs : s.heap.IsSliceOf sl .none .none vs) (ps : IsPart vs (some (-1)))
    (h : Q (.ref s.heap.objs.size) { s with heap := s.heap.push { cls := .type "tuple", data := .seq items.toList.reverse.toArray } }) (hsz : items.size ≤ sizeLine) : wpAny (model prog w) A (getItem (.ref t) (.ref sl)) Q E s := by
  have hz : sizeOk (.seq items.toList.reverse.toArray) := by
    show items.toList.reverse.toArray.size ≤ sizeLine
    simpa using hsz
  obtain ⟨os, hos, hcs, hds⟩
        := id hs
  have hTs : s.TypeIs (.ref sl)
        "slice" := ⟨os, hos, hcs⟩
  unfold getItem
  try with_reducible
        refine wpAny_holding ?_
  first | refine wpAny_bind (wpAny_pure ?_) | skip
  refine wpAny_bind
        (wpAny_sequenceKey ht.typeIs (by decide) ?_)
  refine wpAny_bind (wpAny_callSpecial?_slot (name := Str.ofString "__getitem__") ht.typeIs PyProof.Rows.slot_tuple_getitem (wpAny_call_entry PyProof.Rows.slot_tuple_getitem ht.typeIs entry_tuple_getitem ?_ (args_tuple_getitem _ _)))
  show wpAny _ _
        (Builtin.Tuple.tupleItemsOf (.ref t) >>= _) _ _ s
  refine wpAny_bind (PyProof.Rows.tupleItemsOf_ ht (wpAny_bind (wpAny_typeOf hTs ?_)))
  rw [if_pos (by decide)]
  have sa : ∀ {Q' : Int × Int × Nat → Shared → Prop} {A' : Around} {E' : Value → Shared → Prop}, Q' ((items.size : Int) - 1, -1, items.size) s → wpAny (model prog w) A' (Builtin.Slice.sliceApplied (.ref sl) (pure (items.size : Int))) Q' E' s := fun {Q' A' E'} q => by
    unfold Builtin.Slice.sliceApplied
          Builtin.Slice.sliceFields
    refine wpAny_bind (wpAny_bind (wpAny_field hos hds (x := .none) rfl (wpAny_bind (wpAny_field hos hds (x := .none) rfl (wpAny_bind (wpAny_field hos hds (x := vs) rfl (wpAny_pure ?_)))))))
    refine wpAny_bind (HT.slicePart_ ps ?_)
    show wpAny _ _ (if ((-1 : Int) == 0) = true then _ else _) _ _ s
    rw [if_neg (by decide)]
    refine wpAny_bind (PyProof.Rows.slicePart_none (wpAny_bind (PyProof.Rows.slicePart_none (wpAny_bind (wpAny_pure ?_)))))
    show wpAny _ _ (match Builtin.Slice.sliceAdjust none none (-1) (items.size : Int) with | (lo, hi) => pure (lo, (-1 : Int), Builtin.Slice.slicePlaces lo hi (-1))) _ _ s
    rw [adjust_rev]
    show wpAny _ _ (pure ((items.size : Int) - 1, (-1 : Int), Builtin.Slice.slicePlaces ((items.size : Int) - 1) (-1) (-1))) _ _ s
    rw [places_rev]
    exact wpAny_pure q
  refine wpAny_bind (sa ?_)
  have hno : ¬ ((((items.size : Int) - 1) == 0 && (-1 : Int) == 1 && items.size == items.size) = true) := by simp
  show wpAny _ _ (if (((items.size : Int) - 1) == 0 && (-1 : Int) == 1 && items.size == items.size) = true then _ else _) _ _ s
  rw [if_neg hno, pick_rev]
  first
    | exact wpAny_bind (m := Builtin.Tuple.tupleExact _) (wpAny_newObj_type (wpAny_pure ⟨_, rfl, wpAny_pure h⟩) hz)
    | exact wpAny_bind (m := Builtin.Tuple.tupleExact _) (wpAny_newObj_type (wpAny_bind (wpAny_pure (wpAny_pure ⟨_, rfl, wpAny_pure h⟩))) hz)
    | exact wpAny_bind (wpAny_bind (m := Builtin.Tuple.tupleExact _) (wpAny_newObj_type (wpAny_pure (wpAny_pure ⟨_, rfl, wpAny_pure h⟩)) hz))
    | exact wpAny_bind (wpAny_bind (m := Builtin.Tuple.tupleExact _) (wpAny_newObj_type (wpAny_pure ⟨_, rfl, wpAny_pure h⟩) hz))
end
section
variable {X : Cx} {at_ : At} {W : WX} {c : Cf}
theorem RepL.rev {K : PySem.W.Frag} {ρ : Pl} {H : Hp} : ∀ {ts : List T} {vs : List V}, RepL K at_ ρ H ts vs → RepL K at_ ρ H ts.reverse vs.reverse
  | [], _, h => by cases h; rfl
  | t :: ts, _, ⟨v, r, rfl, h, hr⟩ => by
    rw [List.reverse_cons,
          List.reverse_cons]
    exact RepL.append (RepL.rev hr) ⟨v, [], rfl, h, rfl⟩
/-- t[::-1] -/
def tRevT (K : PySem.W.Frag) (te : TE) : TE := fun σ H Q => te σ H fun x H1 => ∃ a xs, x = .ref a ∧ PlT K H1 a xs ∧ ∀ p ob, H1 p = none → ob.dict = none → Q (.ref p) (upd H1 p (.frz ob (.tup xs.reverse)))
theorem pe_revT {e : Expr} {te : TE} {k : Nat} {p1 p2 p3 pos : Pos} (he : PE X e te) : PE X (.Subscript e (.Slice none none (some (.UnaryOp .USub (.Constant (.int 1) k p1) p2)) p3) pos) (tRevT X.K te) := by
  refine ⟨fun pins s σ H Q I h => Subscript_ (thn (he.run pins s σ H _ I h) fun v s1 ⟨x, H1, I1, r1, a, xs, ex, hx, q⟩ => ?_)⟩
  subst ex
  cases r1
  have st : PO X (some (.UnaryOp .USub (.Constant (.int 1) k p1) p2)) (tPart (tUn (rU fun i => .int (-i)) (tC (.int 1)))) := po_some (pe_un un_neg pe_int)
  refine wpAny_Slice
        (thn (po_none.run pins s1 σ H1 (fun o H2 => o = none ∧ H2 = H1) I1 ⟨rfl, rfl⟩) fun vl s2 ⟨l, H2, I2, pl, el, e2⟩ => ?_)
  cases el
  cases e2
  refine thn (po_none.run pins s2 σ H1 (fun o H3 => o = none ∧ H3 = H1) I2 ⟨rfl, rfl⟩) fun vu s3 ⟨u, H3, I3, pu, eu, e3⟩ => ?_
  cases eu
  cases e3
  refine thn (st.run pins s3 σ H1 (fun o H4 => o = some (-1) ∧ H4 = H1) I3 ⟨1, rfl, -1, rfl, rfl, rfl⟩) fun vs s4 ⟨o, H4, I4, ps, eo, e4⟩ => ?_
  cases eo
  cases e4
  cases pl
  cases pu
  have I5 : L2.Inv X pins σ H1 { s4 with heap := s4.heap.push { cls := .type "slice", data := .fields #[.none, .none, vs] } } := I4.kept (t' := s4.toks) fun b ob q => Heap.get?_push_of_some _ q
  obtain ⟨its, o', n, rv, ho, hc, hd, hdt, hz⟩ := Inv_plT I5 hx
  have ht : IsTup (s4.heap.push { cls := .type "slice", data := .fields #[.none, .none, vs] }) a its.toArray := ⟨o', ho, hc, n, hdt⟩
  refine tail_any (ops := [.ref a, .ref s4.heap.objs.size]) ht.typeIs PyProof.Rows.slot_tuple_getitem.lookup ?_ (by with_unfolding_all rfl)
  have hl : its.length ≤ sizeLine := by rw [← rv.length]; exact hz
  refine getItem_rev ht (Heap.IsSliceOf.new _ .none .none vs) ps ?_ (by rw [List.size_toArray]; exact hl)
  refine ⟨.ref _, _, Inv_newT (t' := s4.toks) (n := 0) I5 (fun b o e => Heap.get?_push_of_some _ e) (Nat.le_refl _) (Heap.get?_push_size _ rfl) rfl rfl rv.reverse (by rw [List.length_reverse]; exact hz), rfl, ?_⟩
  exact q _ _ I5.fresh rfl
theorem e_rev {e : Expr} {u : E} {k : Nat} {p1 p2 p3 pos : Pos} (he : PE X e (tE X.K at_ W fun env st => evE c u env st)) : PE X (.Subscript e (.Slice none none (some (.UnaryOp .USub (.Constant (.int 1) k p1) p2)) p3) pos) (tE X.K at_ W fun env st => evE c (.bi .rev [u]) env st) := by
  refine PE_imp (pe_revT he) fun σ H Q ⟨ρ, env, st, er, sr, o⟩ => ?_
  have e1 : evE c (.bi .rev [u]) env st = (evE c u env st).bind fun t st => biE .rev [t] st := by
    simp only [evE, evEs]
    cases evE c u env st <;> rfl
  have o : Out X.K at_ ρ H (evE c (.bi .rev [u]) env st) _ _ := o
  rw [e1] at o
  refine tE_then (f := fun env st => evE c u env st) (g := fun t env st => biE .rev [t] st) er sr o fun t ρ1 H1 st1 v er1 s1 m1 r1 o1 => ?_
  cases t <;> simp only [biE] at o1 <;> first | exact o1.elim | skip
  obtain ⟨a, vs, rfl, h1, h2⟩ := r1
  exact ⟨a, vs, rfl, h1, fun p ob hp hd => fin_tup o1 s1 h2.rev hp hd⟩
/-- xs + ys, a new list that will be turned -/
theorem op_catL : OpR X (binaryOp .Add) (rT2 X.K at_ (fun x y st => biE .cat [x, y] st)) := by
  intro pins s σ H x y v u Q I rx ry ⟨ρ, st, t, t', Z, sr, r, r', o⟩
  simp only [biE] at o
  cases e1 : lstOf st t with
  | none => rw [e1] at o; exact o.elim
  | some a =>
    cases e2 : lstOf st t' with
    | none => rw [e1, e2] at o; exact o.elim
    | some b =>
      rw [e1, e2] at o
      obtain ⟨hc, o⟩ := o.iteN
      obtain ⟨p, vs, rfl, h1, h2⟩ := rep_lst sr r e1
      obtain ⟨p', vs', rfl, h1', h2'⟩ := rep_lst sr r' e2
      rw [h2.length, h2'.length, big_line] at hc
      exact L2.op_cat pins s σ H _ _ v u Q I rx ry ⟨p, p', vs, vs', rfl, rfl, h1, h1', hc, fun q hq => fin_lst (fz := false) o sr (h2.append h2') hq⟩
theorem e_cat {a b : Expr} {pos : Pos} {u v : E} (ha : PE X a (tE X.K at_ W fun env st => evE c u env st)) (hb : PE X b (tE X.K at_ W fun env st => evE c v env st)) : PE X (.BinOp a .Add b pos) (tE X.K at_ W fun env st => evE c (.bi .cat [u, v]) env st) := by
  refine PE_imp (pe_op (op_catL (at_ := at_)) ha hb) fun σ H Q h => ?_
  have e1 : ∀ env st, evE c (.bi .cat [u, v]) env st = (evE c u env st).bind fun x st => (evE c v env st).bind fun y st => biE .cat [x, y] st := fun env st => by
    simp only [evE, evEs]
    cases evE c u env st with
    | no => rfl
    | exc _ _ => rfl
    | ok x s1 =>
      simp only [Res.bind_ok]
      cases evE c v env s1 <;> rfl
  have e2 : (fun env st => evE c (.bi .cat [u, v]) env st) = fun env st => (evE c u env st).bind fun x st => (evE c v env st).bind fun y st => biE .cat [x, y] st := by
    funext env st
    exact e1 env st
  rw [e2] at h
  exact tE_two (g := fun x y st => biE .cat [x, y] st) h fun t u ρ1 H1 st1 v w s1 r1 r2 o1 => ⟨ρ1, st1, t, u, _, s1, r1, r2, o1⟩
theorem bi_str : CallR X (.type "str") (rB X.K at_ (biE .str)) := by
  refine rB_one (fun st ts h => ?_) fun pins s σ H x us Q ρ st t Z I rs sr r o => ?_
  · match ts, h with
    | [], _ => rfl
    | [t], h => exact absurd rfl (h t)
    | _ :: _ :: _, _ => simp only [biE]
  · cases t <;> simp only [biE] at o <;> first | exact o.elim | skip
    obtain ⟨hz, o⟩ := o.iteN
    cases r
    exact call_str_int pins s σ H _ us Q I rs ⟨_, rfl, hz, fin_val o sr rfl⟩
end
end Lw
set_option Elab.async false
set_option linter.all false
set_option maxRecDepth 100000
/-! Lw18: the check of the small language against the syntax: expressions. -/
namespace Lw
open PySem PySem.Spec L2 PyProof.Rows

/-- the globals: defs by number and number of parameters; built-in names that the module leaves as they are -/
structure Gt where
  fn : Str → Option (Nat × Nat)
  blt : Str → Bool
  exc : Str → Option Nat
  ex2 : Str → Option (Nat × Str × Str)
  exm : Str → Nat → Option Bool
  con : Str → Option T
  hear : Str → Option Hk
  lms : Str → Bool
  lm : Bool
/-- in the def x -/
def Gt.of (g : Gt) (x : Str) : Gt := { g with lm := g.lms x }
structure Ck where
  N : List Str
  sc : Scope
  fn : Str → Bool
structure CkOk (ck : Ck) (X : Cx) : Prop where
  N : X.N = ck.N
  sc : X.env.scope = ck.sc
  fn : ∀ x, ck.fn x = true → X.fn x = true
/-- the defs, called so deep -/
def LowOk (g : Gt) (at_ : At) (P : Program) (w : World) (K : PySem.W.Frag) (mg : Str → Option Value) (base : Heap) (k nd : Nat) (cf : Nat → List T → Store → Res T) : Prop :=
  (∀ x f n, g.fn x = some (f, n) → mg x = some (.ref (at_.fa f)) ∧ PySem.W.keepIn K (.ref (at_.fa f)) = true ∧ ∃ fd ps, Binds K fd ps [] ∧ FnG P w K mg base k (at_.fa f) fd ps (spF K at_ n (cf f))) ∧
  ∀ f, f < nd → ∃ n fd ps, PySem.W.keepIn K (.ref (at_.fa f)) = true ∧ Binds K fd ps [] ∧ FnG P w K mg base k (at_.fa f) fd ps (spF K at_ n (cf f)) ∧ ∀ ts st, ts.length ≠ n → cf f ts st = .no
/-- the code object of the def, its table -/
def CodOk (at_ : At) (X : Cx) : Prop := ∃ c P, X.env.code = .ref c ∧ LamX.TabB X.base X.mg c P ∧ (P, X.env.qual ++ "<lambda>") ∈ at_.tb ∧ ∀ p ∈ at_.tb, p.1 = P → p.2 = X.env.qual ++ "<lambda>"
structure Ctx (g : Gt) (at_ : At) (c : Cf) (X : Cx) (W : WX) : Prop where
  calm : X.calm = true
  nd : X.N.Nodup
  hu : X.A.units + 130 < cLine
  hg : X.A.guards = some []
  tk : Takes X W
  blt : ∀ x, g.blt x = true → X.mg x = none
  exc : ∀ x n, g.exc x = some n → X.mg x = some (.ref (at_.ca n)) ∧ PySem.W.keepIn X.K (.ref (at_.ca n)) = true ∧ Raises X (.ref (at_.ca n)) ∧ ∃ B newId initId bmB, ExcBaseFacts B newId initId bmB ∧ PySem.W.excIn X.K (at_.ca n) bmB newId = true
  ex2 : ∀ x n f h, g.ex2 x = some (n, f, h) → X.mg x = some (.ref (at_.ca n)) ∧ SupF X.prog X.K X.mg (at_.ca n) f h ∧ at_.xf n = [f, h]
  con : ∀ x t, g.con x = some t → ∃ u v, X.mg x = some u ∧ L2.RelV v u ∧ ∀ ρ H, Rep X.K at_ ρ H t v
  exm : ∀ x i b, g.exm x i = some b → ∃ j, X.mg x = some (.ref j) ∧ PySem.W.exmOne X.K (.ref (at_.ca i)) (.ref j) = some b
  fns : ∀ x f n, g.fn x = some (f, n) → X.mg x = some (.ref (at_.fa f)) ∧ PySem.W.keepIn X.K (.ref (at_.fa f)) = true ∧ ∃ k fd ps, Binds X.K fd ps [] ∧ Room k X.A ∧ FnG X.prog X.w X.K X.mg X.base k (at_.fa f) fd ps (spF X.K at_ n (c.cf f))
  fnn : ∀ f, f < c.nd → ∃ n k fd ps, PySem.W.keepIn X.K (.ref (at_.fa f)) = true ∧ Binds X.K fd ps [] ∧ Room k X.A ∧ FnG X.prog X.w X.K X.mg X.base k (at_.fa f) fd ps (spF X.K at_ n (c.cf f)) ∧ ∀ ts st, ts.length ≠ n → c.cf f ts st = .no
  low : c.top = true → ∃ k, Room (k + 2) X.A ∧ LowOk g at_ X.prog X.w X.K X.mg X.base k c.nd c.low
  hear : ∀ x hk, g.hear x = some hk → HearD X.K X.mg at_ hk x ∨ HearM X.K X.mg at_ hk x
  cod : c.top = true → g.lm = true → CodOk at_ X
  pw : at_.pg = X.prog ∧ at_.wd = X.w

/-! ### the check -/
def visB (sc : Scope) (x : Str) : Bool := match sc.names.lookup x with
  | some .local => true
  | some .cell => true
  | some .free => true
  | _ => false
def glB (ck : Ck) (x : Str) : Bool := match ck.sc.names.lookup x with
  | some .globalImplicit => true
  | _ => false
def locB (ck : Ck) (x : Str) : Bool := match ck.sc.names.lookup x with
  | some .local => true
  | some .cell => ck.fn x
  | _ => false
/-- not a star -/
def nst : Expr → Bool
  | .Starred _ _ => false
  | _ => true
def nsts (es : List Expr) : Bool := es.all nst
/-- no name called without arguments -/
def nob : Expr → Bool
  | .Call (.Name _ _) [] [] _ => false
  | _ => true
/-- no set display -/
def noset : Expr → Bool
  | .Set _ _ _ => false
  | _ => true
def litB (g : Gt) (t : T) (ck : Ck) (e : Expr) : Bool := match e with
  | .Constant (.int i) _ _ => match t with
    | .int j => decide (i = j)
    | _ => false
  | .Constant (.str i) _ _ => match t with
    | .str j => decide (i = j)
    | _ => false
  | .Constant (.bool i) _ _ => match t with
    | .bl j => i == j
    | _ => false
  | .Constant .none _ _ => match t with
    | .non => true
    | _ => false
  | .Name x _ => match t with
    | .fn f => glB ck x && (match g.fn x with | some p => decide (p.1 = f) | none => false) && !(x == ("__debug__" : Str))
    | t => glB ck x && decide (g.con x = some t) && !(x == ("__debug__" : Str))
  | _ => false
def biNm : Bi → Str
  | .abs => "abs" | .all => "all" | .any => "any" | .dict _ => "dict" | .int => "int" | .isi _ => "isinstance" | .len => "len" | .list _ => "list" | .max1 => "max" | .max2 => "max" | .min1 => "min" | .min2 => "min"
  | .repr => "repr" | .sorted _ => "sorted" | .str => "str" | .sum => "sum" | .tuple => "tuple" | _ => ""
/-- the built-ins that are known -/
def biOk : Bi → Bool
  | .abs | .all | .any | .dict _ | .int | .len | .list _ | .max1 | .max2 | .min1 | .min2 | .repr | .sorted _ | .str | .sum | .tuple => true
  | _ => false
def nsg (x : Str) : Bool := !(x == ("__debug__" : Str)) && !(x == ("__name__" : Str))
/-- what stands in a walk -/
def itArgs (g : Gt) (ck : Ck) (k : Ik) (it : Expr) : Option (List Expr) := match k with
  | .val => some [it]
  | .rng1 => match it with
    | .Call (.Name x _) [a] [] _ => if x = "range" ∧ glB ck x = true ∧ g.blt x = true ∧ nst a = true then some [a] else none
    | _ => none
  | .rng2 => match it with
    | .Call (.Name x _) [a, b] [] _ => if x = "range" ∧ glB ck x = true ∧ g.blt x = true ∧ nst a = true ∧ nst b = true then some [a, b] else none
    | _ => none
  | .enum => match it with
    | .Call (.Name x _) [a] [] _ => if x = "enumerate" ∧ glB ck x = true ∧ g.blt x = true ∧ nst a = true then some [a] else none
    | _ => none
  | .zip2 => match it with
    | .Call (.Name x _) [a, b] [] _ => if x = "zip" ∧ glB ck x = true ∧ g.blt x = true ∧ nst a = true ∧ nst b = true then some [a, b] else none
    | _ => none
  | _ => none
/-- pairs go to a tuple -/
def itTg (k : Ik) (g : G) : Bool := match k with
  | .enum => match g with
    | .tup _ => true
    | _ => false
  | .zip2 => match g with
    | .tup _ => true
    | _ => false
  | _ => true
mutual
def chkG : G → Ck → Expr → Bool
  | .name i, ck, e => match e with
    | .Name x _ => decide (ck.N[i]? = some x) && locB ck x
    | _ => false
  | .tup gs, ck, e => match e with
    | .Tuple es _ _ => nsts es && chkGs gs ck es
    | _ => false
def chkGs : List G → Ck → List Expr → Bool
  | [], _, es => es.isEmpty
  | g :: gs, ck, es => match es with
    | e :: es => chkG g ck e && chkGs gs ck es
    | [] => false
end
def ckIn (ck : Ck) (scope : Scope) : Ck := ⟨ck.N, relS scope ck.sc, fun x => scope.names.lookup x == some .cell⟩
def ownL (ck : Ck) (own : List Nat) : List (Str × Nat) := own.map fun i => (ck.N.getD i "", i)
def ckLam (ck : Ck) (scope : Scope) : Ck := ⟨ck.N, scope, fun _ => false⟩
/-- the names of a def -/
def scopeB (N P : List Str) (sc : Scope) : Bool := (match sc.kind with | .function => true | _ => false) && !sc.isCoroutine && !sc.isGenerator && decide (N.Nodup) && decide (N.take P.length = P) &&
  (P.all fun x => match sc.names.lookup x with | some .local => true | some .cell => true | _ => false) && (sc.names.all fun y => match y.2 with | .free => false | _ => true)
theorem scopeB_ok {N P : List Str} {sc : Scope} (h : scopeB N P sc = true) : FnScope N P sc := by
  unfold scopeB at h
  simp only [Bool.and_eq_true, Bool.not_eq_true', decide_eq_true_eq, List.all_eq_true] at h
  obtain
        ⟨⟨⟨⟨⟨⟨h1, h2⟩, h3⟩, h4⟩, h5⟩, h6⟩, h7⟩ := h
  refine ⟨?_, h2, h3, h4, h5, fun x hx => ?_, fun y hy e => ?_⟩
  · split at h1
    · assumption
    · cases h1
  · have q := h6 x hx
    split
          at q <;> first | exact .inl (by assumption) | exact .inr (by assumption) | cases q
  · have q := h7 y hy
    rw [e] at q
    cases q
def ckKey (x : Str) (scope : Scope) : Ck := ⟨[x], scope, fun _ => true⟩
/-- no parameter -/
def noPar : Arguments → Bool
  | ⟨[], [], none, [], [], none, []⟩ => true
  | _ => false
mutual
def chkE (g : Gt) : E → Ck → Expr → Bool
  | .lit t, ck, e => litB g t ck e
  | .var i, ck, e => match e with
    | .Name x _ => decide (ck.N[i]? = some x) && visB ck.sc x && !(x == ("__debug__" : Str)) && !(x == ("__classdict__" : Str))
    | _ => false
  | .tup us, ck, e => match e with
    | .Tuple es _ _ => decide (us.length ≤ big) && nsts es && chkEs g us ck es
    | _ => false
  | .lst _ us, ck, e => match e with
    | .List es _ => decide (us.length ≤ big) && nsts es && chkEs g us ck es
    | _ => false
  | .dct _ us, ck, e => match e with
    | .Dict ks vs _ => decide (ks.length ≤ 15) && chkPs g us ck ks vs
    | _ => false
  | .bin o a b, ck, e => match e with
    | .BinOp x op y _ => decide (op = bopOf o) && chkE g a ck x && chkE g b ck y
    | _ => false
  | .neg a, ck, e => match e with
    | .UnaryOp .USub x _ => chkE g a ck x
    | _ => false
  | .not a, ck, e => match e with
    | .UnaryOp .Not x _ => tsB x && chkE g a ck x
    | _ => false
  | .and a b, ck, e => match e with
    | .BoolOp .And (x :: y :: r) p => tsB x && chkE g a ck x && (match r with | [] => tsB y | _ => true) && chkE g b ck (match r with | [] => y | _ => .BoolOp .And (y :: r) p)
    | _ => false
  | .or a b, ck, e => match e with
    | .BoolOp .Or (x :: y :: r) p => tsB x && chkE g a ck x && (match r with | [] => tsB y | _ => true) && chkE g b ck (match r with | [] => y | _ => .BoolOp .Or (y :: r) p)
    | _ => false
  | .cmp o a b, ck, e => match e with
    | .Compare x [op] [y] _ => decide (op = copOf o) && !behindInMarks op y && chkE g a ck x && chkE g b ck y
    | _ => false
  | .chain o p a b d, ck, e => match e with
    | .Compare x [op, oq] [y, z] _ => decide (op = copOf o) && decide (oq = copOf p) && !lastMarks [op, oq] [y, z] && chkE g a ck x && chkE g b ck y && chkE g d ck z
    | _ => false
  | .ite t a b, ck, e => match e with
    | .IfExp x y z _ => tsB x && chkE g t ck x && chkE g a ck y && chkE g b ck z
    | _ => false
  | .call f _ us, ck, e => match e with
    | .Call (.Name x _) es [] _ => glB ck x && decide (g.fn x = some (f, us.length)) && !(x == ("__debug__" : Str)) && nsts es && chkEs g us ck es
    | _ => false
  | .hear hk u, ck, e => match e with
    | .Call (.Name x _) [.Lambda params body scope _] [] _ => g.lm && glB ck x && decide (g.hear x = some hk) && noPar params && LamX.lamSB ck.sc scope && chkE g u (ckLam ck scope) body
    | _ => false
  | .callv i _ us, ck, e => match e with
    | .Call (.Name x _) es [] _ => decide (ck.N[i]? = some x) && visB ck.sc x && !(x == ("__debug__" : Str)) && !(x == ("__classdict__" : Str)) && !es.isEmpty && nsts es && chkEs g us ck es
    | _ => false
  | .bi b us, ck, e => match e with
    | .Call (.Name x _) es [] _ => match b with
      | .isi t => match es with
        | [a, .Name y _] => decide (x = biNm (.isi t)) && decide (y = Str.ofString (tyV' t)) && glB ck x && glB ck y && g.blt x && g.blt y && nst a && chkEs g us ck [a]
        | _ => false
      | .sortset _ => match es with
        | [.Call (.Name y _) [a] [] _] => decide (x = "sorted") && decide (y = "set") && glB ck x && glB ck y && g.blt x && g.blt y && nst a && decide (us.length = 1) && chkEs g us ck [a]
        | _ => false
      | .tupr => match es with
        | [.Call (.Name y _) as [] _] => decide (x = "tuple") && decide (y = "range") && glB ck x && glB ck y && g.blt x && g.blt y && nsts as && (decide (us.length = 1) || decide (us.length = 2)) && chkEs g us ck as
        | _ => false
      | .lstr _ => match es with
        | [.Call (.Name y _) as [] _] => decide (x = "list") && decide (y = "range") && glB ck x && glB ck y && g.blt x && g.blt y && nsts as && (decide (us.length = 1) || decide (us.length = 2)) && chkEs g us ck as
        | _ => false
      | b => biOk b && decide (x = biNm b) && glB ck x && g.blt x && nsts es && !es.isEmpty && chkEs g us ck es
    | .Subscript x (.Slice none none (some (.UnaryOp .USub (.Constant (.int i) _ _) _)) _) _ => decide (i = 1) && (match b with
      | .rev => decide (us.length = 1) && chkEs g us ck [x]
      | _ => false)
    | .BinOp x op y _ => decide (op = .Add) && (match b with
      | .cat => decide (us.length = 2) && chkEs g us ck [x, y]
      | _ => false)
    | _ => false
  | .mt m o us, ck, e => match e with
    | .Call (.Attribute oe nm apos) es [] cpos => decide (nm = mnm m) && nob oe && (apos.endLine == cpos.line) && nsts es && decide (es.length < 30) && chkE g o ck oe && chkEs g us ck es
    | _ => false
  | .idx a i, ck, e => match e with
    | .Subscript x y _ => nsl y && chkE g a ck x && chkE g i ck y
    | _ => false
  | .sli a lo hi, ck, e => match e with
    | .Subscript x (.Slice l h none _) _ => chkE g a ck x && chkO g lo ck l && chkO g hi ck h
    | _ => false
  | .comp _ u tg k its ifs own, ck, e => match e with
    | .ListComp elt [⟨t, iter, fs, 0⟩] scope _ => blkC ck.N ck.sc scope (ownL ck own) && chkG tg (ckIn ck scope) t && (nmG tg).all (fun i => own.contains i) && itTg k tg && noset iter &&
        (match itArgs g ck k iter with
          | some as => chkEs g its ck as
          | none => false) && chkE g u (ckIn ck scope) elt && decide (fs.length ≤ 1) && fs.all tsB && chkEs g ifs (ckIn ck scope) fs
    | _ => false
  | .dcomp _ kx u tg k its ifs own, ck, e => match e with
    | .DictComp ke elt [⟨t, iter, fs, 0⟩] scope _ => blkC ck.N ck.sc scope (ownL ck own) && chkG tg (ckIn ck scope) t && (nmG tg).all (fun i => own.contains i) && itTg k tg && noset iter &&
        (match itArgs g ck k iter with
          | some as => chkEs g its ck as
          | none => false) && chkE g kx (ckIn ck scope) ke && chkE g u (ckIn ck scope) elt && decide (fs.length ≤ 1) && fs.all tsB && chkEs g ifs (ckIn ck scope) fs
    | _ => false
  | .ldd us, ck, e => match e with
    | .Dict ks vs _ => decide (ks.length ≤ 15) && chkPs g us ck ks vs
    | _ => false
  | .lpu o us, ck, e => match e with
    | .Call (.Attribute oe nm apos) [.Dict ks vs _] [] cpos => decide (nm = "update") && nob oe && (apos.endLine == cpos.line) && !ks.isEmpty && decide (ks.length ≤ 15) && chkE g o ck oe && chkPs g us ck ks vs
    | _ => false
  | .lup o kx u tg k its ifs own, ck, e => match e with
    | .Call (.Attribute oe nm apos) [.DictComp ke elt [⟨t, iter, fs, 0⟩] scope _] [] cpos => (decide (nm = "update") && nob oe && (apos.endLine == cpos.line) && chkE g o ck oe) && (blkC ck.N ck.sc scope (ownL ck own) && chkG tg (ckIn ck scope) t && (nmG tg).all (fun i => own.contains i) && itTg k tg && noset iter &&
        (match itArgs g ck k iter with
          | some as => chkEs g its ck as
          | none => false) && chkE g kx (ckIn ck scope) ke && chkE g u (ckIn ck scope) elt && decide (fs.length ≤ 1) && fs.all tsB && chkEs g ifs (ckIn ck scope) fs)
    | _ => false
  | .lsrt _ o u, ck, e => match e with
    | .Call (.Name x _) [oe] [⟨some kw, .Lambda params body scope _, _⟩] _ => g.lm && decide (x = "sorted") && glB ck x && g.blt x && decide (kw = "key") && nst oe && chkE g o ck oe && (match params.args with
      | [a] => onePar a.arg params && scopeB [a.arg] [a.arg] scope && chkE g u (ckKey a.arg scope) body
      | _ => false)
    | _ => false
def chkEs (g : Gt) : List E → Ck → List Expr → Bool
  | [], _, es => es.isEmpty
  | u :: us, ck, es => match es with
    | e :: es => chkE g u ck e && chkEs g us ck es
    | [] => false
def chkPs (g : Gt) : List (E × E) → Ck → List (Option Expr) → List Expr → Bool
  | [], _, ks, vs => ks.isEmpty && vs.isEmpty
  | (u, w) :: r, ck, ks, vs => match ks, vs with
    | some k :: ks, v :: vs => chkE g u ck k && chkE g w ck v && chkPs g r ck ks vs
    | _, _ => false
def chkO (g : Gt) : Option E → Ck → Option Expr → Bool
  | none, _, e => e.isNone
  | some u, ck, e => match e with
    | some e => chkE g u ck e
    | none => false
/-- what is known as a test -/
def tsB : Expr → Bool
  | .IfExp _ _ _ _ => false
  | _ => true
end

/-! ### what the checks say -/
theorem star_cons {env : PySem.Env} {e : Expr} {es : List Expr} (h : nst e = true) : starEach (e :: es) env = (false, eval e env) :: starEach es env := by
  cases e <;> first | rfl | cases h
theorem star_plain {env : PySem.Env} {pos : Pos} : ∀ {es : List Expr}, nsts es = true → (backTo pos (starEach es env)).any (·.1) = false
  | [], _ => rfl
  | e :: es, h => by
    simp only [nsts, List.all_cons, Bool.and_eq_true] at h
    rw [star_cons h.1]
    show (false || (backTo pos (starEach es env)).any (·.1)) = false
    rw [star_plain (es := es) h.2]
    rfl
theorem star_few {env : PySem.Env} {pos : Pos} {es : List Expr} (h : nsts es = true) (hl : es.length < 30) : ((backTo pos (starEach es env)).all (fun x => !x.1) && (backToKw pos (keywordEach [] env)).all (fun x => x.1.isSome)
      && decide (es.length + ([] : List Keyword).length + (if ([] : List Keyword).isEmpty then 0 else 1) < 30)) = true := by
  have h1 : ∀ {es : List Expr}, nsts es = true → (backTo pos (starEach es env)).all (fun x => !x.1) = true := by
    intro es
    induction es with
    | nil => intro _; rfl
    | cons e es ih =>
      intro h
      simp only [nsts, List.all_cons, Bool.and_eq_true] at h
      rw [star_cons h.1]
      show (true && (backTo pos (starEach es env)).all (fun x => !x.1)) = true
      rw [ih h.2]
      rfl
  rw [h1 h]
  have h2 : (backToKw pos (keywordEach [] env)).all (fun x => x.1.isSome) = true := rfl
  rw [h2]
  simpa using hl
theorem asg_star {env : PySem.Env} {e : Expr} {es : List Expr} (h : nst e = true) : assignEach (e :: es) env = (false, assign e env) :: assignEach es env := by
  cases e <;> first | rfl | cases h
theorem asg_plain {env : PySem.Env} : ∀ {es : List Expr}, nsts es = true → (assignEach es env).findIdx? (·.1) = none ∧ (assignEach es env).length = es.length
  | [], _ => ⟨rfl, rfl⟩
  | e :: es, h => by
    simp only [nsts, List.all_cons, Bool.and_eq_true] at h
    obtain ⟨h1, h2⟩ := asg_plain (env := env) (es := es) h.2
    rw [asg_star h.1]
    refine ⟨?_, by simp [h2]⟩
    rw [List.findIdx?_cons, h1]
    rfl
theorem glB_ok {ck : Ck} {X : Cx} {x : Str} (k : CkOk ck X) (h : glB ck x = true) : Gl X x := by
  unfold glB at h
  split at h
  · rename_i e
    show X.env.scope.names.lookup x = _
    rw [k.sc]
    exact e
  · cases h
theorem visB_ok {ck : Ck} {X : Cx} {x : Str} (k : CkOk ck X) (h : visB ck.sc x = true) : Vis X.env.scope x := by
  rw [k.sc]
  unfold visB at h
  split at h
  · exact .inl (by assumption)
  · exact .inr (.inl (by assumption))
  · exact .inr (.inr (by assumption))
  · cases h
theorem locB_ok {ck : Ck} {X : Cx} {x : Str} (k : CkOk ck X) (h : locB ck x = true) : Loc X.env.scope x ∧ (X.fn x = true ∨ X.env.scope.names.lookup x = some .local) := by
  rw [k.sc]
  unfold locB at h
  split at h
  · rename_i e; exact ⟨.inl e, .inr e⟩
  · rename_i e; exact ⟨.inr e, .inl (k.fn _ h)⟩
  · cases h
theorem nob_ok {o : Expr} {env : PySem.Env} {nm : Str} (h : nob o = true) : attributeBase o nm env (eval o env) = eval o env := by
  unfold attributeBase
  split
  · cases h
  · rfl
theorem noset_ok {e : Expr} {env : PySem.Env} (h : noset e = true) (x : Value) : foldedSetIterable e env x = pure x := by
  cases e <;> first | rfl | cases h
theorem nsl_ok {b : Expr} (h : nsl b = true) : PlainIx b := by
  intro o i
  cases b <;> first | rfl | cases h
theorem ownL_snd (ck : Ck) (own : List Nat) : (ownL ck own).map (·.2) = own := by
  unfold ownL
  rw [List.map_map]
  show own.map (fun i => i) = own
  simp
section
variable {g : Gt} {at_ : At} {c : Cf} {X : Cx} {W : WX} {ck : Ck}
theorem Ctx.blk (C : Ctx g at_ c X W) (s : Shared) (H : Hp) (scope : Scope) (cenv : PySem.Env) (fp : List Addr) (hc : cenv.code = X.env.code := by rfl) (hq : cenv.qual = X.env.qual := by rfl) : Ctx g at_ c (X.blk s H scope cenv fp) noX :=
  ⟨C.calm, C.nd, C.hu, C.hg, takes_none5, C.blt, C.exc, C.ex2, C.con, C.exm, C.fns, C.fnn, C.low, C.hear, (fun z1 z2 => by
    obtain ⟨cc, P, a1, a2, a3, a4⟩ := C.cod z1 z2
    refine ⟨cc, P, hc.trans a1, a2, ?_, ?_⟩
    · show (P, cenv.qual ++ "<lambda>") ∈ _; rw [hq]; exact a3
    · show ∀ p ∈ _, _ → _ = cenv.qual ++ "<lambda>"; rw [hq]; exact a4), C.pw⟩
theorem CkOk.blk (k : CkOk ck X) (s : Shared) (H : Hp) (scope : Scope) (C : Addr) (cl : List (Str × Addr)) (fp : List Addr) : CkOk (ckIn ck scope) (X.blk s H scope (compEnvC scope cl C X.env) fp) :=
  ⟨k.N, by show relS scope X.env.scope = _; rw [k.sc]; rfl, fun x h => h⟩
end
end Lw
set_option Elab.async false
set_option linter.all false
set_option maxRecDepth 100000
/-! Lw19: what is checked is so: expressions. -/
namespace Lw
open PySem PySem.Spec L2 PyProof.Rows
section
variable {g : Gt} {at_ : At} {c : Cf} {X : Cx} {W : WX} {ck : Ck}
theorem lit_ok (C : Ctx g at_ c X W) (k : CkOk ck X) {t : T} {e : Expr} (h : litB g t ck e = true) : PE X e (tE X.K at_ W fun env st => evE c (.lit t) env st) := by
  unfold litB at h
  split at h
  · split at h
    · have e := of_decide_eq_true h; subst e; exact e_lit pe_int fun _ _ => by exact rfl
    · cases h
  · split at h
    · have e := of_decide_eq_true h; subst e; exact e_lit pe_str fun _ _ => by exact rfl
    · cases h
  · split at h
    · have e := eq_of_beq h; subst e; exact e_lit pe_bl fun _ _ => by exact rfl
    · cases h
  · split at h
    · exact e_lit pe_non fun _ _ => by exact rfl
    · cases h
  · split at h
    · rename_i f
      simp only
            [Bool.and_eq_true, Bool.not_eq_true'] at h
      obtain ⟨⟨h1, h2⟩, h3⟩ := h
      split at h2
      · rename_i p e
        have e' := of_decide_eq_true h2
        obtain ⟨f', n⟩ := p
        simp only at e'
        subst e'
        exact e_lit (pe_glob (v := .ref (at_.fa f')) (glB_ok k h1) (C.fns _ _ _ e).1 rfl h3) fun _ _ => by exact rfl
      · cases h2
    · simp only [Bool.and_eq_true, Bool.not_eq_true', decide_eq_true_eq] at h
      obtain ⟨u, v, m, r, q⟩ := C.con _ _ h.1.2
      exact e_lit (pe_glob (v := v) (glB_ok k h.1.1) m r h.2) q
  · cases h
theorem PEs_bool (C : Ctx g at_ c X W) (k : CkOk ck X) : True := trivial

/-! ### targets -/
mutual
theorem chkG_ok (hc : X.calm = true) (hN : X.N.Nodup) (k : CkOk ck X) : ∀ (t : G) (e : Expr), chkG t ck e = true → PG X e (tG X.K at_ t)
  | .name i, e, h => by
    simp only [chkG] at h
    split at h
    · simp only
            [Bool.and_eq_true, decide_eq_true_eq] at h
      obtain ⟨h1, h2⟩ := locB_ok k h.2
      exact g_name hN (by rw [k.N]; exact h.1) h1 h2
    · cases h
  | .tup gs, e, h => by
    simp only [chkG] at h
    split at h
    · simp only [Bool.and_eq_true] at h
      obtain ⟨h1, h2⟩ := asg_plain (env := X.env) h.1
      exact g_tup hc (chkGs_ok hc hN k gs _ h.1 h.2) (by rw [h2]; exact (chkGs_len gs _ h.2).symm) h1
    · cases h
theorem chkGs_ok (hc : X.calm = true) (hN : X.N.Nodup) (k : CkOk ck X) : ∀ (gs : List G) (es : List Expr), nsts es = true → chkGs gs ck es = true → PGs X es (tGs X.K at_ gs)
  | [], es, _, h => by
    simp only [chkGs] at h
    cases es with
    | nil => exact gs_nil
    | cons => cases h
  | g :: gs, es, hs, h => by
    simp only [chkGs] at h
    cases es with
    | nil => cases h
    | cons e es =>
      simp only
            [Bool.and_eq_true] at h
      simp only [nsts, List.all_cons, Bool.and_eq_true] at hs
      exact gs_cons (chkG_ok hc hN k g e h.1) (chkGs_ok hc hN k gs es hs.2 h.2) (by rw [asg_star hs.1]; rfl)
theorem chkGs_len : ∀ (gs : List G) (es : List Expr), chkGs gs ck es = true → gs.length = es.length
  | [], es, h => by
    simp only [chkGs] at h
    cases es with
    | nil => rfl
    | cons => cases h
  | g :: gs, es, h => by
    simp only [chkGs] at h
    cases es with
    | nil => cases h
    | cons e es =>
      simp only
            [Bool.and_eq_true] at h
      simp [chkGs_len gs es h.2]
end
/-- walks -/
theorem it_ok (C : Ctx g at_ c X W) (k : CkOk ck X) {ik : Ik} {tg : Expr} {it : Expr} {as : List Expr} {tt : G} {us : List E} (h : itArgs g ck ik it = some as) (ht : itTg ik tt = true) (hg : chkG tt ck tg = true ∨ ∃ ck', chkG tt ck' tg = true)
    (ha : nsts as = true → PA X as (tEs X.K at_ W fun env st => evEs c us env st)) (h1 : ∀ e, as = [e] → ∃ u, us = [u] ∧ PE X e (tE X.K at_ W fun env st => evE c u env st)) : PI X tg it (iW X.K at_ W tt ik fun env st => evEs c us env st) := by
  have tup : ∀ gs, tt = .tup gs → ∃ es kk p, tg = .Tuple es kk p := by
    rintro gs rfl
    have : ∃ ck', chkG (.tup gs) ck' tg = true := hg.elim (fun z => ⟨_, z⟩) id
    obtain ⟨ck', q⟩ := this
    simp only [chkG] at q
    split at q
    · exact ⟨_, _, _, rfl⟩
    · cases q
  unfold itArgs at h
  split at h
  · cases h
    obtain ⟨u, rfl, pe⟩ := h1 _ rfl
    exact w_val pe
  · split at h
    · split at h
      · rename_i hc
        cases h
        obtain ⟨rfl, h2, h3, h4⟩ := hc
        exact w_rng1 (glB_ok k h2) (C.blt _ h3) (ha (by simp [nsts, h4])) (star_cons h4)
      · cases h
    · cases h
  · split at h
    · split at h
      · rename_i hc
        cases h
        obtain ⟨rfl, h2, h3, h4, h5⟩ := hc
        exact w_rng2 (glB_ok k h2) (C.blt _ h3) (ha (by simp [nsts, h4, h5])) (by rw [star_cons h4, star_cons h5]; rfl) (by rw [star_cons h5]; rfl)
      · cases h
    · cases h
  · split at h
    · split at h
      · rename_i hc
        cases h
        obtain ⟨rfl, h2, h3, h4⟩ := hc
        cases tt with
        | name i => cases ht
        | tup gs =>
          obtain ⟨es, kk, p, rfl⟩ := tup gs rfl
          exact w_enum (glB_ok k h2) (C.blt _ h3) (ha (by simp [nsts, h4])) (star_cons h4)
      · cases h
    · cases h
  · split at h
    · split at h
      · rename_i hc
        cases h
        obtain ⟨rfl, h2, h3, h4, h5⟩ := hc
        cases tt with
        | name i => cases ht
        | tup gs =>
          obtain ⟨es, kk, p, rfl⟩ := tup gs rfl
          exact w_zip (glB_ok k h2) (C.blt _ h3) (ha (by simp [nsts, h4, h5])) (star_cons h4) (star_plain (by simp [nsts, h5]))
      · cases h
    · cases h
  · cases h
theorem it_nst {ik : Ik} {it : Expr} {as : List Expr} (h : itArgs g ck ik it = some as) (hne : ik ≠ .val) : nsts as = true := by
  unfold itArgs at h
  split at h
  · exact absurd rfl hne
  all_goals first | (cases h; done) | skip
  all_goals
    split at h
    · split at h
      · rename_i hc
        cases h
        simp [nsts, hc]
      · cases h
    · cases h

theorem isEmpty_nil {α : Type} {l : List α} (h : l.isEmpty = true) : l = [] := by cases l <;> first | rfl | cases h
theorem pt_default {e : Expr} {u : E} (h : PE X e (tE X.K at_ W fun env st => evE c u env st)) (h1 : ∀ op vs p, e ≠ .BoolOp op vs p) (h2 : ∀ x p, e ≠ .UnaryOp .Not x p) (h3 : ∀ x os es p, e ≠ .Compare x os es p) (h4 : tsB e = true) : PT X e (tT X.K at_ W fun env st => evE c u env st) := by
  refine p_val h fun whole => ?_
  cases e with
  | BoolOp op vs p => exact absurd rfl (h1 _ _ _)
  | UnaryOp op x p => cases op <;> first | rfl | exact absurd rfl (h2 _ _)
  | Compare x os es p => exact absurd rfl (h3 _ _ _ _)
  | IfExp => cases h4
  | _ => rfl
/-- what the check of an expression gives -/
structure Say (at_ : At) (c : Cf) (X : Cx) (W : WX) (u : E) (e : Expr) : Prop where
  pe : PE X e (tE X.K at_ W fun env st => evE c u env st)
  pt : tsB e = true → PT X e (tT X.K at_ W fun env st => evE c u env st)
  pw : ∀ op vs p, e = .BoolOp op vs p → PW X e (tT X.K at_ W fun env st => evE c u env st)
theorem Say.plain {e : Expr} {u : E} (h : PE X e (tE X.K at_ W fun env st => evE c u env st)) (h1 : ∀ op vs p, e ≠ .BoolOp op vs p) (h2 : ∀ x p, e ≠ .UnaryOp .Not x p) (h3 : ∀ x os es p, e ≠ .Compare x os es p) : Say at_ c X W u e :=
  ⟨h, pt_default h h1 h2 h3, fun op vs p z => absurd z (h1 op vs p)⟩
theorem bi_ok (C : Ctx g at_ c X W) (k : CkOk ck X) {b : Bi} {x : Str} {p pos : Pos} {es : List Expr} {us : List E} (hb : biOk b = true) (hx : x = biNm b) (hg : glB ck x = true) (hm : g.blt x = true) (hs : nsts es = true) (hne : es.isEmpty = false)
    (ha : PA X es (tEs X.K at_ W fun env st => evEs c us env st)) : PE X (.Call (.Name x p) es [] pos) (tE X.K at_ W fun env st => evE c (.bi b us) env st) := by
  cases es with
  | nil => cases hne
  | cons e es =>
    have hs' := hs
    simp only [nsts, List.all_cons, Bool.and_eq_true] at hs
    have s1 := star_cons (env := X.env) (es := es) hs.1
    have s2 := star_plain (env := X.env) (pos := pos) hs.2
    have gl := glB_ok k hg
    have m := C.blt _ hm
    cases b <;> first | (cases hb; done) | skip
    · obtain rfl : x = ("abs" : Str) := hx
      exact e_biB bi_abs gl m PyProof.Rows.boot_abs ha (by decide) (by decide) s1 s2
    · obtain rfl : x = ("all" : Str) := hx
      exact e_biB (bi_all C.calm) gl m (by decide +kernel) ha (by decide) (by decide) s1 s2
    · obtain rfl : x = ("any" : Str) := hx
      exact e_biB (bi_any C.calm) gl m (by decide +kernel) ha (by decide) (by decide) s1 s2
    · obtain rfl : x = ("dict" : Str) := hx
      exact e_biT (bi_dict C.calm _) gl m (by decide +kernel) ha (by decide) (by decide) s1 s2
    · obtain rfl : x = ("int" : Str) := hx
      exact e_biT bi_int gl m (by decide +kernel) ha (by decide) (by decide) s1 s2
    · obtain rfl : x = ("len" : Str) := hx
      exact e_biB bi_len gl m PySem.boot_len ha (by decide) (by decide) s1 s2
    · obtain rfl : x = ("list" : Str) := hx
      exact e_biT (bi_list _) gl m (by decide +kernel) ha (by decide) (by decide) s1 s2
    · obtain rfl : x = ("max" : Str) := hx
      exact e_biB (bi_max1 C.calm C.hu) gl m (by decide +kernel) ha (by decide) (by decide) s1 s2
    · obtain rfl : x = ("max" : Str) := hx
      exact e_biB (bi_max2 C.calm) gl m (by decide +kernel) ha (by decide) (by decide) s1 s2
    · obtain rfl : x = ("min" : Str) := hx
      exact e_biB (bi_min1 C.calm) gl m (by decide +kernel) ha (by decide) (by decide) s1 s2
    · obtain rfl : x = ("min" : Str) := hx
      exact e_biB (bi_min2 C.calm) gl m (by decide +kernel) ha (by decide) (by decide) s1 s2
    · obtain rfl : x = ("repr" : Str) := hx
      exact e_biB (bi_repr C.hg C.hu) gl m (by decide +kernel) ha (by decide) (by decide) s1 s2
    · obtain rfl : x = ("sorted" : Str) := hx
      exact e_biB (bi_sorted C.calm C.hu _) gl m (by decide +kernel) ha (by decide) (by decide) s1 s2
    · obtain rfl : x = ("str" : Str) := hx
      exact e_biT bi_str gl m (by decide +kernel) ha (by decide) (by decide) s1 s2
    · obtain rfl : x = ("sum" : Str) := hx
      exact e_biB (bi_sum C.calm) gl m (by decide +kernel) ha (by decide) (by decide) s1 s2
    · obtain rfl : x = ("tuple" : Str) := hx
      exact e_biT (bi_tuple C.calm) gl m (by decide +kernel) ha (by decide) (by decide) s1 s2
theorem ty_ok (C : Ctx g at_ c X W) (k : CkOk ck X) {t : Ty} {y : Str} {p : Pos} (hy : y = Str.ofString (tyV' t)) (hg : glB ck y = true) (hm : g.blt y = true) : PE X (.Name y p) (tC (.ty (tyV' t))) := by
  have gl := glB_ok k hg
  have m := C.blt _ hm
  subst hy
  cases t
  · exact pe_bltn gl m (by decide +kernel) rfl (by decide) (by decide)
  · exact pe_bltn gl m (by decide +kernel) rfl (by decide) (by decide)
  · exact pe_bltn gl m (by decide +kernel) rfl (by decide) (by decide)
  · exact pe_bltn gl m (by decide +kernel) rfl (by decide) (by decide)
  · exact pe_bltn gl m (by decide +kernel) rfl (by decide) (by decide)
  · exact pe_bltn gl m (by decide +kernel) rfl (by decide) (by decide)
theorem val_no {u : E} {us : List E} (h : us = [u]) : True := trivial
mutual
theorem chkE_ok : ∀ (u : E) {c : Cf} (X : Cx) (W : WX) (ck : Ck) (e : Expr), Ctx g at_ c X W → CkOk ck X → chkE g u ck e = true → Say at_ c X W u e
  | .lit t, c, X, W, ck, e, C, k, h => by
    simp only [chkE] at h
    have pe := lit_ok C k h
    unfold litB at h
    split at h <;> first | exact .plain pe (by intros; exact Expr.noConfusion) (by intros; exact Expr.noConfusion) (by intros; exact Expr.noConfusion) | cases h
  | .var i, c, X, W, ck, e, C, k, h => by
    simp only [chkE] at h
    split at h
    · simp only [Bool.and_eq_true, decide_eq_true_eq, Bool.not_eq_true'] at h
      obtain
            ⟨⟨⟨h1, h2⟩, h3⟩, h4⟩ := h
      exact .plain (e_var (by rw [k.N]; exact h1) (visB_ok k h2) h3 h4) (by intros; exact Expr.noConfusion) (by intros; exact Expr.noConfusion) (by intros; exact Expr.noConfusion)
    · cases h
  | .tup us, c, X, W, ck, e, C, k, h => by
    simp only [chkE] at h
    split at h
    · simp only
            [Bool.and_eq_true, decide_eq_true_eq] at h
      obtain ⟨⟨h1, h2⟩, h3⟩ := h
      exact .plain (e_tup (chkEs_ok us X W ck _ C k h2 h3) h1) (by intros; exact Expr.noConfusion) (by intros; exact Expr.noConfusion) (by intros; exact Expr.noConfusion)
    · cases h
  | .lst fz us, c, X, W, ck, e, C, k, h => by
    simp only [chkE] at h
    split at h
    · simp only
            [Bool.and_eq_true, decide_eq_true_eq] at h
      obtain ⟨⟨h1, h2⟩, h3⟩ := h
      exact .plain (e_lst (chkEs_ok us X W ck _ C k h2 h3) h1) (by intros; exact Expr.noConfusion) (by intros; exact Expr.noConfusion) (by intros; exact Expr.noConfusion)
    · cases h
  | .dct fz us, c, X, W, ck, e, C, k, h => by
    simp only [chkE] at h
    split at h
    · rename_i ks vs _
      simp only
            [Bool.and_eq_true, decide_eq_true_eq] at h
      obtain ⟨h1, h2⟩ := h
      obtain ⟨q1, q2, q3⟩ := chkPs_len us ck ks vs h2
      cases ks with
      | nil =>
        cases vs with
        | nil =>
          cases us with
          | nil => exact .plain e_dct0 (by intros; exact Expr.noConfusion) (by intros; exact Expr.noConfusion) (by intros; exact Expr.noConfusion)
          | cons => cases q3
        | cons => cases q2
      | cons k0 ks => exact .plain (e_dct (chkPs_ok us X W ck _ _ C k h2) q1 q2 (by simp) h1 q3) (by intros; exact Expr.noConfusion) (by intros; exact Expr.noConfusion) (by intros; exact Expr.noConfusion)
    · cases h
  | .bin o a b, c, X, W, ck, e, C, k, h => by
    simp only [chkE] at h
    split at h
    · simp only
            [Bool.and_eq_true, decide_eq_true_eq] at h
      obtain ⟨⟨rfl, h2⟩, h3⟩ := h
      exact .plain (e_bin o (chkE_ok a X W ck _ C k h2).pe (chkE_ok b X W ck _ C k h3).pe) (by intros; exact Expr.noConfusion) (by intros; exact Expr.noConfusion) (by intros; exact Expr.noConfusion)
    · cases h
  | .neg a, c, X, W, ck, e, C, k, h => by
    simp only [chkE] at h
    split at h
    · exact .plain (e_neg (chkE_ok a X W ck _ C k h).pe) (by intros; exact Expr.noConfusion) (by intro x p z; cases z) (by intros; exact Expr.noConfusion)
    · cases h
  | .not a, c, X, W, ck, e, C, k, h => by
    simp only [chkE] at h
    split at h
    · simp only [Bool.and_eq_true] at h
      have s := chkE_ok a X W ck _ C k h.2
      exact ⟨e_not s.pe, fun _ => p_not (s.pt h.1), by intros; rename_i z; cases z⟩
    · cases h
  | .and a b, c, X, W, ck, e, C, k, h => by
    simp only [chkE] at h
    split at h
    · rename_i x y r p
      simp only
            [Bool.and_eq_true] at h
      obtain
            ⟨⟨⟨h1, h2⟩, h3⟩, h4⟩ := h
      have sa := chkE_ok a X W ck _ C k h2
      cases r with
      | nil =>
        have sb := chkE_ok b X W ck _ C k h4
        have pw := w_and (sa.pt h1) (pw_and1 (pos := p) (sb.pt h3))
        exact ⟨e_and sa.pe (pe_one sb.pe), fun _ => pw.pt, fun _ _ _ _ => pw⟩
      | cons z r =>
        have sb := chkE_ok b X W ck _ C k h4
        have pw := w_and (sa.pt h1) (sb.pw _ _ _ rfl)
        exact ⟨e_and sa.pe sb.pe, fun _ => pw.pt, fun _ _ _ _ => pw⟩
    · cases h
  | .or a b, c, X, W, ck, e, C, k, h => by
    simp only [chkE] at h
    split at h
    · rename_i x y r p
      simp only
            [Bool.and_eq_true] at h
      obtain
            ⟨⟨⟨h1, h2⟩, h3⟩, h4⟩ := h
      have sa := chkE_ok a X W ck _ C k h2
      cases r with
      | nil =>
        have sb := chkE_ok b X W ck _ C k h4
        have pw := w_or (sa.pt h1) (pw_or1 (pos := p) (sb.pt h3))
        exact ⟨e_or sa.pe (pe_one sb.pe), fun _ => pw.pt, fun _ _ _ _ => pw⟩
      | cons z r =>
        have sb := chkE_ok b X W ck _ C k h4
        have pw := w_or (sa.pt h1) (sb.pw _ _ _ rfl)
        exact ⟨e_or sa.pe sb.pe, fun _ => pw.pt, fun _ _ _ _ => pw⟩
    · cases h
  | .cmp o a b, c, X, W, ck, e, C, k, h => by
    simp only [chkE] at h
    split at h
    · simp only [Bool.and_eq_true, decide_eq_true_eq, Bool.not_eq_true'] at h
      obtain ⟨⟨⟨rfl, h2⟩, h3⟩, h4⟩ := h
      have sa := chkE_ok a X W ck _ C k h3
      have sb := chkE_ok b X W ck _ C k h4
      exact ⟨e_cmp C.hu o sa.pe sb.pe h2, fun _ => p_cmp C.hu o sa.pe sb.pe h2, by intros; rename_i z; cases z⟩
    · cases h
  | .chain o p a b d, c, X, W, ck, e, C, k, h => by
    simp only [chkE] at h
    split at h
    · simp only [Bool.and_eq_true, decide_eq_true_eq, Bool.not_eq_true'] at h
      obtain ⟨⟨⟨⟨⟨rfl, rfl⟩, h2⟩, h3⟩, h4⟩, h5⟩ := h
      have sa := chkE_ok a X W ck _ C k h3
      have sb := chkE_ok b X W ck _ C k h4
      have sd := chkE_ok d X W ck _ C k h5
      exact ⟨e_chain C.hu o p sa.pe sb.pe sd.pe h2, fun _ => p_chain C.hu o p sa.pe sb.pe sd.pe h2, by intros; rename_i z; cases z⟩
    · cases h
  | .ite t a b, c, X, W, ck, e, C, k, h => by
    simp only [chkE] at h
    split at h
    · simp only [Bool.and_eq_true] at h
      obtain
            ⟨⟨⟨h1, h2⟩, h3⟩, h4⟩ := h
      exact ⟨e_ite ((chkE_ok t X W ck _ C k h2).pt h1) (chkE_ok a X W ck _ C k h3).pe (chkE_ok b X W ck _ C k h4).pe, (fun z => by cases z), by intros; rename_i z; cases z⟩
    · cases h
  | .call f iso us, c, X, W, ck, e, C, k, h => by
    simp only [chkE] at h
    split at h
    · rename_i x p es pos
      simp only [Bool.and_eq_true, decide_eq_true_eq, Bool.not_eq_true'] at h
      obtain ⟨⟨⟨⟨h1, h2⟩, h3⟩, h4⟩, h5⟩ := h
      obtain ⟨m, kp, kk, fd, ps, bd, hr, F⟩ := C.fns _ _ _ h2
      have ha := chkEs_ok us X W ck _ C k h4 h5
      have pe : PE X (.Call (.Name x p) es [] pos) (tE X.K at_ W fun env st => evE c (.call f iso us) env st) := by
        cases es with
        | nil =>
          cases us with
          | nil => exact e_call0 F C.hg hr (glB_ok k h1) m kp bd C.tk h3
          | cons u us => simp only [chkEs] at h5; cases h5
        | cons e es =>
          simp only [nsts, List.all_cons, Bool.and_eq_true] at h4
          exact e_call F C.hg hr (glB_ok k h1) m kp bd C.tk ha rfl h3 (star_cons h4.1) (star_plain h4.2)
      exact .plain pe (by intros; exact Expr.noConfusion) (by intros; exact Expr.noConfusion) (by intros; exact Expr.noConfusion)
    · cases h
  | .hear hk u, c, X, W, ck, e, C, k, h => by
    simp only [chkE] at h
    split at h
    · rename_i x p params body scope lpos pos
      simp only
            [Bool.and_eq_true, decide_eq_true_eq] at h
      obtain ⟨⟨⟨⟨⟨h1, h2⟩, h3⟩, h4⟩, h5⟩, h6⟩ := h
      refine .plain ?_ (by intros; exact Expr.noConfusion) (by intros; exact Expr.noConfusion) (by intros; exact Expr.noConfusion)
      by_cases ht : c.top = true
      · obtain ⟨kk, hr, lo⟩ := C.low ht
        obtain ⟨cc, P, a1, a2, a3, a4⟩ := C.cod ht h1
        have L : LamX.LamS X.env.scope scope := by rw [k.sc]; exact LamX.lamS_by h5
        unfold noPar at h4
        split at h4
        · have hbody : ∀ (A : Around) (outer : List PySem.Env) (s : Shared) (H : Hp) (E : XK) (f c' : Addr), A.guards = some [] → Room kk (A.deeper (LamX.lamEnv X scope s.heap.objs.size f c')) → PE (LamX.lamCx X A outer s H E scope f c') body (tE X.K at_ (fun cls d _ H => E cls d H) fun env st => evE c.dn u env st) := by
            intro A outer s H E f c' hgd hr2
            have C' : Ctx g at_ c.dn (LamX.lamCx X A outer s H E scope f c') (fun cls d _ H => E cls d H) := by
              refine ⟨rfl, C.nd, ?_, hgd, takes_of rfl rfl rfl rfl, C.blt, C.exc, C.ex2, C.con, C.exm, fun x f n e => ?_, fun f hf => ?_, (fun z => by cases z), C.hear, (fun z => by cases z), C.pw⟩
              · have := hr2.un
                show (A.deeper _).units + 130 < cLine
                omega
              · obtain ⟨b1, b2, fd, ps, b3, b4⟩ := lo.1 x f n e
                exact ⟨b1, b2, kk, fd, ps, b3, hr2, b4⟩
              · obtain ⟨n, fd, ps, b1, b2, b3, b4⟩ := lo.2 f hf
                exact ⟨n, kk, fd, ps, b1, b2, hr2, b3, b4⟩
            exact (chkE_ok u (LamX.lamCx X A outer s H E scope f c') _ (ckLam ck scope) body C' ⟨k.N, rfl, fun _ z => by cases z⟩ h6).pe
          rcases C.hear _ _ h3 with hd | hd
          · exact e_hear hd (glB_ok k h2) C.hg a2 a1 a3 a4 hr L rfl (fun q cl pm cv ctv => rfl) hbody
          · exact e_hearM hd (glB_ok k h2) C.hg a2 a1 a3 a4 hr L rfl (fun q cl pm cv ctv => rfl) hbody
        · cases h4
      · refine PE_imp (t := fun _ _ _ => False) ⟨fun pins s σ H Q I h => h.elim⟩ fun σ H Q ⟨ρ, env, st, er, sr, ot⟩ => ?_
        simp only [evE, if_neg ht] at ot
        exact ot.elim
    · cases h
  | .callv i iso us, c, X, W, ck, e, C, k, h => by
    simp only [chkE] at h
    split at h
    · rename_i x p es pos
      simp only [Bool.and_eq_true, decide_eq_true_eq, Bool.not_eq_true'] at h
      obtain
            ⟨⟨⟨⟨⟨⟨h1, h2⟩, h3⟩, h4⟩, h5⟩, h6⟩, h7⟩ := h
      have ha := chkEs_ok us X W ck _ C k h6 h7
      cases es with
      | nil => cases h5
      | cons e es =>
        simp only [nsts, List.all_cons, Bool.and_eq_true] at h6
        exact .plain (e_callv (by rw [k.N]; exact h1) (visB_ok k h2) h3 h4 C.hg C.tk C.fnn ha (star_cons h6.1) (star_plain h6.2)) (by intros; exact Expr.noConfusion) (by intros; exact Expr.noConfusion) (by intros; exact Expr.noConfusion)
    · cases h
  | .bi b us, c, X, W, ck, e, C, k, h => by
    simp only [chkE] at h
    split at h
    · rename_i x p es pos
      have pe : PE X (.Call (.Name x p) es [] pos) (tE X.K at_ W fun env st => evE c (.bi b us) env st) := by
        split at h
        · rename_i t
          split at h
          · rename_i a y p2
            simp only
                  [Bool.and_eq_true, decide_eq_true_eq] at h
            obtain
                  ⟨⟨⟨⟨⟨⟨⟨h1, h2⟩, h3⟩, h4⟩, h5⟩, h6⟩, h7⟩, h8⟩ := h
            cases us with
            | nil => simp only [chkEs] at h8; cases h8
            | cons u us =>
              simp only [chkEs, Bool.and_eq_true] at h8
              cases us with
              | cons u' us => simp only [chkEs] at h8; exact absurd h8.2 (by simp)
              | nil =>
                have s := chkE_ok u X W ck _ C k h8.1
                obtain rfl : x = ("isinstance" : Str) := h1
                exact e_isi (glB_ok k h3) (C.blt _ h5) PyProof.Rows.boot_isinstance s.pe (ty_ok C k h2 h4 h6) (by decide) (by decide) (star_cons h7) rfl
          · cases h
        · split at h
          · rename_i y p1 a p2
            simp only
                  [Bool.and_eq_true, decide_eq_true_eq] at h
            obtain
                  ⟨⟨⟨⟨⟨⟨⟨⟨h1, h2⟩, h3⟩, h4⟩, h5⟩, h6⟩, h7⟩, h8⟩, h9⟩ := h
            cases us with
            | nil => cases h8
            | cons u us =>
              cases us with
              | cons u' us => simp at h8
              | nil =>
                simp only [chkEs, Bool.and_eq_true] at h9
                have s := chkE_ok u X W ck _ C k h9.1
                subst h1 h2
                exact e_sortset C.calm C.hu (glB_ok k h3) (C.blt _ h5) (glB_ok k h4) (C.blt _ h6) (star_cons h7) s.pe
          · cases h
        · split at h
          · rename_i y p1 as p2
            simp only [Bool.and_eq_true, Bool.or_eq_true, decide_eq_true_eq] at h
            obtain
                  ⟨⟨⟨⟨⟨⟨⟨⟨h1, h2⟩, h3⟩, h4⟩, h5⟩, h6⟩, h7⟩, h8⟩, h9⟩ := h
            subst h1 h2
            match us, as, h7, h8, h9 with
            | [u], [a], h7, _, h9 =>
              simp only [chkEs, Bool.and_eq_true] at h9
              simp only [nsts, List.all_cons, List.all_nil, Bool.and_true] at h7
              exact e_tupr1 C.calm (glB_ok k h3) (C.blt _ h5) (glB_ok k h4) (C.blt _ h6) (star_cons h7) (chkE_ok u X W ck _ C k h9.1).pe
            | [u, v], [a, b], h7, _, h9 =>
              simp only [chkEs, Bool.and_eq_true] at h9
              have hb2 : nsts [b] = true := by
                simp only [nsts, List.all_cons, List.all_nil, Bool.and_eq_true] at h7 ⊢
                exact h7.2
              simp only [nsts, List.all_cons, List.all_nil, Bool.and_true, Bool.and_eq_true] at h7
              exact e_tupr2 C.calm (glB_ok k h3) (C.blt _ h5) (glB_ok k h4) (C.blt _ h6) (star_cons h7.1) (star_cons h7.2) (star_plain hb2) (chkE_ok u X W ck _ C k h9.1).pe (chkE_ok v X W ck _ C k h9.2.1).pe
            | [], _, _, h8, _ => simp at h8
            | _ :: _ :: _ :: _, _, _, h8, _ => simp at h8
            | [u], [], _, _, h9 => simp [chkEs] at h9
            | [u], _ :: _ :: _, _, _, h9 => simp [chkEs] at h9
            | [u, v], [], _, _, h9 => simp [chkEs] at h9
            | [u, v], [a], _, _, h9 => simp [chkEs] at h9
            | [u, v], _ :: _ :: _ :: _, _, _, h9 => simp [chkEs] at h9
          · cases h
        · split at h
          · rename_i y p1 as p2
            simp only [Bool.and_eq_true, Bool.or_eq_true, decide_eq_true_eq] at h
            obtain
                  ⟨⟨⟨⟨⟨⟨⟨⟨h1, h2⟩, h3⟩, h4⟩, h5⟩, h6⟩, h7⟩, h8⟩, h9⟩ := h
            subst h1 h2
            match us, as, h7, h8, h9 with
            | [u], [a], h7, _, h9 =>
              simp only [chkEs, Bool.and_eq_true] at h9
              simp only [nsts, List.all_cons, List.all_nil, Bool.and_true] at h7
              exact e_lstr1 C.calm (glB_ok k h3) (C.blt _ h5) (glB_ok k h4) (C.blt _ h6) (star_cons h7) (chkE_ok u X W ck _ C k h9.1).pe
            | [u, v], [a, b], h7, _, h9 =>
              simp only [chkEs, Bool.and_eq_true] at h9
              have hb2 : nsts [b] = true := by
                simp only [nsts, List.all_cons, List.all_nil, Bool.and_eq_true] at h7 ⊢
                exact h7.2
              simp only [nsts, List.all_cons, List.all_nil, Bool.and_true, Bool.and_eq_true] at h7
              exact e_lstr2 C.calm (glB_ok k h3) (C.blt _ h5) (glB_ok k h4) (C.blt _ h6) (star_cons h7.1) (star_cons h7.2) (star_plain hb2) (chkE_ok u X W ck _ C k h9.1).pe (chkE_ok v X W ck _ C k h9.2.1).pe
            | [], _, _, h8, _ => simp at h8
            | _ :: _ :: _ :: _, _, _, h8, _ => simp at h8
            | [u], [], _, _, h9 => simp [chkEs] at h9
            | [u], _ :: _ :: _, _, _, h9 => simp [chkEs] at h9
            | [u, v], [], _, _, h9 => simp [chkEs] at h9
            | [u, v], [a], _, _, h9 => simp [chkEs] at h9
            | [u, v], _ :: _ :: _ :: _, _, _, h9 => simp [chkEs] at h9
          · cases h
        · simp only [Bool.and_eq_true, decide_eq_true_eq, Bool.not_eq_true'] at h
          obtain
                ⟨⟨⟨⟨⟨⟨h1, h2⟩, h3⟩, h4⟩, h5⟩, h6⟩, h7⟩ := h
          exact bi_ok C k h1 h2 h3 h4 h5 h6 (chkEs_ok us X W ck _ C k h5 h7)
      exact .plain pe (by intros; exact Expr.noConfusion) (by intros; exact Expr.noConfusion) (by intros; exact Expr.noConfusion)
    · simp only
            [Bool.and_eq_true, decide_eq_true_eq] at h
      obtain ⟨h1, h2⟩ := h
      subst h1
      cases b <;> first | (cases h2; done) | skip
      obtain ⟨h3, h4⟩ := Bool.and_eq_true_iff.mp h2
      have h3 := of_decide_eq_true h3
      match us, h3, h4 with
      | [u], _, h4 =>
        simp only [chkEs, Bool.and_eq_true] at h4
        exact .plain (e_rev (chkE_ok u X W ck _ C k h4.1).pe) (by intros; exact Expr.noConfusion) (by intros; exact Expr.noConfusion) (by intros; exact Expr.noConfusion)
    · simp only
            [Bool.and_eq_true, decide_eq_true_eq] at h
      obtain ⟨h1, h2⟩ := h
      subst h1
      cases b <;> first | (cases h2; done) | skip
      obtain ⟨h3, h4⟩ := Bool.and_eq_true_iff.mp h2
      have h3 := of_decide_eq_true h3
      match us, h3, h4 with
      | [u, v], _, h4 =>
        simp only [chkEs, Bool.and_eq_true] at h4
        exact .plain (e_cat (chkE_ok u X W ck _ C k h4.1).pe (chkE_ok v X W ck _ C k h4.2.1).pe) (by intros; exact Expr.noConfusion) (by intros; exact Expr.noConfusion) (by intros; exact Expr.noConfusion)
    · cases h
  | .mt m o us, c, X, W, ck, e, C, k, h => by
    simp only [chkE] at h
    split at h
    · rename_i oe nm apos es cpos
      simp only
            [Bool.and_eq_true, decide_eq_true_eq] at h
      obtain
            ⟨⟨⟨⟨⟨⟨h1, h2⟩, h3⟩, h4⟩, h5⟩, h6⟩, h7⟩ := h
      have so := chkE_ok o X W ck _ C k h6
      have ha := chkEs_ok us X W ck _ C k h4 h7
      have pe : PE X (.Call (.Attribute oe nm apos) es [] cpos) (tE X.K at_ W fun env st => evE c (.mt m o us) env st) := by
        cases es with
        | nil =>
          cases us with
          | nil => exact e_mt0 C.hu m h1 so.pe (nob_ok h2) h3
          | cons u us => simp only [chkEs] at h7; cases h7
        | cons e es =>
          have h4' := h4
          simp only [nsts, List.all_cons, Bool.and_eq_true] at h4
          exact e_mt C.hu m h1 so.pe ha (nob_ok h2) (star_few h4' h5) h3 (star_cons h4.1) (star_plain h4.2)
      exact .plain pe (by intros; exact Expr.noConfusion) (by intros; exact Expr.noConfusion) (by intros; exact Expr.noConfusion)
    · cases h
  | .idx a i, c, X, W, ck, e, C, k, h => by
    simp only [chkE] at h
    split at h
    · simp only [Bool.and_eq_true] at h
      obtain ⟨⟨h1, h2⟩, h3⟩ := h
      exact .plain (e_idx C.hu (chkE_ok a X W ck _ C k h2).pe (chkE_ok i X W ck _ C k h3).pe (nsl_ok h1)) (by intros; exact Expr.noConfusion) (by intros; exact Expr.noConfusion) (by intros; exact Expr.noConfusion)
    · cases h
  | .sli a lo hi, c, X, W, ck, e, C, k, h => by
    simp only [chkE] at h
    split at h
    · simp only [Bool.and_eq_true] at h
      obtain ⟨⟨h1, h2⟩, h3⟩ := h
      exact .plain (e_sli (chkE_ok a X W ck _ C k h1).pe (chkO_ok lo X W ck _ C k h2) (chkO_ok hi X W ck _ C k h3)) (by intros; exact Expr.noConfusion) (by intros; exact Expr.noConfusion) (by intros; exact Expr.noConfusion)
    · cases h
  | .comp fz u tg ik its ifs own, c, X, W, ck, e, C, k, h => by
    simp only [chkE] at h
    split at h
    · rename_i elt t iter fs scope pos
      simp only
            [Bool.and_eq_true, decide_eq_true_eq] at h
      obtain ⟨⟨⟨⟨⟨⟨⟨⟨⟨h1, h2⟩, h3⟩, h4⟩, h5⟩, h6⟩, h7⟩, h8⟩, h9⟩, h10⟩ := h
      cases hi : itArgs g ck ik iter with
      | none => rw [hi] at h6; cases h6
      | some as =>
        rw [hi] at h6
        have hown : ∀ i ∈ nmG tg, i ∈ (ownL ck own).map (·.2) := fun i hi => by
          rw [ownL_snd]
          exact List.contains_iff_mem.mp (List.all_eq_true.mp h3 i hi)
        have pi : PI X t iter (iW X.K at_ W tg ik fun env st => evEs c its env st) := it_ok C k hi h4 (.inr ⟨_, h2⟩) (fun hs => chkEs_ok its X W ck _ C k hs h6) (fun e he => by
          subst he
          match its, h6 with
          | [], h6 => simp only [chkEs] at h6; cases h6
          | [u0], h6 => simp only [chkEs, Bool.and_eq_true] at h6; exact ⟨u0, rfl, (chkE_ok u0 X W ck _ C k h6.1).pe⟩
          | _ :: _ :: _, h6 => simp only [chkEs, Bool.and_eq_true] at h6; exact absurd h6.2 (by simp))
        have ok : BlkOk X.N X.env.scope scope (ownL ck own) := by rw [k.N, k.sc]; exact blkOk_by h1
        have pe := e_comp (W := W) (c := c) (at_ := at_) (fz := fz) (pos := pos) C.calm C.nd pi ok (fun s H A cl fp => chkG_ok (X := X.blk s H scope (compEnvC scope cl A X.env) fp) C.calm C.nd (k.blk s H scope A cl fp) tg t h2) (fun s H A cl fp => chkTs_ok ifs _ noX (ckIn ck scope) fs (C.blk s H scope _ fp) (k.blk s H scope A cl fp) h8 h9 h10)
          (fun s H A cl fp => (chkE_ok u _ noX (ckIn ck scope) elt (C.blk s H scope _ fp) (k.blk s H scope A cl fp) h7).pe) (fun x => noset_ok h5 x) hown
        rw [ownL_snd] at pe
        exact .plain pe (by intros; exact Expr.noConfusion) (by intros; exact Expr.noConfusion) (by intros; exact Expr.noConfusion)
    · cases h
  | .dcomp fz kx u tg ik its ifs own, c, X, W, ck, e, C, k, h => by
    simp only [chkE] at h
    split at h
    · rename_i ke elt t iter fs scope pos
      simp only
            [Bool.and_eq_true, decide_eq_true_eq] at h
      obtain ⟨⟨⟨⟨⟨⟨⟨⟨⟨⟨h1, h2⟩, h3⟩, h4⟩, h5⟩, h6⟩, h0⟩, h7⟩, h8⟩, h9⟩, h10⟩ := h
      cases hi : itArgs g ck ik iter with
      | none => rw [hi] at h6; cases h6
      | some as =>
        rw [hi] at h6
        have hown : ∀ i ∈ nmG tg, i ∈ (ownL ck own).map (·.2) := fun i hi => by
          rw [ownL_snd]
          exact List.contains_iff_mem.mp (List.all_eq_true.mp h3 i hi)
        have pi : PI X t iter (iW X.K at_ W tg ik fun env st => evEs c its env st) := it_ok C k hi h4 (.inr ⟨_, h2⟩) (fun hs => chkEs_ok its X W ck _ C k hs h6) (fun e he => by
          subst he
          match its, h6 with
          | [], h6 => simp only [chkEs] at h6; cases h6
          | [u0], h6 => simp only [chkEs, Bool.and_eq_true] at h6; exact ⟨u0, rfl, (chkE_ok u0 X W ck _ C k h6.1).pe⟩
          | _ :: _ :: _, h6 => simp only [chkEs, Bool.and_eq_true] at h6; exact absurd h6.2 (by simp))
        have ok : BlkOk X.N X.env.scope scope (ownL ck own) := by rw [k.N, k.sc]; exact blkOk_by h1
        have pe := e_dcomp (W := W) (c := c) (at_ := at_) (fz := fz) (pos := pos) C.calm C.nd pi ok (fun s H A cl fp => chkG_ok (X := X.blk s H scope (compEnvC scope cl A X.env) fp) C.calm C.nd (k.blk s H scope A cl fp) tg t h2) (fun s H A cl fp => chkTs_ok ifs _ noX (ckIn ck scope) fs (C.blk s H scope _ fp) (k.blk s H scope A cl fp) h8 h9 h10)
          (fun s H A cl fp => (chkE_ok kx _ noX (ckIn ck scope) ke (C.blk s H scope _ fp) (k.blk s H scope A cl fp) h0).pe)
          (fun s H A cl fp => (chkE_ok u _ noX (ckIn ck scope) elt (C.blk s H scope _ fp) (k.blk s H scope A cl fp) h7).pe) (fun x => noset_ok h5 x) hown
        rw [ownL_snd] at pe
        exact .plain pe (by intros; exact Expr.noConfusion) (by intros; exact Expr.noConfusion) (by intros; exact Expr.noConfusion)
    · cases h
  | .lup o kx u tg ik its ifs own, c, X, W, ck, e, C, k, h => by
    simp only [chkE] at h
    split at h
    · rename_i oe nm apos ke elt t iter fs scope pos cpos
      simp only
            [Bool.and_eq_true, decide_eq_true_eq] at h
      obtain ⟨⟨⟨⟨g1, g2⟩, g3⟩, g4⟩, ⟨⟨⟨⟨⟨⟨⟨⟨⟨h1, h2⟩, h3⟩, h4⟩, h5⟩, h6⟩, h0⟩, h7⟩, h8⟩, h9⟩, h10⟩ := h
      subst g1
      cases hi : itArgs g ck ik iter with
      | none => rw [hi] at h6; cases h6
      | some as =>
        rw [hi] at h6
        have hown : ∀ i ∈ nmG tg, i ∈ (ownL ck own).map (·.2) := fun i hi => by
          rw [ownL_snd]
          exact List.contains_iff_mem.mp (List.all_eq_true.mp h3 i hi)
        have pi : PI X t iter (iW X.K at_ W tg ik fun env st => evEs c its env st) := it_ok C k hi h4 (.inr ⟨_, h2⟩) (fun hs => chkEs_ok its X W ck _ C k hs h6) (fun e he => by
          subst he
          match its, h6 with
          | [], h6 => simp only [chkEs] at h6; cases h6
          | [u0], h6 => simp only [chkEs, Bool.and_eq_true] at h6; exact ⟨u0, rfl, (chkE_ok u0 X W ck _ C k h6.1).pe⟩
          | _ :: _ :: _, h6 => simp only [chkEs, Bool.and_eq_true] at h6; exact absurd h6.2 (by simp))
        have ok : BlkOk X.N X.env.scope scope (ownL ck own) := by rw [k.N, k.sc]; exact blkOk_by h1
        have pe := e_lup (W := W) (c := c) (at_ := at_) (apos := apos) (cpos := cpos) (pos := pos) C.pw.1 C.pw.2 C.calm C.nd (chkE_ok o X W ck _ C k g4).pe pi ok (fun s H A cl fp => chkG_ok (X := X.blk s H scope (compEnvC scope cl A X.env) fp) C.calm C.nd (k.blk s H scope A cl fp) tg t h2) (fun s H A cl fp => chkTs_ok ifs _ noX (ckIn ck scope) fs (C.blk s H scope _ fp) (k.blk s H scope A cl fp) h8 h9 h10)
          (fun s H A cl fp => (chkE_ok kx _ noX (ckIn ck scope) ke (C.blk s H scope _ fp) (k.blk s H scope A cl fp) h0).pe)
          (fun s H A cl fp => (chkE_ok u _ noX (ckIn ck scope) elt (C.blk s H scope _ fp) (k.blk s H scope A cl fp) h7).pe) (fun x => noset_ok h5 x) hown (nob_ok g2) g3
        rw [ownL_snd] at pe
        exact .plain pe (by intros; exact Expr.noConfusion) (by intros; exact Expr.noConfusion) (by intros; exact Expr.noConfusion)
    · cases h
  | .ldd us, c, X, W, ck, e, C, k, h => by
    simp only [chkE] at h
    split at h
    · rename_i ks vs _
      simp only
            [Bool.and_eq_true, decide_eq_true_eq] at h
      obtain ⟨h1, h2⟩ := h
      obtain ⟨q1, q2, q3⟩ := chkPs_len us ck ks vs h2
      cases ks with
      | nil =>
        cases vs with
        | nil =>
          cases us with
          | nil => exact .plain (e_ldd0 C.pw.1 C.pw.2) (by intros; exact Expr.noConfusion) (by intros; exact Expr.noConfusion) (by intros; exact Expr.noConfusion)
          | cons => cases q3
        | cons => cases q2
      | cons k0 ks => exact .plain (e_ldd C.pw.1 C.pw.2 (chkPs_ok us X W ck _ _ C k h2) q1 q2 (by simp) h1 q3) (by intros; exact Expr.noConfusion) (by intros; exact Expr.noConfusion) (by intros; exact Expr.noConfusion)
    · cases h
  | .lpu o us, c, X, W, ck, e, C, k, h => by
    simp only [chkE] at h
    split at h
    · rename_i oe nm apos ks vs pos cpos
      simp only [Bool.and_eq_true, decide_eq_true_eq, Bool.not_eq_true'] at h
      obtain ⟨⟨⟨⟨⟨⟨g1, g2⟩, g3⟩, h0⟩, h1⟩, h3⟩, h2⟩ := h
      subst g1
      obtain ⟨q1, q2, q3⟩ := chkPs_len us ck ks vs h2
      exact .plain (e_lpu C.pw.1 C.pw.2 (chkE_ok o X W ck _ C k h3).pe (chkPs_ok us X W ck _ _ C k h2) q1 q2 (fun z => by rw [z] at h0; cases h0) h1 q3 (nob_ok g2) g3) (by intros; exact Expr.noConfusion) (by intros; exact Expr.noConfusion) (by intros; exact Expr.noConfusion)
    · cases h
  | .lsrt fz o u, c, X, W, ck, e, C, k, h => by
    simp only [chkE] at h
    split at h
    · rename_i x p oe kw params body scope lpos kpos pos
      simp only
            [Bool.and_eq_true, decide_eq_true_eq] at h
      obtain
            ⟨⟨⟨⟨⟨⟨⟨h1, h2⟩, h3⟩, h4⟩, h5⟩, h6⟩, h7⟩, h8⟩ := h
      subst h2 h5
      refine .plain ?_ (by intros; exact Expr.noConfusion) (by intros; exact Expr.noConfusion) (by intros; exact Expr.noConfusion)
      split at h8
      · rename_i a _
        simp only [Bool.and_eq_true] at h8
        obtain ⟨⟨p1, p2⟩, p3⟩ := h8
        by_cases ht : c.top = true
        · obtain ⟨kk, hr, lo⟩ := C.low ht
          obtain ⟨cc, P, a1, a2, a3, a4⟩ := C.cod ht h1
          refine e_lsrt C.pw.1 C.pw.2 C.calm C.hu C.hg (glB_ok k h3) (C.blt _ h4) a2 a1 a3 a4 hr (scopeB_ok p2) p1 (chkE_ok o X W ck _ C k h7).pe (star_cons h6) fun f c' A s H hgd hr2 => ?_
          have C' : Ctx g at_ c.dn (lamC X a.arg scope A s H f c') noX := by
            refine ⟨rfl, (show ([a.arg] : List Str).Nodup from List.nodup_cons.mpr ⟨by simp, List.nodup_nil⟩), ?_, hgd, takes_none5, C.blt, C.exc, C.ex2, C.con, C.exm, fun x f n e => ?_, fun f hf => ?_, (fun z => by cases z), C.hear, (fun z => by cases z), C.pw⟩
            · have := hr2.un
              show (A.deeper _).units + 130 < cLine
              omega
            · obtain ⟨b1, b2, fd, ps, b3, b4⟩ := lo.1 x f n e
              exact ⟨b1, b2, kk, fd, ps, b3, hr2, b4⟩
            · obtain ⟨n, fd, ps, b1, b2, b3, b4⟩ := lo.2 f hf
              exact ⟨n, kk, fd, ps, b1, b2, hr2, b3, b4⟩
          exact (chkE_ok u (lamC X a.arg scope A s H f c') noX (ckKey a.arg scope) body C' ⟨rfl, rfl, fun _ _ => rfl⟩ p3).pe
        · exact e_lsrt_no ht (glB_ok k h3) (C.blt _ h4) (chkE_ok o X W ck _ C k h7).pe (star_cons h6)
      · cases h8
    · cases h
theorem chkEs_ok : ∀ (us : List E) {c : Cf} (X : Cx) (W : WX) (ck : Ck) (es : List Expr), Ctx g at_ c X W → CkOk ck X → nsts es = true → chkEs g us ck es = true → PA X es (tEs X.K at_ W fun env st => evEs c us env st)
  | [], c, X, W, ck, es, C, k, hs, h => by
    simp only [chkEs] at h
    rw [isEmpty_nil h]
    exact a_nil
  | u :: us, c, X, W, ck, es, C, k, hs, h => by
    simp only [chkEs] at h
    cases es with
    | nil => cases h
    | cons e es =>
      simp only
            [Bool.and_eq_true] at h
      simp only [nsts, List.all_cons, Bool.and_eq_true] at hs
      exact a_cons (chkE_ok u X W ck e C k h.1).pe (chkEs_ok us X W ck es C k hs.2 h.2) (star_cons hs.1)
theorem chkTs_ok : ∀ (us : List E) {c : Cf} (X : Cx) (W : WX) (ck : Ck) (es : List Expr), Ctx g at_ c X W → CkOk ck X → es.length ≤ 1 → es.all tsB = true → chkEs g us ck es = true → PTs X es (tTs X.K at_ W fun env st => evTs c us env st)
  | [], c, X, W, ck, es, C, k, hl, ht, h => by
    simp only [chkEs] at h
    rw [isEmpty_nil h]
    exact t_nil
  | u :: us, c, X, W, ck, es, C, k, hl, ht, h => by
    simp only [chkEs] at h
    cases es with
    | nil => cases h
    | cons e es =>
      cases es with
      | cons => simp at hl
      | nil =>
        simp only
              [Bool.and_eq_true] at h
        cases us with
        | cons => simp only [chkEs] at h; exact absurd h.2 (by simp)
        | nil =>
          simp only [List.all_cons, Bool.and_eq_true] at ht
          exact t_one ((chkE_ok u X W ck e C k h.1).pt ht.1)
theorem chkPs_ok : ∀ (us : List (E × E)) {c : Cf} (X : Cx) (W : WX) (ck : Ck) (ks : List (Option Expr)) (vs : List Expr), Ctx g at_ c X W → CkOk ck X → chkPs g us ck ks vs = true → ∀ {pos : Pos}, PD X pos ks vs (tP X.K at_ W fun env st => evPs c us env st)
  | [], c, X, W, ck, ks, vs, C, k, h, pos => by
    simp only [chkPs, Bool.and_eq_true] at h
    rw [isEmpty_nil h.1, isEmpty_nil h.2]
    exact d_nil
  | (u, w) :: us, c, X, W, ck, ks, vs, C, k, h, pos => by
    simp only [chkPs] at h
    split at h
    · simp only [Bool.and_eq_true] at h
      exact d_cons (chkE_ok u X W ck _ C k h.1.1).pe (chkE_ok w X W ck _ C k h.1.2).pe (chkPs_ok us X W ck _ _ C k h.2)
    · cases h
theorem chkPs_len : ∀ (us : List (E × E)) (ck : Ck) (ks : List (Option Expr)) (vs : List Expr), chkPs g us ck ks vs = true → ks.all (·.isSome) = true ∧ ks.length = vs.length ∧ us.length = ks.length
  | [], ck, ks, vs, h => by
    simp only [chkPs, Bool.and_eq_true] at h
    rw [isEmpty_nil h.1, isEmpty_nil h.2]
    exact ⟨rfl, rfl, rfl⟩
  | (u, w) :: us, ck, ks, vs, h => by
    simp only [chkPs] at h
    split at h
    · simp only [Bool.and_eq_true] at h
      obtain ⟨h1, h2, h3⟩ := chkPs_len us ck _ _ h.2
      exact ⟨by simp [h1], by simp [h2], by simp [h3]⟩
    · cases h
theorem chkO_ok : ∀ (u : Option E) {c : Cf} (X : Cx) (W : WX) (ck : Ck) (e : Option Expr), Ctx g at_ c X W → CkOk ck X → chkO g u ck e = true → PO X e (tO X.K at_ W fun env st => evO c u env st)
  | none, c, X, W, ck, e, C, k, h => by
    simp only [chkO] at h
    cases e with
    | none => exact o_none
    | some => cases h
  | some u, c, X, W, ck, e, C, k, h => by
    simp only [chkO] at h
    cases e with
    | none => cases h
    | some e => exact o_some (chkE_ok u X W ck e C k h).pe
end
end
end Lw
set_option Elab.async false
set_option linter.all false
set_option maxRecDepth 100000
/-! Lw20: the check of statements. -/
namespace Lw
open PySem PySem.Spec L2 PyProof.Rows

/-- no comprehension -/
def ncomp : Expr → Bool
  | .ListComp _ _ _ _ => false
  | .SetComp _ _ _ _ => false
  | .DictComp _ _ _ _ _ => false
  | _ => true
def ntup : Expr → Bool
  | .Tuple _ _ _ => false
  | _ => true
/-- a pair of names that are not all plain locals: the tuple is made, then taken apart -/
def swn (ck : Ck) (tg e : Expr) : Bool := ntup e || (match tg with
  | .Tuple ts _ _ => ts.any fun t => match t with
    | .Name x _ => !(ck.sc.names.lookup x == some .local)
    | _ => false
  | _ => false)
def isTup : Expr → Bool
  | .Tuple _ _ _ => true
  | _ => false
def lcl (ck : Ck) (x : Str) : Bool := match ck.sc.names.lookup x with
  | some .local => true
  | _ => false
/-- a comprehension's list goes straight to the name -/
def straight (ck : Ck) (y : Str) (py : Pos) (scope : Scope) (pos : Pos) : Bool := lcl ck y && (py.line == pos.line) && !(scope.names.any fun (n, k) => n == y && (k == .local || k == .cell))
/-- how name = e is stored: 0 plainly, 1 straight from a list comprehension -/
def setB (ck : Ck) (y : Str) (py : Pos) (e : Expr) : Option Bool := match e with
  | .ListComp _ gs scope pos => match gs with
    | [⟨_, _, _, 0⟩] => some (straight ck y py scope pos)
    | _ => none
  | .SetComp _ _ _ _ => none
  | .DictComp _ _ gs scope pos => match gs with
    | [⟨_, _, _, 0⟩] => some (straight ck y py scope pos)
    | _ => none
  | _ => some false
def parB (ck : Ck) (x y : Str) (px py : Pos) (a b : Expr) : Bool := lcl ck x && lcl ck y && (px.line == py.line) && !(x == y) && nst a && nst b && !(foldedForSure 8 a && foldedForSure 8 b) && !(constantsAlone 8 a && constantsAlone 8 b)
/-- no globals -/
def g0 : Gt := ⟨fun _ => none, fun _ => false, fun _ => none, fun _ => none, fun _ _ => none, fun _ => none, fun _ => none, fun _ => false, false⟩
/-- what an except suite may say -/
def simE : E → Bool
  | .lit t => (match t with | .fn _ => false | _ => true)
  | .var _ => true
  | .tup us => us.all fun u => match u with | .lit t => (match t with | .fn _ => false | _ => true) | .var _ => true | _ => false
  | _ => false
def plS (h : List S) (ck : Ck) (z : Stmt) : Bool := match h with
  | [.ret (some u)] => (match z with
    | .Return (some e) _ => simE u && chkE g0 u ck e
    | _ => false)
  | [.cont] => (match z with
    | .Continue _ => true
    | _ => false)
  | [.pass] => (match z with
    | .Pass _ => true
    | _ => false)
  | _ => false
mutual
def chkS (g : Gt) : S → Ck → Stmt → Bool
  | .pass, _, s => match s with
    | .Pass _ => true
    | .Expr (.Constant (.str _) _ _) _ => true
    | _ => false
  | .expr u, ck, s => match s with
    | .Expr e _ => ncomp e && chkE g u ck e
    | _ => false
  | .set i u, ck, s => match s with
    | .Assign [.Name x py] e _ => decide (ck.N[i]? = some x) && locB ck x && (setB ck x py e).isSome && chkE g u ck e
    | _ => false
  | .asg t u, ck, s => match s with
    | .Assign [tg] e _ => isTup tg && swn ck tg e && chkG t ck tg && chkE g u ck e
    | _ => false
  | .par is us, ck, s => match s with
    | .Assign [.Tuple [.Name x px, .Name y py] _ _] (.Tuple [a, b] _ _) _ => match is with
      | [i, j] => decide (ck.N[i]? = some x) && decide (ck.N[j]? = some y) && parB ck x y px py a b && chkEs g us ck [a, b]
      | _ => false
    | _ => false
  | .aug i o u, ck, s => match s with
    | .AugAssign (.Name x _) op e _ => decide (ck.N[i]? = some x) && locB ck x && decide (op = bopOf o) && chkE g u ck e
    | _ => false
  | .seti o i v, ck, s => match s with
    | .Assign [.Subscript oe ie _] e _ => nsl ie && chkE g o ck oe && chkE g i ck ie && chkE g v ck e
    | _ => false
  | .augi o i op v, ck, s => match s with
    | .AugAssign (.Subscript oe ie _) p e _ => nsl ie && decide (p = bopOf op) && chkE g o ck oe && chkE g i ck ie && chkE g v ck e
    | _ => false
  | .ret u, ck, s => match s with
    | .Return e _ => match u, e with
      | none, none => true
      | some u, some e => chkE g u ck e
      | _, _ => false
    | _ => false
  | .ite t a b, ck, s => match s with
    | .If e x y _ => tsB e && chkE g t ck e && chkSs g a ck x && chkSs g b ck y
    | _ => false
  | .whl t b, ck, s => match s with
    | .While e x [] _ => tsB e && chkE g t ck e && chkSs g b ck x
    | _ => false
  | .fr t k its b, ck, s => match s with
    | .For tg it x [] _ => chkG t ck tg && itTg k t && noset it && (match itArgs g ck k it with
        | some as => chkEs g its ck as
        | none => false) && chkSs g b ck x
    | _ => false
  | .brk, _, s => match s with
    | .Break _ => true
    | _ => false
  | .cont, _, s => match s with
    | .Continue _ => true
    | _ => false
  | .raise n us, ck, s => match s with
    | .Raise (some (.Call (.Name x _) [] [] _)) none _ => us.isEmpty && glB ck x && decide (g.exc x = some n) && !(x == ("__debug__" : Str))
    | .Raise (some (.Call (.Name x _) [a, b] [] _)) none _ => glB ck x && (match g.ex2 x with | some p => decide (p.1 = n) | none => false) && !(x == ("__debug__" : Str)) && nst a && nst b && decide (us.length = 2) && chkEs g us ck [a, b]
    | _ => false
  | .try1 b cs ns h, ck, s => match s with
    | .Try y [.ExceptHandler (some (.Name x _)) none (z :: zs) _] [] [] _ => glB ck x && !(x == ("__debug__" : Str)) && !cs.isEmpty && cs.all (fun i => decide (g.exm x i = some true)) && ns.all (fun i => decide (g.exm x i = some false)) && zs.isEmpty && plS h ck z && chkSs g b ck y
    | _ => false
def chkSs (g : Gt) : List S → Ck → List Stmt → Bool
  | [], _, ss => ss.isEmpty
  | s :: ss, ck, as => match as with
    | a :: as => chkS g s ck a && chkSs g ss ck as
    | [] => false
end

section
variable {g : Gt} {at_ : At} {c : Cf} {X : Cx} {W : WX} {ck : Ck}
theorem ncomp_sw {e : Expr} {t : Option Expr} {l : Nat} {env : PySem.Env} (h : ncomp e = true) : swapsWith e t l env = pure false := by
  cases e <;> first | rfl | cases h
theorem lcl_ok {ck : Ck} {X : Cx} {x : Str} (k : CkOk ck X) (h : lcl ck x = true) : X.env.scope.names.lookup x = some .local := by
  rw [k.sc]
  unfold lcl at h
  split at h
  · assumption
  · cases h
theorem lcl_no {ck : Ck} {X : Cx} {x : Str} (k : CkOk ck X) (h : lcl ck x = false) : (X.env.kindOf x == some .local) = false := by
  show (X.env.scope.names.lookup x == some .local) = false
  rw [k.sc]
  unfold lcl at h
  split at h
  · cases h
  · rename_i hn
    cases e : ck.sc.names.lookup x with
    | none => rfl
    | some kk => cases kk <;> first | rfl | exact absurd e hn
theorem sw_comp {ck : Ck} {X : Cx} {y : Str} {py : Pos} {e : Expr} {scope : Scope} {pos : Pos} {l : Nat} (k : CkOk ck X) (hk : ck.sc.kind = .function) (he : (∃ elt gs, e = .ListComp elt gs scope pos) ∨ ∃ a b gs, e = .DictComp a b gs scope pos) : swapsWith e (some (.Name y py)) l X.env = pure (straight ck y py scope pos) := by
  have hb : X.env.blockKind = .function := by unfold Env.blockKind; rw [k.sc, hk]; rfl
  have main : (X.env.blockKind == .function && X.env.kindOf y == some .local && py.line == pos.line && !(scope.names.any fun (n, k) => n == y && (k == .local || k == .cell))) = straight ck y py scope pos := by
    unfold straight
    cases h : lcl ck y with
    | true =>
      have e : X.env.kindOf y = some .local := lcl_ok k h
      rw [hb, e]
      rfl
    | false =>
      rw [hb, lcl_no k h]
      rfl
  rw [← main]
  rcases he with ⟨elt, gs, rfl⟩ | ⟨a, b, gs, rfl⟩ <;> rfl
structure CtxS (g : Gt) (at_ : At) (c : Cf) (X : Cx) (W : WX) : Prop extends Ctx g at_ c X W where
  own : PassesOwn (model X.prog X.w) X.A X.env X.xe
  stk : X.stack = X.env :: X.outer
  frm : X.env.frame = some X.env.locals
theorem CtxS.tr (C : CtxS g at_ c X W) {pn : List (Addr × Obj)} {xe : Value → Shared → Prop} {W' : WX} (tk : Takes (X.tr pn xe) W') (po : PassesOwn (model X.prog X.w) X.A X.env xe) : CtxS g at_ c (X.tr pn xe) W' :=
  ⟨⟨C.calm, C.nd, C.hu, C.hg, tk, C.blt, C.exc, C.ex2, C.con, C.exm, C.fns, C.fnn, C.low, C.hear, C.cod, C.pw⟩, po, C.stk, C.frm⟩
/-- an own class without __init__, called without arguments -/
theorem pmk0 {C : Addr} {bmB : List Value} {B newId initId : String} {x : Str} {p pos : Pos} (F : ExcBaseFacts B newId initId bmB) (q : PySem.W.excIn X.K C bmB newId = true) (gC : X.mg x = some (.ref C)) (kC : PySem.W.keepIn X.K (.ref C) = true) (r : Raises X (.ref C)) (hg : Gl X x)
    (hdb : (x == ("__debug__" : Str)) = false) : PMk X (.Call (.Name x p) [] [] pos) (fun _ H Q => Q (.ref C) none H) := by
  intro pins s σ H Q I h
  refine wpAny_Call_Name_kw
        (ld_glob I hg gC ?_ hdb)
  refine PySem.W.callWith_K0 I.kIn kC ?_
  show wpAny _ _ (call (.ref C) []) _ _ _
  obtain ⟨bm, N, nm, qn, bs, hdct, sn, sub, ab, col, dd, k0, k1, k2, k3, k5, mN, hC, hN, hni, T⟩ := exc_obj I.kIn q
  exact wpAny_call_exc_subT F T hC hN hni (fun h' e hm => mk_of I hm r h (I.hok.gone hm.new)) (Nat.zero_le _)
theorem s_raise (C : CtxS g at_ c X W) (k : CkOk ck X) {x : Str} {n : Nat} {p p2 pos : Pos} (h1 : glB ck x = true) (h2 : g.exc x = some n) (h3 : (x == ("__debug__" : Str)) = false) : PS X (.Raise (some (.Call (.Name x p) [] [] p2)) none pos) (tS X.K at_ W fun env st => evS c (.raise n []) env st) := by
  obtain ⟨m, kp, r, B, nI, iI, bm, F, q⟩ := C.exc _ _ h2
  refine PS_imp (ps_raise C.calm C.tk (pmk0 F q m kp r (glB_ok k h1) h3)) fun D σ H ⟨ρ, env, st, er, sr, o⟩ => ?_
  have e1 : evS c (.raise n []) env st = .exc ⟨n, []⟩ env st := by simp [evS, evEs]
  have o : OutS X.K at_ ρ H (evS c (.raise n []) env st) D W := o
  rw [e1] at o
  exact o ρ H σ _ _ Mv.refl sr er ⟨rfl, .inl rfl⟩
theorem s_raise2 (C : CtxS g at_ c X W) (k : CkOk ck X) {x : Str} {n : Nat} {f h : Str} {e1 e2 : Expr} {us : List E} {p p2 pos : Pos} (h1 : glB ck x = true) (h2 : g.ex2 x = some (n, f, h)) (h3 : (x == ("__debug__" : Str)) = false) (n1 : nst e1 = true) (n2 : nst e2 = true) (hl : us.length = 2)
    (ha : PA X [e1, e2] (tEs X.K at_ W fun env st => evEs c us env st)) : PS X (.Raise (some (.Call (.Name x p) [e1, e2] [] p2)) none pos) (tS X.K at_ W fun env st => evS c (.raise n us) env st) := by
  obtain ⟨m, F, xf⟩ := C.ex2 _ _ _ _ h2
  have hne : us.isEmpty = false := by
    cases us with
    | nil => cases hl
    | cons _ _ => rfl
  by_cases ht : c.top = true
  · obtain ⟨kk, hr, _⟩ := C.low ht
    refine PS_imp (ps_raise C.calm C.tk (pmk_sup (k := kk + 1) F hr (glB_ok k h1) m ha h3 (star_cons n1) (by rw [star_cons n2]; rfl))) fun D σ H ⟨ρ, env, st, er, sr, o⟩ => ?_
    have ev : evS c (.raise n us) env st = SRes.of (evEs c us env st) env fun ts st => .exc ⟨n, ts⟩ env st := by simp [evS, hne, ht]
    have o : OutS X.K at_ ρ H (evS c (.raise n us) env st) D W := o
    rw [ev] at o
    have o := OutS.of er sr.sep o
    refine ⟨ρ, env, st, er, sr, ?_⟩
    show Out X.K at_ ρ H (evEs c us env st) _ _
    revert o
    cases hq : evEs c us env st with
    | no => exact fun o => o.elim
    | exc y s1 => exact fun o => o
    | ok ts s1 =>
      intro o ρ1 H1 m1 q1 vs rv
      have oo := o ρ1 H1 m1 q1
      have l2 : ts.length = 2 := (evEs_len hq).trans hl
      match ts, l2, rv, oo with
      | [t1, t2], _, ⟨y, _, e1, r1, z, _, e2, r2, e3⟩, oo =>
        subst e3 e2 e1
        refine ⟨y, z, rfl, fun d fs hd l1 l2 => ?_⟩
        have m2 := Mv.new q1 hd (.xd fs)
        refine oo ρ1 _ σ _ _ m2 (q1.new hd _) ((er.mv sr.sep m1).mv q1.sep m2) ⟨rfl, .inr ⟨d, fs, [y, z], rfl, upd_same .., RepL.mv q1.sep m2 _ _ ⟨_, _, rfl, r1, _, _, rfl, r2, rfl⟩, fun i nn e => ?_⟩⟩
        rw [xf] at e
        match i, e with
        | 0, e => cases e; exact ⟨y, rfl, l1⟩
        | 1, e => cases e; exact ⟨z, rfl, l2⟩
  · refine PS_imp (t := fun _ _ _ => False) ⟨fun pins s σ H D I h => h.elim⟩ fun D σ H ⟨ρ, env, st, er, sr, o⟩ => ?_
    have ev : evS c (.raise n us) env st = .no := by simp [evS, hne, ht]
    have o : OutS X.K at_ ρ H (evS c (.raise n us) env st) D W := o
    rw [ev] at o
    exact o.elim
/-- an except suite: it stands in another context, so nothing is asked of it -/
theorem sim_ok {Y : Cx} {V : WX} (hK : Y.K = X.K) (hN : Y.N = X.N) (hE : Y.env = X.env) : ∀ (u : E) (e : Expr), (match u with | .lit t => (match t with | .fn _ => false | _ => true) | .var _ => true | _ => false) = true → CkOk ck X → chkE g0 u ck e = true → PE Y e (tE Y.K at_ V fun env st => evE c u env st) := by
  intro u e hs k h
  cases u with
  | lit t =>
    simp only [chkE] at h
    unfold litB at h
    split at h
    · split at h
      · have e := of_decide_eq_true h; subst e; exact e_lit pe_int fun _ _ => by exact rfl
      · cases h
    · split at h
      · have e := of_decide_eq_true h; subst e; exact e_lit pe_str fun _ _ => by exact rfl
      · cases h
    · split at h
      · have e := eq_of_beq h; subst e; exact e_lit pe_bl fun _ _ => by exact rfl
      · cases h
    · split at h
      · exact e_lit pe_non fun _ _ => by exact rfl
      · cases h
    · split at h
      · cases hs
      · simp only [g0, Bool.and_eq_true, decide_eq_true_eq] at h
        exact absurd h.1.2 (by intro z; cases z)
    · cases h
  | var i =>
    simp only [chkE] at h
    split at h
    · simp only [Bool.and_eq_true, decide_eq_true_eq, Bool.not_eq_true'] at h
      obtain
            ⟨⟨⟨h1, h2⟩, h3⟩, h4⟩ := h
      exact e_var (by rw [hN, k.N]; exact h1) (by rw [hE]; exact visB_ok k h2) h3 h4
    · cases h
  | _ => cases hs
theorem its_ok (C : Ctx g at_ c X W) (k : CkOk ck X) {ik : Ik} {tg it : Expr} {tt : G} {its : List E} {as : List Expr} (hi : itArgs g ck ik it = some as) (h4 : itTg ik tt = true) (hg : ∃ ck', chkG tt ck' tg = true) (h6 : chkEs g its ck as = true) :
    PI X tg it (iW X.K at_ W tt ik fun env st => evEs c its env st) :=
  it_ok C k hi h4 (.inr hg) (fun hs => chkEs_ok its X W ck _ C k hs h6) (fun e he => by
    subst he
    match its, h6 with
    | [], h6 => simp only [chkEs] at h6; cases h6
    | [u0], h6 => simp only [chkEs, Bool.and_eq_true] at h6; exact ⟨u0, rfl, (chkE_ok u0 X W ck _ C k h6.1).pe⟩
    | _ :: _ :: _, h6 => simp only [chkEs, Bool.and_eq_true] at h6; exact absurd h6.2 (by simp))
/-- name = e -/
theorem set_ok (C : Ctx g at_ c X W) (k : CkOk ck X) (hk : ck.sc.kind = .function) {i : Nat} {x : Str} {py pos : Pos} {e : Expr} {u : E} (h1 : ck.N[i]? = some x) (h2 : locB ck x = true) (h3 : (setB ck x py e).isSome = true) (h4 : chkE g u ck e = true) :
    PS X (.Assign [.Name x py] e pos) (tS X.K at_ W fun env st => evS c (.set i u) env st) := by
  obtain ⟨l1, l2⟩ := locB_ok k h2
  have pe := (chkE_ok u X W ck e C k h4).pe
  have hN : X.N[i]? = some x := by rw [k.N]; exact h1
  have plain : swapsWith e (some (.Name x py)) pos.line X.env = pure false → PS X (.Assign [.Name x py] e pos) (tS X.K at_ W fun env st => evS c (.set i u) env st) := fun hs => s_set C.nd hN l1 l2 pe hs
  unfold setB at h3
  split at h3
  · rename_i elt gs scope p
    split at h3
    · rename_i t iter fs
      cases hst : straight ck x py scope p with
      | false => exact plain (by rw [sw_comp k hk (.inl ⟨_, _, rfl⟩), hst])
      | true =>
        have hsw : swapsWith (.ListComp elt [⟨t, iter, fs, 0⟩] scope p) (some (.Name x py)) pos.line X.env = pure true := by rw [sw_comp k hk (.inl ⟨_, _, rfl⟩), hst]
        have hl : lcl ck x = true := by
          unfold straight at hst
          simp only [Bool.and_eq_true] at hst
          exact hst.1.1
        cases u with
        | comp fz u tg ik its ifs own =>
          simp only [chkE] at h4
          simp only [Bool.and_eq_true, decide_eq_true_eq] at h4
          obtain ⟨⟨⟨⟨⟨⟨⟨⟨⟨a1, a2⟩, a3⟩, a4⟩, a5⟩, a6⟩, a7⟩, a8⟩, a9⟩, a10⟩ := h4
          cases hi : itArgs g ck ik iter with
          | none => rw [hi] at a6; cases a6
          | some as =>
            rw [hi] at a6
            have hown : ∀ i ∈ nmG tg, i ∈ (ownL ck own).map (·.2) := fun i hi => by
              rw [ownL_snd]
              exact List.contains_iff_mem.mp (List.all_eq_true.mp a3 i hi)
            have pi := its_ok C k hi a4 ⟨_, a2⟩ a6
            have ok : BlkOk X.N X.env.scope scope (ownL ck own) := by rw [k.N, k.sc]; exact blkOk_by a1
            have ps := s_setLc (W := W) (c := c) (at_ := at_) (fz := fz) C.calm C.nd hN (lcl_ok k hl) hsw pi ok (fun s H A cl fp => chkG_ok (X := X.blk s H scope (compEnvC scope cl A X.env) fp) C.calm C.nd (k.blk s H scope A cl fp) tg t a2)
              (fun s H A cl fp => chkTs_ok ifs _ noX (ckIn ck scope) fs (C.blk s H scope _ fp) (k.blk s H scope A cl fp) a8 a9 a10)
              (fun s H A cl fp => (chkE_ok u _ noX (ckIn ck scope) elt (C.blk s H scope _ fp) (k.blk s H scope A cl fp) a7).pe) (fun x => noset_ok a5 x) hown
            rw [ownL_snd] at ps
            refine PS_imp ps fun D σ H ⟨ρ, env, st, er, sr, o⟩ => ?_
            simp only [evS] at o
            refine tS_then (f := fun t env st => if i < env.length then .ok .nx (env.set i (some t)) st else .no) er sr o fun t ρ1 H1 st1 v er1 s1 m1 r1 o1 => ?_
            split at o1
            · exact o1.nx s1 (er1.set r1)
            · exact o1.elim
        | lit t => simp only [chkE, litB] at h4; cases h4
        | _ => simp only [chkE] at h4; cases h4
    · cases h3
  · cases h3
  · rename_i ke elt gs scope p
    split at h3
    · rename_i t iter fs
      cases hst : straight ck x py scope p with
      | false => exact plain (by rw [sw_comp k hk (.inr ⟨_, _, _, rfl⟩), hst])
      | true =>
        have hsw : swapsWith (.DictComp ke elt [⟨t, iter, fs, 0⟩] scope p) (some (.Name x py)) pos.line X.env = pure true := by rw [sw_comp k hk (.inr ⟨_, _, _, rfl⟩), hst]
        have hl : lcl ck x = true := by
          unfold straight at hst
          simp only [Bool.and_eq_true] at hst
          exact hst.1.1
        cases u with
        | dcomp fz kx u tg ik its ifs own =>
          simp only [chkE] at h4
          simp only [Bool.and_eq_true, decide_eq_true_eq] at h4
          obtain ⟨⟨⟨⟨⟨⟨⟨⟨⟨⟨a1, a2⟩, a3⟩, a4⟩, a5⟩, a6⟩, a0⟩, a7⟩, a8⟩, a9⟩, a10⟩ := h4
          cases hi : itArgs g ck ik iter with
          | none => rw [hi] at a6; cases a6
          | some as =>
            rw [hi] at a6
            have hown : ∀ i ∈ nmG tg, i ∈ (ownL ck own).map (·.2) := fun i hi => by
              rw [ownL_snd]
              exact List.contains_iff_mem.mp (List.all_eq_true.mp a3 i hi)
            have pi := its_ok C k hi a4 ⟨_, a2⟩ a6
            have ok : BlkOk X.N X.env.scope scope (ownL ck own) := by rw [k.N, k.sc]; exact blkOk_by a1
            have ps := s_setDc (W := W) (c := c) (at_ := at_) (fz := fz) C.calm C.nd hN (lcl_ok k hl) hsw pi ok (fun s H A cl fp => chkG_ok (X := X.blk s H scope (compEnvC scope cl A X.env) fp) C.calm C.nd (k.blk s H scope A cl fp) tg t a2)
              (fun s H A cl fp => chkTs_ok ifs _ noX (ckIn ck scope) fs (C.blk s H scope _ fp) (k.blk s H scope A cl fp) a8 a9 a10)
              (fun s H A cl fp => (chkE_ok kx _ noX (ckIn ck scope) ke (C.blk s H scope _ fp) (k.blk s H scope A cl fp) a0).pe)
              (fun s H A cl fp => (chkE_ok u _ noX (ckIn ck scope) elt (C.blk s H scope _ fp) (k.blk s H scope A cl fp) a7).pe) (fun x => noset_ok a5 x) hown
            rw [ownL_snd] at ps
            refine PS_imp ps fun D σ H ⟨ρ, env, st, er, sr, o⟩ => ?_
            simp only [evS] at o
            refine tS_then (f := fun t env st => if i < env.length then .ok .nx (env.set i (some t)) st else .no) er sr o fun t ρ1 H1 st1 v er1 s1 m1 r1 o1 => ?_
            split at o1
            · exact o1.nx s1 (er1.set r1)
            · exact o1.elim
        | lit t => simp only [chkE, litB] at h4; cases h4
        | _ => simp only [chkE] at h4; cases h4
    · cases h3
  · exact plain (by cases e <;> first | rfl | (rename_i n1 n2 n3; first | exact absurd rfl (n1 _ _ _ _) | exact absurd rfl (n2 _ _ _ _) | exact absurd rfl (n3 _ _ _ _ _)))

/-- a list of simple ones -/
theorem sims_ok {Y : Cx} {V : WX} (hK : Y.K = X.K) (hN : Y.N = X.N) (hE : Y.env = X.env) : ∀ (us : List E) (es : List Expr), (us.all fun u => match u with | .lit t => (match t with | .fn _ => false | _ => true) | .var _ => true | _ => false) = true → nsts es = true → CkOk ck X → chkEs g0 us ck es = true → PA Y es (tEs Y.K at_ V fun env st => evEs c us env st)
  | [], es, _, _, _, h => by
    simp only [chkEs] at h
    rw [isEmpty_nil h]
    exact a_nil
  | u :: us, es, hs, hn, k, h => by
    simp only [chkEs] at h
    cases es with
    | nil => cases h
    | cons e es =>
      simp only
            [Bool.and_eq_true] at h
      simp only [nsts, List.all_cons, Bool.and_eq_true] at hn
      simp only
            [List.all_cons, Bool.and_eq_true] at hs
      exact a_cons (sim_ok hK hN hE u e hs.1 k h.1) (sims_ok hK hN hE us es hs.2 hn.2 k h.2) (star_cons hn.1)
theorem suite_ok {V : WX} (k : CkOk ck X) {hh : List S} {z : Stmt} (h : plS hh ck z = true) {a : Addr} {pn : List (Addr × Obj)} : PSs (X.suite a pn) [z] (tS X.K at_ V fun env st => evSs c hh env st) := by
  unfold plS at h
  split at h
  · rename_i u
    split at h
    · rename_i e pos
      simp only
            [Bool.and_eq_true] at h
      have pe : PE (X.suite a pn) e (tE X.K at_ V fun env st => evE c u env st) := by
        have h1 := h.1
        unfold simE at h1
        split at h1
        · exact sim_ok (X := X) (Y := X.suite a pn) rfl rfl rfl _ e h1 k h.2
        · exact sim_ok (X := X) (Y := X.suite a pn) rfl rfl rfl _ e rfl k h.2
        · rename_i us
          have h2 := h.2
          simp only [chkE] at h2
          split at h2
          · simp only [Bool.and_eq_true, decide_eq_true_eq] at h2
            exact e_tup (X := X.suite a pn) (sims_ok (X := X) (Y := X.suite a pn) rfl rfl rfl us _ h1 h2.1.2 k h2.2) h2.1.1
          · cases h2
        · cases h1
      exact s_cons (X := X.suite a pn) (s_ret pe) s_nil
    · cases h
  · split at h
    · exact s_cons (X := X.suite a pn) s_cont s_nil
    · cases h
  · split at h
    · exact s_cons (X := X.suite a pn) s_pass s_nil
    · cases h
  · cases h
theorem par_sw (k : CkOk ck X) (hk : ck.sc.kind = .function) {x y : Str} {px py pt : Pos} {kt : Nat} {a b : Expr} {k2 : Nat} {pt2 : Pos} (h : parB ck x y px py a b = true) :
    swappedStores [.Tuple [.Name x px, .Name y py] kt pt] (.Tuple [a, b] k2 pt2) X.env = pure (some [x, y]) := by
  unfold parB at h
  simp only
        [Bool.and_eq_true, Bool.not_eq_true'] at h
  obtain
        ⟨⟨⟨⟨⟨⟨⟨h1, h2⟩, h3⟩, h4⟩, h5⟩, h6⟩, h7⟩, h8⟩ := h
  have hb : X.env.blockKind = .function := by unfold Env.blockKind; rw [k.sc, hk]; rfl
  have e1 : X.env.kindOf x = some .local := lcl_ok k h1
  have e2 : X.env.kindOf y = some .local := lcl_ok k h2
  have e3 : (py.line == px.line) = true := by rw [beq_iff_eq] at h3 ⊢; exact h3.symm
  have hs : ∀ f : Expr → Bool, f a = false → f b = false → [a, b].any f = false := fun f z1 z2 => by simp [z1, z2]
  have hf : [a, b].all (foldedForSure 8) = false := by simpa using h7
  have hcs : [a, b].all (constantsAlone 8) = false := by simpa using h8
  have hxy : (y == x) = false := by
    rw [beq_eq_false_iff_ne] at h4 ⊢
    exact fun z => h4 z.symm
  have hed : ([x, y].eraseDups.length != [x, y].length) = false := by
    simp [List.eraseDups, List.eraseDupsBy, List.eraseDupsBy.loop, h4, hxy]
  have e4 : (px.line == px.line) = true := beq_self_eq_true _
  unfold swappedStores
  simp only [hb]
  rw [hs]
  · simp only [List.length_cons, List.length_nil, List.head?_cons, Option.map_some, Option.getD_some, Expr.pos, List.filterMap_cons, List.filterMap_nil, e1, e2, e3, hf, hcs]
    simp only [e4, show (some NameKind.local == some NameKind.local && true) = true from rfl, if_true]
    rw [show ([x, y].length != 0 + 1 + 1 || [x, y].eraseDups.length != [x, y].length) = false by rw [hed]; rfl]
    rfl
  · cases a <;> first | rfl | cases h5
  · cases b <;> first | rfl | cases h6
theorem fm_lt {α β : Type} {f : α → Option β} : ∀ {l : List α}, (∃ t ∈ l, f t = none) → (l.filterMap f).length < l.length
  | [], h => by obtain ⟨t, ht, _⟩ := h; cases ht
  | a :: l, h => by
    have le : (l.filterMap f).length ≤ l.length := List.length_filterMap_le f l
    cases e : f a with
    | none => rw [List.filterMap_cons, e]; simp only [List.length_cons]; omega
    | some b =>
      rw [List.filterMap_cons, e]
      obtain ⟨t, ht, q⟩ := h
      rcases List.mem_cons.mp ht with rfl | ht
      · rw [e] at q; cases q
      · have := fm_lt (f := f) ⟨t, ht, q⟩
        simp only [List.length_cons]
        omega
theorem swn_ok (k : CkOk ck X) {es : List Expr} {kk : Nat} {p : Pos} {e : Expr} (h : swn ck (.Tuple es kk p) e = true) : swappedStores [.Tuple es kk p] e X.env = pure none := by
  unfold swn at h
  rcases Bool.or_eq_true_iff.mp
        h with h | h
  · cases e <;> first | rfl | cases h
  · cases e <;> first | rfl | skip
    rename_i vs k2 p2
    obtain ⟨t, ht, hq⟩ := List.any_eq_true.mp h
    have key : ∀ l : Nat, ((es.filterMap fun t => match t with | .Name id pos => if X.env.kindOf id == some .local && pos.line == l then some id else none | _ => none).length != es.length) = true := fun l => by
      have := fm_lt (f := fun t => match t with | Expr.Name id pos => if X.env.kindOf id == some .local && pos.line == l then some id else none | _ => none) (l := es) ⟨t, ht, by
        cases t <;> first | rfl | skip
        rename_i x px
        have e1 : (X.env.kindOf x == some .local) = false := by
          show (X.env.scope.names.lookup x == some .local) = false
          rw [k.sc]
          simpa using hq
        simp only [e1, Bool.false_and]
        rfl⟩
      rw [bne_iff_ne]
      omega
    unfold swappedStores
    simp only
    split
    · rfl
    · split
      · rfl
      · have q := key ((es.head?.map (·.pos.line)).getD 0)
        exact if_pos (Bool.or_eq_true_iff.mpr (.inl q))
mutual
theorem chkS_ok : ∀ (s : S) (st : Stmt) {X : Cx} {W : WX}, CtxS g at_ c X W → CkOk ck X → ck.sc.kind = .function → chkS g s ck st = true → PS X st (tS X.K at_ W fun env st => evS c s env st)
  | .pass, st, X, W, C, k, hk, h => by
    simp only [chkS] at h
    split at h
    · exact s_pass
    · exact s_doc
    · cases h
  | .expr u, st, X, W, C, k, hk, h => by
    simp only [chkS] at h
    split at h
    · simp only [Bool.and_eq_true] at h
      exact s_expr (chkE_ok u X W ck _ C.toCtx k h.2).pe (ncomp_sw h.1)
    · cases h
  | .set i u, st, X, W, C, k, hk, h => by
    simp only [chkS] at h
    split at h
    · simp only
            [Bool.and_eq_true, decide_eq_true_eq] at h
      exact set_ok C.toCtx k hk h.1.1.1 h.1.1.2 h.1.2 h.2
    · cases h
  | .asg t u, st, X, W, C, k, hk, h => by
    simp only [chkS] at h
    split at h
    · rename_i tg e pos
      simp only
            [Bool.and_eq_true] at h
      obtain
            ⟨⟨⟨h1, h2⟩, h3⟩, h4⟩ := h
      cases tg with
      | Tuple es kk p =>
        refine s_asg (chkE_ok u X W ck _ C.toCtx k h4).pe (chkG_ok C.calm C.nd k t _ h3) ?_ ?_ rfl
        · cases e <;> rfl
        · exact swn_ok k h2
      | _ => cases h1
    · cases h
  | .par is us, st, X, W, C, k, hk, h => by
    simp only [chkS] at h
    split at h
    · rename_i x px y py kt pt a b k2 p2 pos
      split at h
      · rename_i i j
        simp only
              [Bool.and_eq_true, decide_eq_true_eq] at h
        obtain
              ⟨⟨⟨h1, h2⟩, h3⟩, h4⟩ := h
        have h3' := h3
        unfold parB at h3'
        simp only [Bool.and_eq_true, Bool.not_eq_true'] at h3'
        obtain ⟨⟨⟨⟨⟨⟨⟨b1, b2⟩, b3⟩, b4⟩, b5⟩, b6⟩, b7⟩, b8⟩ := h3'
        refine s_par C.calm C.nd (by rw [k.N]; exact h1) (by rw [k.N]; exact h2) (fun z => ?_) (lcl_ok k b1) (lcl_ok k b2) (chkEs_ok us X W ck _ C.toCtx k (by simp [nsts, b5, b6]) h4) (par_sw k hk h3)
        subst z
        rw [h1] at h2
        cases h2
        simp at b4
      · cases h
    · cases h
  | .aug i o u, st, X, W, C, k, hk, h => by
    simp only [chkS] at h
    split at h
    · simp only
            [Bool.and_eq_true, decide_eq_true_eq] at h
      obtain ⟨⟨⟨h1, h2⟩, rfl⟩, h4⟩ := h
      obtain ⟨l1, l2⟩ := locB_ok k h2
      exact s_aug C.nd (by rw [k.N]; exact h1) l1 l2 (chkE_ok u X W ck _ C.toCtx k h4).pe
    · cases h
  | .seti o i v, st, X, W, C, k, hk, h => by
    simp only [chkS] at h
    split at h
    · rename_i oe ie p e pos
      simp only
            [Bool.and_eq_true] at h
      obtain
            ⟨⟨⟨h1, h2⟩, h3⟩, h4⟩ := h
      refine s_seti C.hu (chkE_ok o X W ck _ C.toCtx k h2).pe (chkE_ok i X W ck _ C.toCtx k h3).pe (chkE_ok v X W ck _ C.toCtx k h4).pe h1 ?_ rfl rfl
      cases e <;> rfl
    · cases h
  | .augi o i op v, st, X, W, C, k, hk, h => by
    simp only [chkS] at h
    split at h
    · simp only
            [Bool.and_eq_true, decide_eq_true_eq] at h
      obtain ⟨⟨⟨⟨h1, rfl⟩, h2⟩, h3⟩, h4⟩ := h
      exact s_augi C.hu (chkE_ok o X W ck _ C.toCtx k h2).pe (chkE_ok i X W ck _ C.toCtx k h3).pe (chkE_ok v X W ck _ C.toCtx k h4).pe h1
    · cases h
  | .ret u, st, X, W, C, k, hk, h => by
    simp only [chkS] at h
    split at h
    · split at h
      · exact s_retN
      · exact s_ret (chkE_ok _ X W ck _ C.toCtx k h).pe
      · cases h
    · cases h
  | .ite t a b, st, X, W, C, k, hk, h => by
    simp only [chkS] at h
    split at h
    · simp only [Bool.and_eq_true] at h
      obtain
            ⟨⟨⟨h1, h2⟩, h3⟩, h4⟩ := h
      exact s_if ((chkE_ok t X W ck _ C.toCtx k h2).pt h1) (chkSs_ok a _ C k hk h3) (chkSs_ok b _ C k hk h4)
    · cases h
  | .whl t b, st, X, W, C, k, hk, h => by
    simp only [chkS] at h
    split at h
    · simp only [Bool.and_eq_true] at h
      obtain ⟨⟨h1, h2⟩, h3⟩ := h
      exact s_while C.own ((chkE_ok t X W ck _ C.toCtx k h2).pt h1) (chkSs_ok b _ C k hk h3)
    · cases h
  | .fr t ik its b, st, X, W, C, k, hk, h => by
    simp only [chkS] at h
    split at h
    · rename_i tg it x pos
      simp only
            [Bool.and_eq_true] at h
      obtain ⟨⟨⟨⟨h1, h2⟩, h3⟩, h4⟩, h5⟩ := h
      cases hi : itArgs g ck ik it with
      | none => rw [hi] at h4; cases h4
      | some as =>
        rw [hi] at h4
        exact s_for C.own C.calm (its_ok C.toCtx k hi h2 ⟨_, h1⟩ h4) (chkG_ok C.calm C.nd k t _ h1) (chkSs_ok b _ C k hk h5) fun x => noset_ok h3 x
    · cases h
  | .brk, st, X, W, C, k, hk, h => by
    simp only [chkS] at h
    split at h
    · exact s_brk
    · cases h
  | .cont, st, X, W, C, k, hk, h => by
    simp only [chkS] at h
    split at h
    · exact s_cont
    · cases h
  | .raise n us, st, X, W, C, k, hk, h => by
    simp only [chkS] at h
    split at h
    · simp only [Bool.and_eq_true, decide_eq_true_eq, Bool.not_eq_true'] at h
      obtain ⟨⟨⟨h0, h1⟩, h2⟩, h3⟩ := h
      rw [isEmpty_nil h0]
      exact s_raise C k h1 h2 h3
    · simp only [Bool.and_eq_true, decide_eq_true_eq, Bool.not_eq_true'] at h
      obtain
            ⟨⟨⟨⟨⟨⟨h1, h2⟩, h3⟩, h4⟩, h5⟩, h6⟩, h7⟩ := h
      cases hx : g.ex2 _ with
      | none => rw [hx] at h2; cases h2
      | some q =>
        obtain ⟨m, f, hh⟩ := q
        rw [hx] at h2
        have h2 := of_decide_eq_true h2
        have h2 : m = n := h2
        subst h2
        exact s_raise2 C k h1 hx h3 h4 h5 h6 (chkEs_ok us X W ck _ C.toCtx k (by simp [nsts, h4, h5]) h7)
    · cases h
  | .try1 b cs ns hh, st, X, W, C, k, hk, h => by
    simp only [chkS] at h
    split at h
    · rename_i y x np z zs p1 p2
      simp only [Bool.and_eq_true, decide_eq_true_eq, Bool.not_eq_true', List.all_eq_true] at h
      obtain
            ⟨⟨⟨⟨⟨⟨⟨h1, h2⟩, h3⟩, h4⟩, h5⟩, h6⟩, h7⟩, h8⟩ := h
      cases isEmpty_nil h6
      have one : ∃ i0, i0 ∈ cs := by
        cases cs with
        | nil => cases h3
        | cons i0 _ => exact ⟨i0, List.mem_cons_self⟩
      obtain ⟨i0, hi0⟩ := one
      obtain ⟨j, mj, _⟩ := C.exm x i0 true (h4 i0 hi0)
      refine PS_imp (ps_try_only (c := .ref j) (tb := fun W' => tS X.K at_ W' fun env st => evSs c b env st) (ts := fun _ _ _ => tS X.K at_ W fun env st => evSs c hh env st) C.stk C.frm ⟨glB_ok k h1, h2, .inl mj⟩ C.tk
        (fun W' pn xe tk po => chkSs_ok b y (C.tr tk po) ⟨k.N, k.sc, k.fn⟩ hk h8) (fun a oe cls d pn _ _ => suite_ok k h7)) fun D σ H ⟨ρ, env, st, er, sr, o⟩ => ?_
      simp only [evS] at o
      refine ⟨ρ, env, st, er, sr, ?_⟩
      show OutS X.K at_ ρ H (evSs c b env st) D _
      cases e : evSs c b env st with
      | ok f env' st' => rw [e] at o; exact o
      | no => rw [e] at o; exact o.elim
      | exc ex env' st' =>
        rw [e] at o
        simp only at o
        intro ρ' H' σ' cls d m s' er' rx
        by_cases hc : ex.cls ∈ cs
        · rw [if_pos hc] at o
          obtain ⟨j', mj', q⟩ := C.exm x ex.cls true (h4 _ hc)
          rw [mj] at mj'
          cases mj'
          exact ⟨true, by rw [rx.1]; exact q, fun _ a _ => ⟨ρ', env', st', er', s', OutS.mv m o⟩, fun z => by cases z⟩
        · rw [if_neg hc] at o
          by_cases hn : ex.cls ∈ ns
          · rw [if_pos hn] at o
            obtain ⟨j', mj', q⟩ := C.exm x ex.cls false (h5 _ hn)
            rw [mj] at mj'
            cases mj'
            exact ⟨false, by rw [rx.1]; exact q, (fun z => by cases z), fun _ => o ρ' H' σ' cls d m s' er' rx⟩
          · rw [if_neg hn] at o
            exact o.elim
    · cases h
theorem chkSs_ok : ∀ (ss : List S) (st : List Stmt) {X : Cx} {W : WX}, CtxS g at_ c X W → CkOk ck X → ck.sc.kind = .function → chkSs g ss ck st = true → PSs X st (tS X.K at_ W fun env st => evSs c ss env st)
  | [], st, X, W, C, k, hk, h => by
    simp only [chkSs] at h
    rw [isEmpty_nil h]
    exact s_nil
  | s :: ss, st, X, W, C, k, hk, h => by
    simp only [chkSs] at h
    cases st with
    | nil => cases h
    | cons a as =>
      simp only
            [Bool.and_eq_true] at h
      exact s_cons (chkS_ok s a C k hk h.1) (chkSs_ok ss as C k hk h.2)
end
end
end Lw
set_option Elab.async false
set_option linter.all false
set_option maxRecDepth 100000
/-! Lw21: the program, the law's end. -/
namespace Lw
open PySem PySem.Spec L2 PyProof.Rows

/-- a def of the text: its name, its statement, its slots, its form in the small language -/
structure DefD where
  nm : Str
  st : Stmt
  N : List Str
  fd : Fd
def pars (d : DefD) : List Str := d.N.take d.fd.ps
/-- the exceptions' classes: their names, whether they are raised without arguments; which one a clause takes -/
structure Xs where
  nms : List (Str × Bool)
  tbl : List (List Bool)
  two : List (Option (Str × Str))
  lz : List (Str × Int)
def gtOf (D : List DefD) (B : List Str) (xs : Xs) (cn : List (Str × T)) (HS : List (DefD × Hk)) (LM : List (Str × Addr × Addr)) : Gt where
  fn := fun x => (D.findIdx? fun d => d.nm == x).bind fun i => D[i]?.map fun d => (i, d.fd.ps)
  blt := fun x => B.contains x
  exc := fun x => (xs.nms.findIdx? fun d => d.1 == x).bind fun i => xs.nms[i]?.bind fun d => if d.2 = true then some i else none
  ex2 := fun x => (xs.nms.findIdx? fun d => d.1 == x).bind fun i => (xs.two[i]?.bind id).map fun p => (i, p.1, p.2)
  con := fun x => (cn.find? fun d => d.1 == x).map (·.2)
  exm := fun x i => (xs.nms.findIdx? fun d => d.1 == x).bind fun j => xs.tbl[i]?.bind fun r => r[j]?
  hear := fun x => (HS.find? fun d => d.1.nm == x).map (·.2)
  lms := fun x => LM.any fun d => d.1 == x
  lm := false
/-- the module's constants; lz: those that are worked out when the module runs -/
def CFact (K : PySem.W.Frag) (lz : List (Str × Int)) (d : Str × T) : Prop := (∃ u v, PySem.W.nsIn K mainGlobals d.1 = some (some u) ∧ L2.RelV v u ∧ ∀ at_ ρ H, Rep K at_ ρ H d.2 v) ∨ ∃ i, d.2 = .int i ∧ (d.1, i) ∈ lz
def CFacts (K : PySem.W.Frag) (lz : List (Str × Int)) : List (Str × T) → Prop
  | [] => True
  | d :: ds => CFact K lz d ∧ CFacts K lz ds
theorem CFacts.get {K : PySem.W.Frag} {lz : List (Str × Int)} : ∀ {cn : List (Str × T)}, CFacts K lz cn → ∀ {d : Str × T}, d ∈ cn → CFact K lz d
  | [], _, _, h => nomatch h
  | y :: B, h, x, hx => by
    rcases List.mem_cons.mp
          hx with e | hx
    · subst e; exact h.1
    · exact CFacts.get h.2 hx
/-- a class of the text; raised: it bears no __init__ -/
def XFacts (K : PySem.W.Frag) : List (Str × Bool) → List Addr → Prop
  | [], _ => True
  | d :: ds, cs => match cs with
    | C :: cs => (PySem.W.nsIn K mainGlobals d.1 = some (some (.ref C)) ∧ (d.2 = true → PySem.W.keepIn K (.ref C) = true ∧ PySem.W.subIn K (.ref C) (.type "BaseException") = some true ∧ PySem.W.typeIn K (.ref C) = some (.type "type") ∧
        PySem.W.excIn K C [.type "ValueError", .type "Exception", .type "BaseException", .type "object"] "ValueError.__new__" = true)) ∧ XFacts K ds cs
    | [] => False
/-- the classes whose errors keep two fields -/
def TwoFacts (P : Program) (K : PySem.W.Frag) : List (Option (Str × Str)) → List Addr → Prop
  | [], _ => True
  | o :: r, cs => match cs with
    | C :: cs => (match o with
      | none => True
      | some p => (∀ mg : Str → Option Value, mg "super" = none → SupF P K mg C p.1 p.2) ∧ PySem.W.nsIn K mainGlobals "super" = some none ∧ XfC K C) ∧ TwoFacts P K r cs
    | [] => False
theorem TwoFacts.get {P : Program} {K : PySem.W.Frag} : ∀ {l : List (Option (Str × Str))} {cs : List Addr}, TwoFacts P K l cs → ∀ {i : Nat} {p : Str × Str}, l[i]? = some (some p) → (∀ mg : Str → Option Value, mg "super" = none → SupF P K mg (cs.getD i 0) p.1 p.2) ∧ PySem.W.nsIn K mainGlobals "super" = some none ∧ XfC K (cs.getD i 0)
  | [], _, _, i, d, e => by simp at e
  | o :: D, [], h, _, _, _ => h.elim
  | o :: D, f :: fs, h, 0, d, e => by
    have e : o = some d := by simpa using e
    subst e
    exact h.1
  | o :: D, f :: fs, h, i + 1, d, e => by
    have q := TwoFacts.get h.2 (i := i) (p := d) (by simpa using e)
    simpa using q
def MRow (K : PySem.W.Frag) (C : Addr) : List Bool → List Addr → Prop
  | [], _ => True
  | b :: bs, cs => match cs with
    | D :: cs => PySem.W.exmOne K (.ref C) (.ref D) = some b ∧ MRow K C bs cs
    | [] => False
def MAll (K : PySem.W.Frag) (all : List Addr) : List (List Bool) → List Addr → Prop
  | [], _ => True
  | r :: rs, cs => match cs with
    | C :: cs => MRow K C r all ∧ MAll K all rs cs
    | [] => False
theorem XFacts.get {K : PySem.W.Frag} : ∀ {D : List (Str × Bool)} {cs : List Addr}, XFacts K D cs → ∀ {i : Nat} {d : Str × Bool}, D[i]? = some d → PySem.W.nsIn K mainGlobals d.1 = some (some (.ref (cs.getD i 0))) ∧ (d.2 = true → PySem.W.keepIn K (.ref (cs.getD i 0)) = true ∧ PySem.W.subIn K (.ref (cs.getD i 0)) (.type "BaseException") = some true ∧ PySem.W.typeIn K (.ref (cs.getD i 0)) = some (.type "type") ∧
        PySem.W.excIn K (cs.getD i 0) [.type "ValueError", .type "Exception", .type "BaseException", .type "object"] "ValueError.__new__" = true)
  | [], _, _, i, d, e => by simp at e
  | x :: D, [], h, _, _, _ => h.elim
  | x :: D, f :: fs, h, 0, d, e => by simp at e; subst e; exact h.1
  | x :: D, f :: fs, h, i + 1, d, e => by
    have q := XFacts.get h.2 (i := i) (d := d) (by simpa using e)
    simpa using q
theorem MRow.get {K : PySem.W.Frag} {C : Addr} : ∀ {r : List Bool} {cs : List Addr}, MRow K C r cs → ∀ {j : Nat} {b : Bool}, r[j]? = some b → PySem.W.exmOne K (.ref C) (.ref (cs.getD j 0)) = some b
  | [], _, _, i, d, e => by simp at e
  | x :: D, [], h, _, _, _ => h.elim
  | x :: D, f :: fs, h, 0, d, e => by simp at e; subst e; exact h.1
  | x :: D, f :: fs, h, i + 1, d, e => by
    have q := MRow.get h.2 (j := i) (b := d) (by simpa using e)
    simpa using q
theorem MAll.get {K : PySem.W.Frag} {all : List Addr} : ∀ {rs : List (List Bool)} {cs : List Addr}, MAll K all rs cs → ∀ {i : Nat} {r : List Bool}, rs[i]? = some r → MRow K (cs.getD i 0) r all
  | [], _, _, i, d, e => by simp at e
  | x :: D, [], h, _, _, _ => h.elim
  | x :: D, f :: fs, h, 0, d, e => by simp at e; subst e; exact h.1
  | x :: D, f :: fs, h, i + 1, d, e => by
    have q := MAll.get h.2 (i := i) (r := d) (by simpa using e)
    simpa using q
def chkD (g : Gt) (d : DefD) : Bool := scopeB d.N (pars d) (defScope d.st) && decide (d.fd.ps ≤ d.N.length) && decide (d.fd.sl = d.N.length) && chkSs (g.of d.nm) d.fd.body ⟨d.N, defScope d.st, fun _ => true⟩ (defBody d.st)
/-- the parameters, bound in a row -/
def argB (d : DefD) : Prop := ∀ (kV doc pm : Value) (an : Option Addr) (cdv ct : Value) (us : List Value), us.length = (pars d).length → bindArgs (PySem.W.fnOf d.nm d.nm (defArgs d.st) (defBody d.st) (defScope d.st) .none kV doc pm an cdv ct) ⟨us, []⟩ = pure ((pars d).zip us)
/-- a def's object -/
def DFact (K : PySem.W.Frag) (d : DefD) (f : Addr) : Prop := PySem.W.nsIn K mainGlobals d.nm = some (some (.ref f)) ∧ (∃ fd, Fun K d.nm d.nm d.st f fd)
def DFacts (K : PySem.W.Frag) : List DefD → List Addr → Prop
  | [], _ => True
  | d :: ds, fs => match fs with
    | f :: fs => DFact K d f ∧ DFacts K ds fs
    | [] => False
def BFacts (K : PySem.W.Frag) : List Str → Prop
  | [] => True
  | x :: xs => PySem.W.nsIn K mainGlobals x = some none ∧ BFacts K xs
theorem DFacts.get {K : PySem.W.Frag} : ∀ {D : List DefD} {fs : List Addr}, DFacts K D fs → ∀ {i : Nat} {d : DefD}, D[i]? = some d → DFact K d (fs.getD i 0)
  | [], _, _, i, d, e => by simp at e
  | x :: D, [], h, _, _, _ => h.elim
  | x :: D, f :: fs, h, 0, d, e => by simp at e; subst e; exact h.1
  | x :: D, f :: fs, h, i + 1, d, e => by
    have q := DFacts.get h.2 (i := i) (d := d) (by simpa using e)
    simpa using q
theorem BFacts.get {K : PySem.W.Frag} : ∀ {B : List Str}, BFacts K B → ∀ {x : Str}, x ∈ B → PySem.W.nsIn K mainGlobals x = some none
  | [], _, _, h => nomatch h
  | y :: B, h, x, hx => by
    rcases List.mem_cons.mp
          hx with rfl | hx
    · exact h.1
    · exact h.2.get hx
def atOf (P : Program) (w : World) (xs : Xs) (fs cs : List Addr) (LM : List (Str × Addr × Addr)) : At := ⟨fun i => fs.getD i 0, fun i => cs.getD i 0, fun i => match xs.two[i]? with | some (some p) => [p.1, p.2] | _ => [], LM.map fun p => (p.2.2, (p.1 ++ (".<locals>." : Str)) ++ ("<lambda>" : Str)), P, w⟩
theorem nodup_inj {α β : Type} {f : α → β} : ∀ {l : List α}, (l.map f).Nodup → ∀ {a b : α}, a ∈ l → b ∈ l → f a = f b → a = b
  | [], _, _, _, h, _, _ => nomatch h
  | y :: l, h, a, b, ha, hb, e => by
    rw [List.map_cons,
          List.nodup_cons] at h
    rcases List.mem_cons.mp ha with e1 | ha1 <;> rcases List.mem_cons.mp hb with e2 | hb1
    · rw [e1, e2]
    · subst e1; exact (h.1 (List.mem_map.mpr ⟨b, hb1, e.symm⟩)).elim
    · subst e2; exact (h.1 (List.mem_map.mpr ⟨a, ha1, e⟩)).elim
    · exact nodup_inj h.2 ha1 hb1 e
/-- a def that hears: its form -/
def chkH1 (g : Gt) (d : DefD × Hk) : Bool := scopeB d.1.N (pars d.1) (defScope d.1.st) && decide (d.1.fd.ps = 1) && !(d.1.nm == ("__debug__" : Str)) && !(hkCs d.2).isEmpty && (match pars d.1, hkForm (defBody d.1.st) with
  | [a], some (a', e, o) => decide (a' = a) && decide (d.1.N[0]? = some a) && !(a == ("__debug__" : Str)) && !(a == ("__classdict__" : Str)) && !(e == ("__debug__" : Str)) && decide ((defScope d.1.st).names.lookup e = some .globalImplicit) && hkIs d.2 o && (hkCs d.2).all fun i => decide (g.exm e i = some true)
  | _, _ => false)
/-- a clause -/
def chkC (g : Gt) (xs : Xs) (N : List Str) (sg : Scope) (h : ExceptHandler) (cs ns : List Nat) (r : Str) (w : Bool) : Bool := match hcForm h with
  | some (e, ret, o) => decide (ret = r) && decide (sg.names.lookup e = some .globalImplicit) && !(e == ("__debug__" : Str)) && !cs.isEmpty && (cs.all fun i => decide (g.exm e i = some true)) && (ns.all fun i => decide (g.exm e i = some false)) && (match o with
    | none => !w
    | some (n, f, f2) => w && (N.findIdx? fun y => y == n).isSome && decide (sg.names.lookup n = some .local) && !(n == ("__debug__" : Str)) && !(n == ("__classdict__" : Str)) && (match cs with
      | [i] => decide (xs.two[i]? = some (some (f, f2))) && decide ((xs.nms.findIdx? fun d => d.1 == e) = some i)
      | _ => false))
  | none => false
/-- its clauses -/
def chkM (g : Gt) (xs : Xs) (N : List Str) (sg : Scope) : List ExceptHandler → List (List Nat × List Nat × Str × Bool) → Bool
  | [], [] => true
  | h :: hs, c :: l => chkC g xs N sg h c.1 c.2.1 c.2.2.1 c.2.2.2 && chkM g xs N sg hs l
  | _, _ => false
def chkH (g : Gt) (xs : Xs) (d : DefD × Hk) : Bool := match d.2 with
  | .many t hs => scopeB d.1.N (pars d.1) (defScope d.1.st) && decide (d.1.fd.ps = 1) && !(d.1.nm == ("__debug__" : Str)) && (match pars d.1, defBody d.1.st with
    | [a], [.Try [.Return (some (.Tuple [.Constant (.str told) _ _, .Call (.Name a' _) [] [] _] _ _)) _] (h₀ :: hds) [] [] _] => decide (a' = a) && decide (told = t) && decide (d.1.N[0]? = some a) && !(a == ("__debug__" : Str)) && !(a == ("__classdict__" : Str)) && chkM g xs d.1.N (defScope d.1.st) (h₀ :: hds) hs
    | _, _ => false)
  | _ => chkH1 g d
/-- the defs that bear lambdas: their code objects, their tables -/
def LFacts (K : PySem.W.Frag) : List (Str × Addr × Addr) → Prop
  | [] => True
  | (x, c, P) :: ds => ((∃ f oc od fd osl, PySem.W.nsIn K mainGlobals x = some (some (.ref f)) ∧ K.lookup f = some ⟨oc, od, .func fd, osl⟩ ∧ fd.code = .ref c) ∧ PySem.W.codeHdIn K c P = true ∧ K.lookup P = none) ∧ LFacts K ds
theorem lf_mk {K : PySem.W.Frag} {x : Str} {c f : Addr} {oc : Value} {od : Option Addr} {fd : FuncData} {osl : Array (Option Value)} (n : PySem.W.nsIn K mainGlobals x = some (some (.ref f))) (l : K.lookup f = some ⟨oc, od, .func fd, osl⟩) (e : fd.code = .ref c) :
    ∃ f oc od fd osl, PySem.W.nsIn K mainGlobals x = some (some (.ref f)) ∧ K.lookup f = some ⟨oc, od, .func fd, osl⟩ ∧ fd.code = .ref c := ⟨f, oc, od, fd, osl, n, l, e⟩
theorem cf_mk {K : PySem.W.Frag} {lz : List (Str × Int)} {x : Str} {t : T} {u : Value} {v : V} (n : PySem.W.nsIn K mainGlobals x = some (some u)) (r : L2.RelV v u) (h : ∀ at_ ρ H, Rep K at_ ρ H t v) : CFact K lz (x, t) := .inl ⟨u, v, n, r, h⟩
theorem cf_lz {K : PySem.W.Frag} {lz : List (Str × Int)} {x : Str} {i : Int} (h : (x, i) ∈ lz) : CFact K lz (x, .int i) := .inr ⟨i, rfl, h⟩
theorem cp_mk {K : PySem.W.Frag} {a : Addr} {ts : List T} {vs : List V} {its : Array Value} {n : Nat} {sl : Array (Option Value)} (l : K.lookup a = some ⟨.type "tuple", none, .seq its n, sl⟩) (h : its.size ≤ sizeLine) (r : Vals vs its.toList) (hr : ∀ at_ ρ H, RepL K at_ ρ H ts vs) :
    ∀ at_ ρ H, Rep K at_ ρ H (.tup ts) (.ref a) := fun at_ ρ H => ⟨a, vs, rfl, .inr ⟨_, its, n, l, rfl, rfl, rfl, h, r⟩, hr at_ ρ H⟩
theorem size_le {n : Nat} (h : n ≤ 1000) : n ≤ sizeLine := by rw [sizeLine_eq]; omega
theorem LFacts.get {K : PySem.W.Frag} : ∀ {LM : List (Str × Addr × Addr)}, LFacts K LM → ∀ {d : Str × Addr × Addr}, d ∈ LM → (∃ f oc od fd osl, PySem.W.nsIn K mainGlobals d.1 = some (some (.ref f)) ∧ K.lookup f = some ⟨oc, od, .func fd, osl⟩ ∧ fd.code = .ref d.2.1) ∧ PySem.W.codeHdIn K d.2.1 d.2.2 = true ∧ K.lookup d.2.2 = none
  | [], _, _, h => nomatch h
  | y :: B, h, x, hx => by
    rcases List.mem_cons.mp
          hx with rfl | hx
    · exact h.1
    · exact h.2.get hx

section
variable {P : Program} {w : World} {K : PySem.W.Frag} {mg : Str → Option Value} {base h : Heap} {D : List DefD} {B : List Str} {fs cs hs : List Addr} {xs : Xs} {cn : List (Str × T)} {HS : List (DefD × Hk)} {LM : List (Str × Addr × Addr)} {lim : Nat}
theorem gt_fn {x : Str} {f n : Nat} (e : (gtOf D B xs cn HS LM).fn x = some (f, n)) : ∃ d, D[f]? = some d ∧ d.nm = x ∧ d.fd.ps = n := by
  simp only [gtOf] at e
  obtain ⟨i, h1, h2⟩ := Option.bind_eq_some_iff.mp e
  obtain ⟨d, h3, h4⟩ := Option.map_eq_some_iff.mp h2
  cases h4
  refine ⟨d, h3, ?_, rfl⟩
  obtain ⟨hlt, h5, _⟩ := List.findIdx?_eq_some_iff_getElem.mp h1
  rw [List.getElem?_eq_getElem hlt] at h3
  cases h3
  exact eq_of_beq h5
theorem gives_out {at_ : At} {ρ : Pl} {H : Hp} {r : SRes} {Q : VK} {E : XK} (o : Out K at_ ρ H (gives r) (Got K at_ Q) E) : OutS K at_ ρ H r { nx := fun _ H' => Q .non H', rt := Q } (fun cls d _ H => E cls d H) := by
  cases r with
  | ok f env st =>
    cases f with
    | nx => exact fun ρ' H' σ' m s e => o ρ' H' m s .non rfl
    | rt t => exact fun ρ' H' σ' m s e v r => o ρ' H' m s v r
    | bk => exact o.elim
    | ct => exact o.elim
  | exc x env st => exact fun ρ' H' σ' cls d m s e r => o ρ' H' cls d m s r
  | no => exact o.elim
/-- what is known of the text -/
structure Facts (P : Program) (K : PySem.W.Frag) (D : List DefD) (B : List Str) (xs : Xs) (cn : List (Str × T)) (HS : List (DefD × Hk)) (LM : List (Str × Addr × Addr)) (fs cs hs : List Addr) : Prop where
  d : DFacts K D fs
  b : BFacts K B
  x : XFacts K xs.nms cs
  m : MAll K cs xs.tbl cs
  c : CFacts K xs.lz cn
  h : DFacts K (HS.map (·.1)) hs
  l : LFacts K LM
  t : TwoFacts P K xs.two cs
/-- what is checked of it -/
structure Checks (D : List DefD) (B : List Str) (xs : Xs) (cn : List (Str × T)) (HS : List (DefD × Hk)) (LM : List (Str × Addr × Addr)) : Prop where
  d : ∀ d ∈ D, chkD (gtOf D B xs cn HS LM) d = true
  a : ∀ d ∈ D, argB d
  h : ∀ d ∈ HS, chkH (gtOf D B xs cn HS LM) xs d = true
  ha : ∀ d ∈ HS, argB d.1
  t : (LM.map fun p => p.2.2).Nodup
theorem tb_ok (hC : (LM.map fun p => p.2.2).Nodup) {p : Str × Addr × Addr} (hp : p ∈ LM) : (p.2.2, (p.1 ++ (".<locals>." : Str)) ++ ("<lambda>" : Str)) ∈ (atOf P w xs fs cs LM).tb ∧ ∀ q ∈ (atOf P w xs fs cs LM).tb, q.1 = p.2.2 → q.2 = (p.1 ++ (".<locals>." : Str)) ++ ("<lambda>" : Str) := by
  refine ⟨List.mem_map.mpr ⟨p, hp, rfl⟩, fun q hq eq => ?_⟩
  obtain ⟨p', hp', rfl⟩ := List.mem_map.mp hq
  have e4 : p' = p := nodup_inj hC hp' hp eq
  rw [e4]
theorem codOk_of {at_ : At} {X : Cx} {q : Str} {c P : Addr} (h1 : X.env.code = .ref c) (hq : X.env.qual = q) (h2 : LamX.TabB X.base X.mg c P) (h3 : (P, q ++ ("<lambda>" : Str)) ∈ at_.tb) (h4 : ∀ p ∈ at_.tb, p.1 = P → p.2 = q ++ ("<lambda>" : Str)) : CodOk at_ X := by
  subst hq
  exact ⟨c, P, h1, h2, h3, h4⟩
theorem exm_ok (X : K.In h) (G : h.Ns mainGlobals mg) (hF : Facts P K D B xs cn HS LM fs cs hs) {x : Str} {i : Nat} {b : Bool} (e : (gtOf D B xs cn HS LM).exm x i = some b) : mg x = some (.ref (cs.getD ((xs.nms.findIdx? fun d => d.1 == x).getD 0) 0)) ∧ PySem.W.exmOne K (.ref (cs.getD i 0)) (.ref (cs.getD ((xs.nms.findIdx? fun d => d.1 == x).getD 0) 0)) = some b := by
  simp only [gtOf] at e
  obtain ⟨j, e1, e2⟩ := Option.bind_eq_some_iff.mp e
  obtain ⟨r, e3, e4⟩ := Option.bind_eq_some_iff.mp e2
  obtain ⟨hlt, h5, _⟩ := List.findIdx?_eq_some_iff_getElem.mp e1
  have z := (hF.x.get (List.getElem?_eq_getElem hlt)).1
  rw [eq_of_beq h5] at z
  rw [e1]
  exact ⟨PySem.W.mg_of X G z, (hF.m.get e3).get e4⟩
theorem hear_ok1 (X : K.In h) (G : h.Ns mainGlobals mg) (hF : Facts P K D B xs cn HS LM fs cs hs) (hC : Checks D B xs cn HS LM) {x : Str} {d : DefD × Hk} (hm : d ∈ HS) (hx : d.1.nm = x) (ck : chkH1 (gtOf D B xs cn HS LM) d = true) : HearD K mg (atOf P w xs fs cs LM) d.2 x := by
  obtain ⟨i, hi⟩ := List.mem_iff_getElem?.mp hm
  obtain ⟨g1, fd, F⟩ := hF.h.get (i := i) (d := d.1) (by rw [List.getElem?_map, hi]; rfl)
  unfold chkH1 at ck
  simp only [Bool.and_eq_true, decide_eq_true_eq, Bool.not_eq_true'] at ck
  obtain ⟨⟨⟨⟨c1, c2⟩, c3⟩, c4⟩, c5⟩ := ck
  have S := scopeB_ok c1
  have bd := F.binds (hC.ha d hm)
  obtain
        ⟨oc, od, kV, doc, pm, an, cdv, ct, osl, rfl, lk, hcd⟩ := F.ex
  cases hp : pars d.1 with
  | nil => rw [hp] at c5; cases c5
  | cons a r =>
    cases r with
    | cons b r => rw [hp] at c5; cases c5
    | nil =>
      cases hf : hkForm (defBody d.1.st) with
      | none => rw [hp, hf] at c5; cases c5
      | some q =>
        obtain ⟨a', ec, o⟩ := q
        rw [hp, hf] at c5
        simp only [Bool.and_eq_true, decide_eq_true_eq, Bool.not_eq_true', List.all_eq_true] at c5
        obtain ⟨⟨⟨⟨⟨⟨⟨rfl, d1⟩, d2⟩, d3⟩, d4⟩, d5⟩, d6⟩, d7⟩ := c5
        obtain ⟨i0, hi0⟩ : ∃ i0, i0 ∈ hkCs d.2 := by
          cases hq : hkCs d.2 with
          | nil => rw [hq] at c4; cases c4
          | cons i0 _ => exact ⟨i0, List.mem_cons_self⟩
        obtain ⟨m, _⟩ := exm_ok X G hF (d7 i0 hi0)
        rw [hp] at S bd
        subst hx
        refine ⟨_, _, a', ec, _, _, _, _, _, _, _, _, _, _, _, _, _, _, o, PySem.W.mg_of X G g1, F.kp, lk, hcd, bd, S, d1, ?_, c3, d2, d3, d4, d5, m, hf, d6, fun i hi => (exm_ok X G hF (d7 i hi)).2⟩
        rcases S.par a' (by simp) with q | q
        · exact .inl q
        · exact .inr (.inl q)
theorem chkC_ok (X : K.In h) (G : h.Ns mainGlobals mg) (hF : Facts P K D B xs cn HS LM fs cs hs) {N : List Str} {sg : Scope} {hd : ExceptHandler} {cl nl : List Nat} {r : Str} {wb : Bool} (z : chkC (gtOf D B xs cn HS LM) xs N sg hd cl nl r wb = true) :
    ∃ q, HcIs K mg N sg hd q ∧ ∀ {l qs}, ClIs K (atOf P w xs fs cs LM) l qs → ClIs K (atOf P w xs fs cs LM) ((cl, nl, r, wb) :: l) (q :: qs) := by
  unfold chkC at z
  cases hf : hcForm hd with
  | none => rw [hf] at z; cases z
  | some p =>
    obtain ⟨e, ret, o⟩ := p
    rw [hf] at z
    simp only [Bool.and_eq_true, decide_eq_true_eq, Bool.not_eq_true', List.all_eq_true] at z
    obtain ⟨⟨⟨⟨⟨⟨d1, d2⟩, d3⟩, d4⟩, d5⟩, d6⟩, d7⟩ := z
    obtain ⟨i0, hi0⟩ : ∃ i0, i0 ∈ cl := by
      cases cl with
      | nil => cases d4
      | cons i0 _ => exact ⟨i0, List.mem_cons_self⟩
    obtain ⟨m, _⟩ := exm_ok X G hF (d5 i0 hi0)
    have y5 : ∀ i ∈ cl, PySem.W.exmOne K (.ref ((atOf P w xs fs cs LM).ca i)) (.ref (cs.getD ((xs.nms.findIdx? fun d => d.1 == e).getD 0) 0)) = some true := fun i hi => (exm_ok X G hF (d5 i hi)).2
    have y6 : ∀ i ∈ nl, PySem.W.exmOne K (.ref ((atOf P w xs fs cs LM).ca i)) (.ref (cs.getD ((xs.nms.findIdx? fun d => d.1 == e).getD 0) 0)) = some false := fun i hi => (exm_ok X G hF (d6 i hi)).2
    subst d1
    generalize hCS : cs.getD ((xs.nms.findIdx? fun d => d.1 == e).getD 0) 0 = CS at m y5 y6
    cases o with
    | none =>
      have hw : wb = false := by simpa using d7
      exact ⟨⟨CS, ret, none⟩, ⟨e, none, hf, d2, m, d3, trivial⟩, fun k2 => .cons rfl y5 y6 hw k2⟩
    | some t =>
      obtain ⟨n, f, f2⟩ := t
      simp only [Bool.and_eq_true, decide_eq_true_eq, Bool.not_eq_true'] at d7
      obtain ⟨⟨⟨⟨⟨w1, w2⟩, w3⟩, w4⟩, w5⟩, w6⟩ := d7
      match cl, w6, y5 with
      | [i], w6, y5 =>
        obtain ⟨v1, v2⟩ := Bool.and_eq_true_iff.mp w6
        have v1 := of_decide_eq_true v1
        have v2 := of_decide_eq_true v2
        obtain ⟨t1, t2, t3⟩ := hF.t.get v1
        have t1 := t1 (fun _ => none) rfl
        obtain ⟨j, hj⟩ := Option.isSome_iff_exists.mp w2
        obtain ⟨hlt, e5, _⟩ := List.findIdx?_eq_some_iff_getElem.mp hj
        have hN : N[j]? = some n := by rw [List.getElem?_eq_getElem hlt, eq_of_beq e5]
        have eCS : CS = cs.getD i 0 := by rw [← hCS, v2]; rfl
        refine ⟨⟨cs.getD i 0, ret, some (j, f, f2)⟩, ⟨e, some (n, f, f2), hf, d2, by rw [← eCS]; exact m, d3, rfl, rfl, hN, w3, w4, w5, t3, t1.fa, t1.fb⟩, fun k2 => .cons rfl (fun i' hi => ?_) (fun i' hi => ?_) ⟨w1, fun i' hi => ?_⟩ k2⟩
        · have := y5 i' hi
          rw [eCS] at this
          exact this
        · have := y6 i' hi
          rw [eCS] at this
          exact this
        · have : i' = i := by simpa using hi
          subst this
          refine ⟨rfl, ?_⟩
          show (match xs.two[i']? with | some (some p) => [p.1, p.2] | _ => []) = [f, f2]
          rw [v1]
theorem chkM_ok (X : K.In h) (G : h.Ns mainGlobals mg) (hF : Facts P K D B xs cn HS LM fs cs hs) {N : List Str} {sg : Scope} : ∀ {hds : List ExceptHandler} {l : List (List Nat × List Nat × Str × Bool)}, chkM (gtOf D B xs cn HS LM) xs N sg hds l = true → ∃ q, HcsIs K mg N sg hds q ∧ ClIs K (atOf P w xs fs cs LM) l q
  | [], [], _ => ⟨[], .nil, .nil⟩
  | [], _ :: _, z => by cases z
  | _ :: _, [], z => by cases z
  | hd :: hds, c :: l, z => by
    unfold chkM at z
    obtain ⟨z1, z2⟩ := Bool.and_eq_true_iff.mp z
    obtain ⟨q, k1, k2⟩ := chkM_ok X G hF z2
    obtain ⟨q0, j1, j2⟩ := chkC_ok (P := P) (w := w) (fs := fs) (LM := LM) X G hF z1
    exact ⟨q0 :: q, .cons j1 k1, j2 k2⟩
theorem hear_ok2 (X : K.In h) (G : h.Ns mainGlobals mg) (hF : Facts P K D B xs cn HS LM fs cs hs) (hC : Checks D B xs cn HS LM) {x t : Str} {hl : List (List Nat × List Nat × Str × Bool)} {d : DefD × Hk} (hm : d ∈ HS) (hx : d.1.nm = x) (ht : d.2 = .many t hl) (ck : chkH (gtOf D B xs cn HS LM) xs d = true) : HearM K mg (atOf P w xs fs cs LM) d.2 x := by
  obtain ⟨i, hi⟩ := List.mem_iff_getElem?.mp hm
  obtain ⟨g1, fd, F⟩ := hF.h.get (i := i) (d := d.1) (by rw [List.getElem?_map, hi]; rfl)
  unfold chkH at ck
  rw [ht] at ck
  simp only [Bool.and_eq_true, decide_eq_true_eq, Bool.not_eq_true'] at ck
  obtain ⟨⟨⟨c1, c2⟩, c3⟩, c5⟩ := ck
  have S := scopeB_ok c1
  have bd := F.binds (hC.ha d hm)
  obtain
        ⟨oc, od, kV, doc, pm, an, cdv, ct, osl, rfl, lk, hcd⟩ := F.ex
  split at c5
  · rename_i a told j p9 a' p1 p2 k pa p3 h₀ hds p8 hp hb
    simp only [Bool.and_eq_true, decide_eq_true_eq, Bool.not_eq_true'] at c5
    obtain ⟨⟨⟨⟨⟨rfl, rfl⟩, d1⟩, d2⟩, d3⟩, d7⟩ := c5
    obtain ⟨q, k1, k2⟩ := chkM_ok (P := P) (w := w) (fs := fs) X G hF d7
    rw [hp] at S bd
    rw [hb] at lk bd
    subst hx
    refine ⟨_, _, _, _, _, _, _, _, _, _, _, _, _, _, _, _, _, _, _, q, _, _, _, _, _, _, _, _, ht, PySem.W.mg_of X G g1, F.kp, lk, hcd, bd, S, d1, ?_, c3, d2, d3, k1, k2⟩
    rcases S.par a' (by simp) with q | q
    · exact .inl q
    · exact .inr (.inl q)
  · cases c5
theorem hear_ok (X : K.In h) (G : h.Ns mainGlobals mg) (hF : Facts P K D B xs cn HS LM fs cs hs) (hC : Checks D B xs cn HS LM) {x : Str} {hk : Hk} (e : (gtOf D B xs cn HS LM).hear x = some hk) : HearD K mg (atOf P w xs fs cs LM) hk x ∨ HearM K mg (atOf P w xs fs cs LM) hk x := by
  simp only [gtOf] at e
  obtain ⟨d, e1, rfl⟩ := Option.map_eq_some_iff.mp e
  have hx' : (d.1.nm == x) = true := by
    have z := List.find?_some e1
    exact z
  have hx : d.1.nm = x := eq_of_beq hx'
  have hm : d ∈ HS := List.mem_of_find?_eq_some e1
  have ck := hC.h d hm
  cases ht : d.2 with
  | many t l =>
    rw [← ht]
    exact .inr (hear_ok2 X G hF hC hm hx ht ck)
  | told a b c =>
    unfold chkH at ck
    rw [ht] at ck
    rw [← ht]
    exact .inl (hear_ok1 X G hF hC hm hx ck)
  | nothing c =>
    unfold chkH at ck
    rw [ht] at ck
    rw [← ht]
    exact .inl (hear_ok1 X G hF hC hm hx ck)
set_option maxHeartbeats
      2000000 in
theorem prog_ok (X : K.In h) (G : h.Ns mainGlobals mg) (hF : Facts P K D B xs cn HS LM fs cs hs) (hC : Checks D B xs cn HS LM) (hT : ∀ p ∈ LM, LamX.TabB base mg p.2.1 p.2.2) (hZ : ∀ p ∈ xs.lz, ∃ t, mg p.1 = some (.int p.2 t)) :
    ∀ (k i : Nat) (d : DefD) (fd : FuncData), D[i]? = some d → Fun K d.nm d.nm d.st (fs.getD i 0) fd → FnG P w K mg base k (fs.getD i 0) fd (pars d) (spF K (atOf P w xs fs cs LM) d.fd.ps (callAt (D.map (·.fd)) lim k i)) := by
  intro k
  induction k using Nat.strongRecOn with
  | _ k ih =>
  intro i d fd hi F
  have hd := hC.d d (List.mem_of_getElem? hi)
  unfold chkD at hd
  simp only [Bool.and_eq_true, decide_eq_true_eq] at hd
  obtain ⟨⟨⟨h1, h2⟩, h3⟩, h4⟩ := hd
  have S := scopeB_ok h1
  have hl : (pars d).length = d.fd.ps := by
    unfold pars
    rw [List.length_take]
    omega
  cases k with
  | zero => exact ⟨fun vs H Q E h => by rw [h.1, hl], fun A outer s H args us vs Q E _ _ _ _ _ ⟨_, ρ, st, ts, _, _, o⟩ => o.elim⟩
  | succ k =>
    -- the defs, so deep
    have low : ∀ m, m < k + 1 → LowOk ((gtOf D B xs cn HS LM).of d.nm) (atOf P w xs fs cs LM) P w K mg base m (D.map (·.fd)).length (callAt (D.map (·.fd)) lim m) := fun m hm => by
      refine ⟨fun x f n e => ?_, fun f hf => ?_⟩
      · obtain ⟨d', hd', rfl, rfl⟩ := gt_fn (show (gtOf D B xs cn HS LM).fn x = some (f, n) from e)
        obtain ⟨g1, fd', F'⟩ := hF.d.get hd'
        exact ⟨PySem.W.mg_of X G g1, F'.kp, fd', pars d', F'.binds (hC.a d' (List.mem_of_getElem? hd')), ih m hm f d' fd' hd' F'⟩
      · have hf : f < D.length := by simpa using hf
        have hd' : D[f]? = some D[f] := List.getElem?_eq_getElem hf
        obtain ⟨g1, fd', F'⟩ := hF.d.get hd'
        refine ⟨_, fd', pars D[f], F'.kp, F'.binds (hC.a _ (List.mem_of_getElem? hd')), ih m hm f D[f] fd' hd' F', fun ts st hl => ?_⟩
        cases m with
        | zero => rfl
        | succ m =>
          have e : (D.map (·.fd))[f]? = some D[f].fd := by rw [List.getElem?_map, hd']; rfl
          rw [callAt_succ, e]
          simp only [runFd]
          exact if_neg hl
    refine fnG_of F S (fun vs H Q E h => h.1.trans hl.symm) fun cdv A outer s H vs Q E hcv hgd hr hsp => ?_
    obtain ⟨hv, ρ, st, ts, sr, rl, o⟩ := hsp
    have hP : (D.map (·.fd))[i]? = some d.fd := by rw [List.getElem?_map, hi]; rfl
    rw [callAt_succ, hP] at o
    simp only [runFd] at o
    obtain ⟨hts, o⟩ := o.iteN
    have C : CtxS ((gtOf D B xs cn HS LM).of d.nm) (atOf P w xs fs cs LM) (cfAt (D.map (·.fd)) lim k)
        (cxOf (L2.CX P w) P w K mg base d.N d.nm (defScope d.st) (fs.getD i 0) cdv A outer s H E) (fun cls dd _ H => E cls dd H) := by
      refine ⟨⟨rfl, S.nd, ?_, hgd, takes_of rfl rfl rfl rfl, fun x hx => ?_, fun x n e => ?_, fun x n f f2 e => ?_, fun x t e => ?_, fun x i b e => ?_, fun x f n e => ?_, fun f hf => ?_, fun z => ?_, fun x hk e => hear_ok X G hF hC (show (gtOf D B xs cn HS LM).hear x = some hk from e), fun _ z => ?_, ⟨rfl, rfl⟩⟩, passes_of rfl, rfl, rfl⟩
      · have := hr.un
        show (A.deeper _).units + 130 < cLine
        omega
      · exact PySem.W.mg_none_of X G (hF.b.get (List.contains_iff_mem.mp hx))
      · simp only [Gt.of, gtOf] at e
        obtain ⟨i, e1, e2⟩ := Option.bind_eq_some_iff.mp e
        obtain ⟨d', e3, e4⟩ := Option.bind_eq_some_iff.mp e2
        split at e4
        · rename_i hr'
          cases e4
          obtain ⟨z1, z2⟩ := hF.x.get e3
          obtain ⟨y1, y2, y3, y4⟩ := z2 hr'
          have en : d'.1 = x := by
            obtain ⟨hlt, h5, _⟩ := List.findIdx?_eq_some_iff_getElem.mp e1
            rw [List.getElem?_eq_getElem hlt] at e3
            cases e3
            exact eq_of_beq h5
          rw [en] at z1
          exact ⟨PySem.W.mg_of X G z1, y1, raises_own y2 y3, _, _, _, _, PySem.F.excBase_ValueError, y4⟩
        · cases e4
      · simp only [Gt.of, gtOf] at e
        obtain ⟨i, e1, e2⟩ := Option.bind_eq_some_iff.mp e
        obtain ⟨p, e3, e4⟩ := Option.map_eq_some_iff.mp e2
        cases e4
        obtain ⟨o, e5, e6⟩ := Option.bind_eq_some_iff.mp e3
        have e6 : o = some p := e6
        rw [e6] at e5
        obtain ⟨t1, t2, _⟩ := hF.t.get e5
        obtain ⟨hlt, h5, _⟩ := List.findIdx?_eq_some_iff_getElem.mp e1
        have z1 := (hF.x.get (List.getElem?_eq_getElem hlt)).1
        rw [eq_of_beq h5] at z1
        refine ⟨PySem.W.mg_of X G z1, t1 mg (PySem.W.mg_none_of X G t2), ?_⟩
        show (match xs.two[n]? with | some (some p) => [p.1, p.2] | _ => []) = [p.1, p.2]
        rw [e5]
      · simp only [Gt.of, gtOf] at e
        obtain ⟨d', e1, e2⟩ := Option.map_eq_some_iff.mp e
        have en' : (d'.1 == x) = true := by
          have z := List.find?_some e1
          exact z
        have en : d'.1 = x := eq_of_beq en'
        rcases hF.c.get (List.mem_of_find?_eq_some e1) with ⟨u, v, z1, z2, z3⟩ | ⟨i, z1, z2⟩
        · rw [en] at z1
          rw [e2] at z3
          exact ⟨u, v, PySem.W.mg_of X G z1, z2, z3 _⟩
        · obtain ⟨tt, z3⟩ := hZ _ z2
          rw [en] at z3
          rw [e2] at z1
          subst z1
          exact ⟨.int i tt, .int i, z3, ⟨tt, rfl⟩, fun ρ H => rfl⟩
      · exact ⟨_, exm_ok X G hF (show (gtOf D B xs cn HS LM).exm x i = some b from e)⟩
      · obtain ⟨a1, a2, fd', ps', a3, a4⟩ := (low k (Nat.lt_succ_self k)).1 x f n e
        exact ⟨a1, a2, k, fd', ps', a3, hr, a4⟩
      · obtain ⟨n, fd', ps', a1, a2, a3, a4⟩ := (low k (Nat.lt_succ_self k)).2 f hf
        exact ⟨n, k, fd', ps', a1, a2, hr, a3, a4⟩
      · have hk : 2 ≤ k := of_decide_eq_true z
        obtain ⟨k, rfl⟩ : ∃ m, k = m + 2 := ⟨k - 2, by omega⟩
        exact ⟨k, hr, low k (by omega)⟩
      · have z : (LM.any fun p => p.1 == d.nm) = true := z
        obtain ⟨p, hp, ep⟩ := List.any_eq_true.mp z
        have ep : p.1 = d.nm := eq_of_beq ep
        obtain ⟨⟨f, oc, od, fd2, osl, n1, n2, n3⟩, _, _⟩ := hF.l.get hp
        obtain ⟨g1, _⟩ := hF.d.get hi
        rw [ep, g1] at n1
        obtain ⟨oc', od', kV, dc, pm, an, cdv', ct, osl', rfl, lk, _⟩ := F.ex
        have ef : fs.getD i 0 = f := by cases n1; rfl
        rw [← ef, lk] at n2
        have e2 : fd2 = _ := (by cases n2; rfl : fd2 = PySem.W.fnOf d.nm d.nm (defArgs d.st) (defBody d.st) (defScope d.st) .none kV dc pm an cdv' ct)
        have tb := tb_ok (P := P) (w := w) (xs := xs) (fs := fs) (cs := cs) hC.t hp
        rw [ep] at tb
        have e5 : cdv = .ref p.2.1 := hcv.symm.trans ((congrArg FuncData.code e2).symm.trans n3)
        exact codOk_of (q := d.nm ++ (".<locals>." : Str)) e5 rfl (hT p hp) tb.1 tb.2
    refine ⟨_, chkSs_ok d.fd.body _ C ⟨rfl, rfl, fun _ _ => rfl⟩ S.kind h4, ρ, enter d.fd ts, st, envRep_start rl h3 h2 hts, sr, gives_out o⟩
end

end Lw
set_option Elab.async false
set_option linter.all false
set_option maxRecDepth 100000
/-! Lw22: the law's end, with tables of code objects. -/
namespace Lw
open PySem PySem.Spec L2 PyProof.Rows
/-- what a call of the law gives -/
def Good (s₁ : Shared) : Result → Shared → Prop := fun r s' => r = .ok (.ret (.bool true)) ∧ OldK s₁.heap s'.heap ∧ s'.os = s₁.os ∧ AllBare s'.gens
/-- the module of the built-in names -/
def BmAt (mg : Str → Option Value) (h : Heap) : Prop := ∃ (bm : Addr) (ob : Obj), mg "__builtins__" = some (.ref bm) ∧ bm ≠ builtinsNs ∧ h.get? bm = some ob ∧ ob.cls = .type "module" ∧ ob.dict = some builtinsNs ∧ ob.data = .plain
section
variable {P : Program} {w : World} {K : PySem.W.Frag} {mg mb : Str → Option Value} {k : Nat} {fa a : Addr} {fd : FuncData} {x : Str} {sp : Sp} {s₁ : Shared} {vs : List Value} {ns : List Int} {cs : List (Addr × Addr)}
theorem law_coreG (KX : K.In s₁.heap) (hns : s₁.heap.Ns mainGlobals mg) (hb : s₁.heap.Ns builtinsNs mb) (hbb : ∀ y : Str, y ≠ "__name__" → mb y = bootBuiltins y) (hlim : s₁.heap.NoLimit) (hg : s₁.gens = #[])
    (hT : ∀ p ∈ cs, s₁.heap.get? p.2 = some { cls := .none, data := .fields #[] }) (nT : ∀ p ∈ cs, K.lookup p.2 = none) (hC : ∀ p ∈ cs, PySem.W.CodeHd s₁.heap p.1 p.2) (hbm : BmAt mg s₁.heap)
    (ha : s₁.heap.get? a = some { cls := .type "list", data := .seq vs.toArray }) (hr : Room k callerA) (F : ∀ base : Heap, (∀ p ∈ cs, LamX.TabB base mg p.1 p.2) → FnG P w K mg base k fa fd [x] sp) (hbind : ∀ (s : Shared) (u : Value), BindsTo s fd ⟨[u], []⟩ [(x, u)])
    (H : Hp) (hH : ∀ p ∈ cs, H p.2 = some (.tbl #[])) (hO : ∀ b, H b = none ∨ b ∈ cs.map (·.2) ∨ ∃ o xs, H b = some (.frz o (.lst xs))) (hS : sp [.ref a] H (fun v _ => v = .bl true) fun _ _ _ => False) (ok : HOk P w H s₁.heap) (hA : ∀ b, H b ≠ none → b = a ∨ b ∈ cs.map (·.2)) (hK : H a ≠ none → K.lookup a = none) :
    codeAny (model P w) callerA (.call (.ref fa) ⟨[.ref a], []⟩) (Good s₁) s₁ := by
  have tab : ∀ b, b ∈ cs.map (·.2) → s₁.heap.get? b = some { cls := .none, data := .fields #[] } ∧ K.lookup b = none := fun b z => by
    obtain ⟨q, hq, rfl⟩ := List.mem_map.mp z
    exact ⟨hT q hq, nT q hq⟩
  have was : ∀ {b : Addr} {u : HO}, H b = some u → b = a ∨ b ∈ cs.map (·.2) := fun {b u} q => hA b fun z => by rw [q] at z; cases z
  have gone : ∀ {b : Addr} {o : Obj}, s₁.heap.get? b = some o → (∀ l n, o.data = .seq l n → False) → (o.data = .fields #[] → False) → H b = none := fun {b o} e n1 n2 => by
    rcases q : H b with _ | u
    · rfl
    · rcases was q with rfl | z
      · rw [ha] at e; cases e; exact (n1 _ _ rfl).elim
      · rw [(tab b z).1] at e; cases e; exact (n2 rfl).elim
  have free : ∀ {b : Addr} {o : Obj} {es : Array DictEntry} {ep : Nat}, s₁.heap.get? b = some o → o.data = .dict es ep → H b = none := fun {b o es ep} e d => gone e (fun l n z => by rw [d] at z; cases z) (fun z => by rw [d] at z; cases z)
  have seen : ∀ {b : Addr} {m : Str → Option Value}, s₁.heap.Ns b m → (hidT s₁.heap H).Ns b m := fun {b m} ⟨o, es, ep, e, d, r⟩ => ⟨o, es, ep, hidT_get e (free e d), d, r⟩
  have kin : K.In (hidT s₁.heap H) := fun b o e => hidT_get (KX b o e) (by
    rcases q : H b with _ | u
    · rfl
    · rcases was q with rfl | z
      · rw [hK fun z => by rw [q] at z; cases z] at e; cases e
      · rw [(tab b z).2] at e; cases e)
  have md : Mod K mg (hidT s₁.heap H) := ⟨kin, seen hns, ⟨mb, seen hb, hbb⟩, by obtain ⟨mc, h1, h2⟩ := hlim; exact ⟨mc, seen h1, h2⟩⟩
  have start : Env0 P w K mg (hidT s₁.heap H) callerA [] s₁ H :=
    { frames := rfl, mod := md, bs := fun b o e => of_hidT e, bsz := Nat.le_of_eq (hidT_size _ _), funs := trivial, frf := fun b z => (nomatch z), hok := ok, bare := .of_eq hg }
  have gdict : ∀ b, mainGlobals = b → ∀ o, s₁.heap.get? b = some o → ∃ es ep, o.data = .dict es ep := fun b eb o e => by
    obtain ⟨o', es, ep, e', d, _⟩ := hns
    rw [eb, e] at e'
    cases e'
    exact ⟨es, ep, d⟩
  have TB : ∀ p ∈ cs, LamX.TabB (hidT s₁.heap H) mg p.1 p.2 := fun p hp => by
    have ep := hT p hp
    have gp : mainGlobals ≠ p.2 := fun z => by
      obtain ⟨es, n, d⟩ := gdict _ z _ ep
      cases d
    refine ⟨?_, ?_, gp⟩
    · obtain ⟨o, us, file, tf, flags, tg, inF, text, tt, e1, r1, r2, r3, rest⟩ := hC p hp
      exact ⟨o, us, file, tf, flags, tg, inF, text, tt, hidT_get e1 (gone e1 (fun l n z => by rw [r2] at z; cases z) fun z => by rw [r2] at z; cases z; simp at r3), r1, r2, r3, rest⟩
    · obtain
            ⟨bm, ob, b1, b2, b3, b4, b5, b6⟩ := hbm
      refine ⟨bm, ob, b1, b2, fun q => ?_, fun q => ?_, hidT_get b3 (gone b3 (fun l n z => by rw [b6] at z; cases z) fun z => by rw [b6] at z; cases z), b4, b5, b6⟩
      · obtain ⟨es, n, d⟩ := gdict _ q.symm _ b3
        rw [b6] at d
        cases d
      · rw [q, ep] at b3
        cases b3
        cases b6
  refine codeAny_mono ((F _ TB).run callerA [] s₁ H ⟨[.ref a], []⟩ [.ref a] [.ref a] _ _ rfl hr start (hbind s₁ (.ref a)) (.cons rfl .nil) hS) fun r s' h => ?_
  match r, h with
  | .error e, h =>
    obtain
          ⟨_, _, _, _, _, _, _, _, _, _, _, _, z⟩ := h
    exact z.elim
  | .ok (.ret u), ⟨v, H', os, bare, un, ok', r', q⟩ =>
    cases (show v = .bl true from q)
    cases (show u = Value.bool true from r')
    have stay : ∀ b o, b ∉ cs.map (·.2) → s₁.heap.get? b = some o → s'.heap.get? b = some o := fun b o nb e => by
      rcases q : H b with _ | u
      · exact un.keep b o e q (fun z => (nomatch z)) (by simp)
      · rcases hO b with z | z | ⟨ob, xs, z⟩
        · rw [q] at z; cases z
        · exact (nb z).elim
        · have z2 := (ok' b _ (un.frzs b ob _ z)).1
          rw [(ok b _ z).1] at e
          cases e
          exact z2
    have more : ∀ p ∈ cs, ∃ vs : Array Value, s'.heap.get? p.2 = some { cls := .none, data := .fields vs } := fun p hp => by
      obtain ⟨vs, z⟩ := un.tbls _ _ (hH p hp)
      exact ⟨_, ok' _ _ z⟩
    have row : ∀ b, b ∈ cs.map (·.2) → ∃ p ∈ cs, p.2 = b := fun b z => by
      obtain ⟨p, hp, e⟩ := List.mem_map.mp z
      exact ⟨p, hp, e⟩
    refine
          ⟨rfl, ⟨fun b o e => ?_, fun b o e => ?_⟩, os, bare⟩
    · by_cases z : b ∈ cs.map (·.2)
      · obtain ⟨p, hp, rfl⟩ := row b z
        obtain ⟨vs, hm⟩ := more p hp
        rw [hT p hp] at e
        cases e
        exact .inr (.inl ⟨((hC p hp).tab (hT p hp)).isCodeTable, rfl, #[], vs, rfl, by simpa using hm⟩)
      · exact .inl (stay b o z e)
    · by_cases z : b ∈ cs.map (·.2)
      · obtain ⟨p, hp, rfl⟩ := row b z
        obtain ⟨vs, hm⟩ := more p hp
        exact ⟨_, hm⟩
      · exact ⟨o, stay b o z e⟩
  | .ok .next, h => exact h.elim
  | .ok .brk, h => exact h.elim
  | .ok .cont, h => exact h.elim
theorem law_goG (KX : K.In s₁.heap) (hns : s₁.heap.Ns mainGlobals mg) (hb : s₁.heap.Ns builtinsNs mb) (hbb : ∀ y : Str, y ≠ "__name__" → mb y = bootBuiltins y) (hlim : s₁.heap.NoLimit) (hg : s₁.gens = #[])
    (hT : ∀ p ∈ cs, s₁.heap.get? p.2 = some { cls := .none, data := .fields #[] }) (nT : ∀ p ∈ cs, K.lookup p.2 = none) (hC : ∀ p ∈ cs, PySem.W.CodeHd s₁.heap p.1 p.2) (hbm : BmAt mg s₁.heap)
    (ha : s₁.heap.get? a = some { cls := .type "list", data := .seq vs.toArray }) (hi : IntsAre vs ns) (hl : ns.length ≤ sizeLine) (hr : Room k callerA) (F : ∀ base : Heap, (∀ p ∈ cs, LamX.TabB base mg p.1 p.2) → FnG P w K mg base k fa fd [x] sp) (hbind : ∀ (s : Shared) (u : Value), BindsTo s fd ⟨[u], []⟩ [(x, u)])
    (hS : ∀ H : Hp, (∀ p ∈ cs, H p.2 = some (.tbl #[])) → FrS K H a (ns.map V.int) → sp [.ref a] H (fun v _ => v = .bl true) fun _ _ _ => False) : codeAny (model P w) callerA (.call (.ref fa) ⟨[.ref a], []⟩) (Good s₁) s₁ := by
  have rv := vals_ints hi
  have aT : a ∉ cs.map
        (·.2) := fun z => by
    obtain ⟨p, hp, e⟩ := List.mem_map.mp z
    have e2 := hT p hp
    rw [show p.2 = a from e, ha] at e2
    cases e2
  let G : Hp := fun b => if b ∈ cs.map (·.2) then some (.tbl #[]) else none
  have gT : ∀ b, b ∈ cs.map (·.2) → G b = some (.tbl #[]) := fun b z => if_pos z
  have gN : ∀ b, b ∉ cs.map (·.2) → G b = none := fun b z => if_neg z
  have gok : ∀ b u, G b = some u → (b ∈ cs.map (·.2)) ∧ u = .tbl #[] := fun b u z => by
    by_cases q : b ∈ cs.map (·.2)
    · rw [gT b q] at z; cases z; exact ⟨q, rfl⟩
    · rw [gN b q] at z; cases z
  have tbok : ∀ b, b ∈ cs.map (·.2) → s₁.heap.get? b = some { cls := .none, data := .fields #[] } := fun b z => by
    obtain ⟨p, hp, rfl⟩ := List.mem_map.mp z
    exact hT p hp
  have gP : ∀ p ∈ cs, p.2 ∈ cs.map (·.2) := fun p hp => List.mem_map.mpr ⟨p, hp, rfl⟩
  rcases hk : K.lookup a with _ | o
  · let H : Hp := fun b => if b = a then some (.frz { cls := .type "list", data := .seq vs.toArray } (.lst (ns.map V.int))) else G b
    have h1 : H a = some (.frz { cls := .type "list", data := .seq vs.toArray } (.lst (ns.map V.int))) := if_pos rfl
    have h2 : ∀ b, b ≠ a → H b = G b := fun b hb => if_neg hb
    have hp2 : ∀ p ∈ cs, H p.2 = some (.tbl #[]) := fun p hp => by
      rw [h2 _ fun z => aT (z ▸ gP p hp)]
      exact gT _ (gP p hp)
    refine law_coreG KX hns hb hbb hlim hg hT nT hC hbm ha hr F hbind H hp2 (fun b => ?_) (hS H hp2 (.inl ⟨_, h1⟩)) (fun b u z => ?_) (fun b z => ?_) fun _ => hk
    · by_cases q : b = a
      · exact .inr (.inr ⟨_, _, by rw [q]; exact h1⟩)
      · by_cases q2 : b ∈ cs.map (·.2)
        · exact .inr (.inl q2)
        · exact .inl ((h2 b q).trans (gN b q2))
    · by_cases q : b = a
      · subst q
        rw [h1] at z
        cases z
        exact
              ⟨ha, by rw [List.length_map]; exact hl, vs, _, rv, ha⟩
      · rw [h2 b q] at z
        obtain ⟨z1, rfl⟩ := gok b u z
        exact tbok b z1
    · by_cases q : b = a
      · exact .inl q
      · refine .inr (Classical.byContradiction fun z2 => z ?_)
        exact (h2 b q).trans (gN b z2)
  · have e := KX a o hk
    rw [ha] at e
    cases e
    refine law_coreG KX hns hb hbb hlim hg hT nT hC hbm ha hr F hbind G (fun p hp => gT _ (gP p hp)) (fun b => ?_) (hS _ (fun p hp => gT _ (gP p hp)) (.inr ⟨_, vs.toArray, _, hk, rfl, rfl, rfl, ?_, by simpa using rv⟩)) (fun b u z => ?_) (fun b z => ?_) fun z => absurd (gN a aT) z
    · by_cases q2 : b ∈ cs.map (·.2)
      · exact .inr (.inl q2)
      · exact .inl (gN b q2)
    · rw
            [List.size_toArray, hi.length]
      exact hl
    · obtain ⟨z1, rfl⟩ := gok b u z
      exact tbok b z1
    · exact .inr (Classical.byContradiction fun z2 => z (gN b z2))
end
/-- THE END: all that a law's row asks, from the facts of its text and the evaluator's answer -/
theorem walk_law {l : PySem.W.OpenLaw} {n : Nat} {q : Program} {loose : List Str} {XP : (Str → Option Value) → Heap → Prop} {YP : World → Heap → Prop} {dr : DefRec} {K : Params → PySem.W.Frag} {D : List DefD} {B : List Str} {xs : Xs} {cn : List (Str × T)} {HS : List (DefD × Hk)} {LM : List (Str × Addr × Addr)} {lim k L : Nat} {d : DefD} {x : Str}
    (hn : l.most = some n) (hn2 : n ≤ sizeLine) (hdf : dr.params.defaults = []) (hr : Room k callerA) (hL : D[L]? = some d) (hnm : d.nm = dr.name) (hpx : pars d = [x]) (hY : ∀ (w : World) (h : Heap), YP w h → (K w.params).In h) (hT : ∀ (w : World) (h : Heap), YP w h → ∀ p ∈ LM, h.get? p.2.2 = some { cls := .none, data := .fields #[] })
    (hZ : ∀ (mg : Str → Option Value) (h : Heap), XP mg h → ∀ p ∈ xs.lz, ∃ t, mg p.1 = some (.int p.2 t)) (hF : ∀ w : World, ∃ fs cs hs : List Addr, Facts l.prog (K w.params) D B xs cn HS LM fs cs hs) (hC : Checks D B xs cn HS LM)
    (law : ∀ ns : List Int, ns.length ≤ n → ∃ st, callAt (D.map (·.fd)) lim k L [.scr ns] [] = .ok (.bl true) st) :
    PySem.W.WalkO q loose XP YP l.row.toRowW dr [] (fun f vs => PySem.call f vs) := by
  refine Att.attach_callB hn hdf fun w s₀ s₁ mg mb fa o pm cd
        doc a vs ns G Y ho hd hcd hmg hobj hints hlen hbits hg => ?_
  have KX := hY w _ Y
  obtain ⟨fs, cs, hs, hFa⟩ := hF w
  obtain ⟨g1, fd, Fu⟩ := hFa.d.get hL
  have ef := PySem.W.mg_of KX G.T.g g1
  rw [hnm, hmg] at ef
  cases ef
  have tabs : ∀ p ∈ LM.map (·.2), ∃ q ∈ LM, p = q.2 := fun p hp => by
    obtain ⟨q, hq, e⟩ := List.mem_map.mp hp
    exact ⟨q, hq, e.symm⟩
  have F : ∀ base : Heap, (∀ p ∈ LM.map (·.2), LamX.TabB base mg p.1 p.2) → FnG l.prog w (K w.params) mg base k (fs.getD L 0) fd [x] (spF (K w.params) (atOf l.prog w xs fs cs LM) d.fd.ps (callAt (D.map (·.fd)) lim k L)) := fun base hTB => by
    have z := prog_ok (P := l.prog) (w := w) (mg := mg) (base := base) (lim := lim) KX G.T.g hFa hC (fun p hp => hTB p.2 (List.mem_map.mpr ⟨p, hp, rfl⟩)) (hZ mg _ G.X) k L d fd hL Fu
    rw [hpx] at z
    exact z
  have hps : d.fd.ps = 1 := by
    have c := hC.d d (List.mem_of_getElem? hL)
    unfold chkD at c
    simp only [Bool.and_eq_true, decide_eq_true_eq] at c
    have e : (pars d).length = 1 := by rw [hpx]; rfl
    unfold pars at e
    rw [List.length_take] at e
    have := c.1.1.2
    omega
  have hbind : ∀ (s : Shared) (u : Value), BindsTo s fd ⟨[u], []⟩ [(x, u)] := fun s u => by
    obtain ⟨oc, od, kV, dc, pm, an, cdv, ct, osl, rfl, _, _⟩ := Fu.ex
    have z := hC.a d (List.mem_of_getElem? hL) kV dc pm an cdv ct [u] (by rw [hpx]; rfl)
    rw [hpx] at z
    exact .of_eq z
  refine law_goG (cs := LM.map (·.2)) KX G.T.g G.T.b G.T.builtins G.T.nolimit hg (fun p hp => ?_) (fun p hp => ?_) (fun p hp => ?_) G.T.bmain hobj hints (Nat.le_trans hlen hn2) hr F hbind fun H hH fr => ?_
  · obtain ⟨q, hq, rfl⟩ := tabs p hp
    exact hT w _ Y q hq
  · obtain ⟨q, hq, rfl⟩ := tabs p hp
    exact (hFa.l.get hq).2.2
  · obtain ⟨q, hq, rfl⟩ := tabs p hp
    exact PySem.W.codeHd_of_K KX (hFa.l.get hq).2.1
  obtain ⟨st, e⟩ := law ns hlen
  refine ⟨hps.symm, ⟨[], []⟩, [], [.scr ns], ⟨rfl, List.nodup_nil, fun a z => (nomatch z), fun a z => (nomatch z), fun p z => ?_, fun l a c z => by simp at z⟩, ⟨.ref a, [], rfl, ⟨a, rfl, fr⟩, rfl⟩, ?_⟩
  · obtain ⟨q, hq, rfl⟩ := List.mem_map.mp z
    exact LamX.TabS.nil (hH q.2 (List.mem_map.mpr ⟨q, hq, rfl⟩))
  rw [e]
  exact fun ρ' H' m s v r => r
/-- a constant that the module worked out -/
theorem loose_int {p : Program} {lv : List (Str × PySem.W.WData)} {mg : Str → Option Value} {h : Heap} (x : PySem.W.XL p lv mg h) {n : Str} {i : Int} (hm : (n, PySem.W.WData.int i) ∈ lv) : ∃ t, mg n = some (.int i t) := by
  obtain ⟨v, e, r⟩ := x.2.val _ hm
  cases r
  exact ⟨_, e⟩
end Lw
set_option Elab.async false
set_option linter.all false
set_option maxRecDepth 100000
/-! LwZ: the facts of a class whose errors keep two fields, from the written part. -/
namespace Lw
open PySem PySem.Spec L2 PyProof.Rows
theorem refs_of_tail : ∀ l : List Value, PySem.W.excTail veB l = true → PySem.HandSPX.refsVE l = true := by
  intro l
  induction l with
  | nil => intro h; cases h
  | cons a r ih =>
    intro h
    rcases PySem.W.excTail_cases (a :: r) h with ⟨c, r', q, h'⟩ | q
    · obtain ⟨rfl, rfl⟩
            := List.cons.inj q
      exact ih h'
    · rw [q]
      decide +kernel
theorem oex_cls {K : PySem.W.Frag} {C : Addr} (q : PySem.W.excInitIn K C veB "ValueError.__new__" = true) (hd : PySem.W.hasDictIn K C = true) :
    ∃ nm q N bs bm sn sub ab col dd k0 k1 k2 k3 k5, K.lookup C = some (excClassObj nm q C N bs bm true sn sub ab col dd k0 k1 k2 k3 k5 "ValueError.__new__") ∧ PySem.HandSPX.refsVE bm = true := by
  unfold PySem.W.excInitIn at q
  split at q
  · rename_i dd cd sl ho
    split at q
    · rename_i C' bm
            k0 k1 k2 k3 n k5 hm hs
      simp only
            [Bool.and_eq_true, beq_iff_eq, Bool.not_eq_true'] at q
      obtain
            ⟨⟨⟨rfl, rfl⟩, hdel⟩, ht⟩ := q
      have hcl : PySem.W.clsIn K C' = some cd := by
        unfold PySem.W.clsIn
        rw [ho]
      have hh : cd.hasDict = true := by
        unfold PySem.W.hasDictIn at hd
        rw [hcl] at hd
        exact hd
      obtain ⟨nm, bs, mro, ns, qn, hdc, sn, sub, ab, col, del⟩ := cd
      dsimp only at hm hdel hh
      subst hm hdel hh
      have hsl : sl = #[k0, k1, k2, k3, some (.builtin "ValueError.__new__"), k5] := by
        obtain ⟨l⟩ := sl
        simp only at hs
        rw [hs]
      subst hsl
      exact ⟨nm, qn, ns, bs, bm, sn, sub, ab, col, dd, k0, k1, k2, k3, k5, ho, refs_of_tail _ ht⟩
    · cases q
  · cases q
/-- the suite of an __init__ that hands two values on and keeps them -/
def supChk (sf pa pb : Str) : List Stmt → Bool
  | [.Expr (.Call (.Attribute (.Call (.Name s _) [] [] _) i p2) [.Name a _, .Name b _] [] p5) _, .Assign [.Attribute (.Name x _) c _] (.Name d _) _, .Assign [.Attribute (.Name y _) e _] (.Name f _) _] =>
    decide (s = "super") && decide (i = "__init__") && decide (a = pa) && decide (b = pb) && decide (x = sf) && decide (c = pa) && decide (d = pa) && decide (y = sf) && decide (e = pb) && decide (f = pb) && (p2.endLine == p5.line)
  | _ => false
theorem supChk_ok {sf pa pb : Str} {body : List Stmt} (h : supChk sf pa pb body = true) : ∃ q : Nat → Pos, body = supB sf pa pb q ∧ ((q 2).endLine == (q 5).line) = true := by
  unfold supChk at h
  split at h
  · rename_i s p0 p1 i p2 a p3 b p4 p5 p6 x p7 c p8 d p9 p10 y p11 e p12 f p13 p14
    simp only
          [Bool.and_eq_true, decide_eq_true_eq] at h
    obtain ⟨⟨⟨⟨⟨⟨⟨⟨⟨⟨rfl, rfl⟩, rfl⟩, rfl⟩, rfl⟩, e1⟩, e2⟩, e3⟩, e4⟩, e5⟩, hl⟩ := h
    subst e1 e3 e4
    subst e2 e5
    exact ⟨fun n => [p0, p1, p2, p3, p4, p5, p6, p7, p8, p9, p10, p11, p12, p13, p14].getD n p0, rfl, hl⟩
  · cases h
/-- from the written part -/
theorem sup_mk {P : Program} {K : PySem.W.Frag} {C fI cc cda : Addr} {pa pb sf qual file : Str} {params : Arguments} {body : List Stmt} {scope : Scope} {dV kV doc pm ct oc ccl cl : Value} {an od cdd cld : Option Addr} {osl ccs csl : Array (Option Value)} {vs : Array Value} {tf : Tok} {ar : Arg}
    (q : PySem.W.excInitIn K C veB "ValueError.__new__" = true) (hd : PySem.W.hasDictIn K C = true) (sa : PySem.W.findIn K (.ref C) "__setattr__" = some (some (.builtin "object.__setattr__"))) (exC : PySem.W.subIn K (.ref C) (.type "BaseException") = some true) (tyC : PySem.W.typeIn K (.ref C) = some (.type "type")) (kC : PySem.W.keepIn K (.ref C) = true)
    (ga : PySem.W.findIn K (.ref C) "__getattribute__" = some (some (.builtin "BaseException.__getattribute__"))) (gg : PySem.W.findIn K (.ref C) "__getattr__" = some none)
    (ve : PySem.W.subIn K (.ref C) (.type "ValueError") = some true) (slf : PySem.W.mroIn K C (.ref C) = some true) (sup : PySem.W.ks_superIn K C C "__init__" = some (some (.builtin "ValueError.__init__"))) (tp : PySem.W.nsIn K cStatics "thirdparty.any" = some none)
    (ns : PySem.W.nsIn K mainGlobals "super" = some none) (fa : PySem.W.findIn K (.ref C) pa = some none) (fb : PySem.W.findIn K (.ref C) pb = some none)
    (iC : PySem.W.findIn K (.ref C) "__init__" = some (some (.ref fI))) (tI : PySem.W.typeIn K (.ref fI) = some (.type "function"))
    (lk : K.lookup fI = some ⟨oc, od, .func (PySem.W.ksFn "__init__" qual params body scope dV kV doc pm an (.ref cda) ct cc), osl⟩) (hcd : PySem.W.codeIn K (.ref cda) qual = true)
    (lc : K.lookup cda = some ⟨ccl, cdd, .fields vs, ccs⟩) (hvs : vs[2]? = some (.str file tf)) (hfile : ((P.main.file : Str) == file) = true) (lcc : K.lookup cc = some ⟨cl, cld, .cell (some (.ref C)), csl⟩)
    (hb : supChk sf pa pb body = true) (s1 : scope.names.lookup ("super" : Str) = some .globalImplicit) (s2 : scope.names.lookup ("__class__" : Str) = some .free) (s3 : scope.names.lookup sf = some .local) (s4 : scope.names.lookup pa = some .local) (s5 : scope.names.lookup pb = some .local)
    (s6 : scope.kind = .function) (s7 : scope.isCoroutine = false) (s8 : scope.isGenerator = false) (s9 : ∀ x ∈ scope.names, x.2 ≠ .cell) (hp : (params.posonlyargs ++ params.args).head? = some ar) (har : ar.arg = sf)
    (hbd : ∀ u v w : Value, bindArgs (PySem.W.ksFn "__init__" qual params body scope dV kV doc pm an (.ref cda) ct cc) ⟨[u, v, w], []⟩ = pure [(sf, u), (pa, v), (pb, w)])
    (ds : (decide (pa ≠ pb) && decide (sf ≠ pa) && decide (sf ≠ pb) && !(sf == ("__debug__" : Str)) && !(pa == ("__debug__" : Str)) && !(pb == ("__debug__" : Str))) = true) (htop : (P.main.scope.names.lookup ("super" : Str)).isSome = false) :
    (∀ mg : Str → Option Value, mg "super" = none → SupF P K mg C pa pb) ∧ PySem.W.nsIn K mainGlobals "super" = some none ∧ XfC K C := by
  simp only [Bool.and_eq_true, decide_eq_true_eq, Bool.not_eq_true'] at ds
  obtain ⟨⟨⟨⟨⟨d1, d2⟩, d3⟩, d4⟩, d5⟩, d6⟩ := ds
  obtain ⟨p, rfl, hl⟩ := supChk_ok hb
  refine ⟨fun mg hm => ⟨⟨oex_cls q hd, sa, exC, tyC, kC⟩, q, ve, slf, sup, tp, hm, fa, fb, d1, d5, d6, htop, fI, cc, cda, sf, qual, p, params, scope, dV, kV, doc, pm, ct, oc, ccl, cl, an, od, cdd, cld, osl, ccs, csl, vs, file, tf, ar, iC, tI, lk, hcd, lc, hvs, hfile, lcc, s1, s2, s3, s4, s5, s6, s7, s8, s9, hp, har, ?_, d2, d3, d4, hl⟩, ns, ⟨ga, gg, exC, hd⟩⟩
  refine L2.Binds.all fun us hus => ?_
  match us, hus with
  | [u, v, w], _ => exact hbd u v w
end Lw
set_option Elab.async false
set_option linter.all false
set_option maxRecDepth 100000
/-! LwP: plain tools: loops of the evaluator; data that is thin; _law_alike, _law_take. -/
namespace Lw
open PySem PySem.Spec PyProof.Rows

inductive All2 {α β : Type} (R : α → β → Prop) : List α → List β → Prop
  | nil : All2 R [] []
  | cons {x y xs ys} : R x y → All2 R xs ys → All2 R (x :: xs) (y :: ys)
/-! ### loops -/
theorem same_none {w : Walk} {k : Ik} {st : Store} (h : w.at_ = none) : w.same k st = true := by
  unfold Walk.same
  rw [h]
theorem loopL_pure {α : Type} {el : Env → Store → Res α} {tst : Env → Store → Res Bool} {tg : G} {w : Walk} {k : Ik} {env : Env} (hw : w.at_ = none) (f : T → α) (p : T → Bool) {st : Store} :
    ∀ xs : List T, (∀ x ∈ xs, ∃ env', setG tg x env = some env' ∧ tst env' st = .ok (p x) st ∧ (p x = true → el env' st = .ok (f x) st)) → loopL el tst tg w k env xs st = .ok ((xs.filter p).map f) st
  | [], _ => by simp [loopL, same_none hw]
  | x :: xs, h => by
    obtain ⟨env', e1, e2, e3⟩ := h x List.mem_cons_self
    have ih := loopL_pure (el := el) (tst := tst) (tg := tg) (k := k) (env := env) hw f p (st := st) xs fun y hy => h y (List.mem_cons_of_mem _ hy)
    simp only [loopL, same_none hw, if_true, e1, e2, Res.bind_ok]
    cases hp : p x with
    | true => simp [e3 hp, ih, hp]
    | false => simp [ih, hp]
theorem loopL_inv {α : Type} {el : Env → Store → Res α} {tst : Env → Store → Res Bool} {tg : G} {w : Walk} {k : Ik} {env : Env} (hw : w.at_ = none) (I : Store → Prop) (R : T → α → Prop)
    (h : ∀ x st, I st → ∀ P : Prop, P → (x ∈ w.items) → ∃ env' y st', setG tg x env = some env' ∧ tst env' st = .ok true st ∧ el env' st = .ok y st' ∧ I st' ∧ R x y) :
    ∀ (xs : List T) (st : Store), (∀ x ∈ xs, x ∈ w.items) → I st → ∃ ys st', loopL el tst tg w k env xs st = .ok ys st' ∧ I st' ∧ All2 R xs ys
  | [], st, _, i => ⟨[], st, by simp [loopL, same_none hw], i, .nil⟩
  | x :: xs, st, hs, i => by
    obtain ⟨env', y, st1, e1, e2, e3, i1, r⟩ := h x st i True trivial (hs x List.mem_cons_self)
    obtain ⟨ys, st2, e4, i2, rs⟩ := loopL_inv (el := el) (tst := tst) (tg := tg) (k := k) (env := env) hw I R h xs st1 (fun z hz => hs z (List.mem_cons_of_mem _ hz)) i1
    exact ⟨y :: ys, st2, by simp [loopL, same_none hw, e1, e2, e3, e4], i2, .cons r rs⟩
theorem forL_inv {body : Env → Store → SRes} {g : G} {w : Walk} {k : Ik} (hw : w.at_ = none) (I : Env → Store → Prop)
    (h : ∀ x env st, x ∈ w.items → I env st → ∃ env' env2 st2, setG g x env = some env' ∧ body env' st = .ok .nx env2 st2 ∧ I env2 st2) :
    ∀ (xs : List T) (env : Env) (st : Store), (∀ x ∈ xs, x ∈ w.items) → I env st → ∃ env2 st2, forL body g w k xs env st = .ok .nx env2 st2 ∧ I env2 st2
  | [], env, st, _, i => ⟨env, st, by simp [forL, same_none hw], i⟩
  | x :: xs, env, st, hs, i => by
    obtain ⟨env1, env2, st2, e1, e2, i2⟩ := h x env st (hs x List.mem_cons_self) i
    obtain ⟨env3, st3, e3, i3⟩ := forL_inv (body := body) (g := g) (k := k) hw I h xs env2 st2 (fun z hz => hs z (List.mem_cons_of_mem _ hz)) i2
    exact ⟨env3, st3, by simp [forL, same_none hw, e1, e2, e3], i3⟩

/-! ### thin data -/
mutual
def thin : T → Bool
  | .non | .bl _ => true
  | .int i => (decide (-1000 < i) && decide (i < 1000)) || decide (i = 1000000000) || decide (i = 999999999)
  | .str s => decide ((reprText s).length ≤ 100) && PyData.strOk s && PyData.strOk (reprText s)
  | .tup ts => thinL ts
  | .lst ts => thinL ts
  | _ => false
def thinL : List T → Bool
  | [] => true
  | t :: ts => thin t && thinL ts
end
mutual
def size : T → Nat
  | .tup ts => 1 + sizeL ts
  | .lst ts => 1 + sizeL ts
  | _ => 1
def sizeL : List T → Nat
  | [] => 0
  | t :: ts => size t + sizeL ts
end
mutual
def dep : T → Nat
  | .tup ts => 1 + depL ts
  | .lst ts => 1 + depL ts
  | _ => 1
def depL : List T → Nat
  | [] => 0
  | t :: ts => max (dep t) (depL ts)
end
mutual
theorem thin_res {st : Store} : ∀ {t : T}, thin t = true → res st t = some t
  | .non, _ => rfl
  | .bl _, _ => rfl
  | .int _, _ => rfl
  | .str _, _ => rfl
  | .tup ts, h => by simp only [res, thinL_res (ts := ts) (by simpa [thin] using h), Option.map_some]
  | .lst ts, h => by simp only [res, thinL_res (ts := ts) (by simpa [thin] using h), Option.map_some]
  | .dct _, h => by cases h
  | .loc _, h => by cases h
  | .fn _, h => by cases h
  | .act, h => by cases h
  | .scr _, h => by cases h
theorem thinL_res {st : Store} : ∀ {ts : List T}, thinL ts = true → resL st ts = some ts
  | [], _ => rfl
  | t :: ts, h => by
    simp only [thinL, Bool.and_eq_true] at h
    simp only [resL, thin_res h.1, thinL_res h.2]
end
/-- what thin data is in Python -/
structure Th (d : PyData) (n m : Nat) : Prop where
  sh : d.showable = true
  hd : d.hasDict = false
  cl : d.canLay0 = true
  dp : d.depth ≤ m
  ln : d.shown.length + 2 ≤ 110 * n
  so : PyData.strOk d.shown = true
structure ThL (ds : List PyData) (n m : Nat) : Prop where
  sh : PyData.showableAll ds = true
  hd : PyData.hasDictAll ds = false
  cl : PyData.canLayAll0 ds = true
  dp : PyData.depthAll ds ≤ m
  ln : ((PyData.shownAll ds).map (·.length)).sum + 2 * ds.length ≤ 110 * n
  so : ∀ t ∈ PyData.shownAll ds, PyData.strOk t = true
theorem strOk_app {a b : Str} (h1 : PyData.strOk a = true) (h2 : PyData.strOk b = true) : PyData.strOk (a ++ b) = true := by
  show (a.cps ++ b.cps).all _ = true
  rw [Array.all_append]
  exact Bool.and_eq_true_iff.mpr ⟨h1, h2⟩
theorem strOk_from : ∀ {ts : List Str} (k : Nat) {acc : Str}, PyData.strOk acc = true → (∀ t ∈ ts, PyData.strOk t = true) → PyData.strOk (textFrom k acc ts) = true
  | [], _, _, h, _ => h
  | t :: ts, k, acc, h, hs => by
    unfold textFrom
    refine strOk_from (k + 1) (strOk_app (strOk_app h ?_) (hs t List.mem_cons_self)) fun u hu => hs u (List.mem_cons_of_mem _ hu)
    split <;> decide +kernel
theorem strOk_join : ∀ {ts : List Str}, (∀ t ∈ ts, PyData.strOk t = true) → PyData.strOk (Str.join ", " ts) = true
  | [], _ => by decide +kernel
  | [t], h => h t List.mem_cons_self
  | t :: u :: ts, h => strOk_app (strOk_app (h t List.mem_cons_self) (by decide +kernel)) (strOk_join fun v hv => h v (List.mem_cons_of_mem _ hv))
theorem strOk_list {ts : List Str} (h : ∀ t ∈ ts, PyData.strOk t = true) : PyData.strOk (listText ts) = true := strOk_app (strOk_from 0 (by decide +kernel) h) (by decide +kernel)
theorem strOk_tup {ts : List Str} (h : ∀ t ∈ ts, PyData.strOk t = true) : PyData.strOk (tupleText ts) = true := by
  unfold tupleText
  refine strOk_app (strOk_app (by decide +kernel) (strOk_join h)) ?_
  split <;> decide +kernel
theorem small_len (i : Int) (h1 : -1000 < i) (h2 : i < 1000) : ((toString i : Str).length ≤ 100 ∧ PyData.strOk (toString i : Str) = true) ∧ decide (i.natAbs.log2 < 1920) = true := by
  have key : ∀ n : Fin 1000, ((toString (Int.ofNat n.val) : Str).length ≤ 100 ∧ PyData.strOk (toString (Int.ofNat n.val) : Str) = true) ∧ ((toString (-(Int.ofNat n.val)) : Str).length ≤ 100 ∧ PyData.strOk (toString (-(Int.ofNat n.val)) : Str) = true) := by decide +kernel
  refine ⟨?_, ?_⟩
  · rcases Int.eq_nat_or_neg i with ⟨n, e | e⟩
    · have := (key ⟨n, by omega⟩).1
      rw [e]
      exact this
    · have := (key ⟨n, by omega⟩).2
      rw [e]
      exact this
  · have : i.natAbs < 1000 := by omega
    by_cases h0 : i.natAbs = 0
    · rw [h0]; decide
    · have : i.natAbs.log2 < 10 := (Nat.log2_lt h0).mpr (by omega)
      exact
            decide_eq_true (by omega)
mutual
theorem thin_py : ∀ {t : T}, thin t = true → ∃ d, toPy t = some d ∧ Th d (size t) (dep t)
  | .non, _ => ⟨_, rfl, rfl, rfl, rfl, Nat.zero_le _, by decide, by decide +kernel⟩
  | .bl b, _ => ⟨_, rfl, rfl, rfl, rfl, Nat.zero_le _, by cases b <;> decide, by cases b <;> decide +kernel⟩
  | .int i, h => by
    simp only [thin, Bool.or_eq_true, Bool.and_eq_true, decide_eq_true_eq] at h
    obtain ⟨h1, h2⟩ : ((toString i : Str).length ≤ 100 ∧ PyData.strOk (toString i : Str) = true) ∧ decide (i.natAbs.log2 < 1920) = true := by
      rcases h with (h | h) | h
      · exact small_len i h.1 h.2
      · subst h; decide +kernel
      · subst h; decide +kernel
    exact ⟨_, rfl, h2, rfl, rfl, Nat.zero_le _, Nat.le_trans (Nat.add_le_add_right h1.1 2) (by simp [size]), h1.2⟩
  | .str s, h => by
    simp only [thin, Bool.and_eq_true, decide_eq_true_eq] at h
    exact ⟨_, rfl, rfl, rfl, h.1.2, Nat.zero_le _, Nat.le_trans (Nat.add_le_add_right h.1.1 2) (by simp [size]), h.2⟩
  | .tup ts, h => by
    obtain ⟨ds, e, q⟩ := thinL_py (ts := ts) (by simpa [thin] using h)
    refine ⟨.tuple ds, by simp only [toPy, e, Option.map_some], q.sh, q.hd, q.cl, ?_, ?_, strOk_tup q.so⟩
    · show PyData.depthAll ds + 1 ≤ dep (.tup ts)
      have := q.dp
      simp only [dep]
      omega
    · have l := tupleText_len_le (PyData.shownAll ds)
      have e2 : (PyData.shownAll ds).length = ds.length := shownAll_len ds
      have := q.ln
      show (tupleText (PyData.shownAll ds)).length + 2 ≤ 110 * size (.tup ts)
      simp only [size]
      omega
  | .lst ts, h => by
    obtain ⟨ds, e, q⟩ := thinL_py (ts := ts) (by simpa [thin] using h)
    refine ⟨.list ds, by simp only [toPy, e, Option.map_some], q.sh, q.hd, q.cl, ?_, ?_, strOk_list q.so⟩
    · show PyData.depthAll ds + 1 ≤ dep (.lst ts)
      have := q.dp
      simp only [dep]
      omega
    · have l := listText_len_le (PyData.shownAll ds)
      have e2 : (PyData.shownAll ds).length = ds.length := shownAll_len ds
      have := q.ln
      show (listText (PyData.shownAll ds)).length + 2 ≤ 110 * size (.lst ts)
      simp only [size]
      omega
  | .dct _, h => by cases h
  | .loc _, h => by cases h
  | .fn _, h => by cases h
  | .act, h => by cases h
  | .scr _, h => by cases h
theorem thinL_py : ∀ {ts : List T}, thinL ts = true → ∃ ds, toPyL ts = some ds ∧ ThL ds (sizeL ts) (depL ts)
  | [], _ => ⟨[], rfl, rfl, rfl, rfl, Nat.le_refl _, by simp [PyData.shownAll], fun t ht => by simp [PyData.shownAll] at ht⟩
  | t :: ts, h => by
    simp only [thinL, Bool.and_eq_true] at h
    obtain ⟨d, e, q⟩ := thin_py h.1
    obtain ⟨ds, es, qs⟩ := thinL_py h.2
    refine ⟨d :: ds, by simp only [toPyL, e, es], ?_, ?_, ?_, ?_, ?_, fun u hu => ?_⟩
    · simp [PyData.showableAll, q.sh, qs.sh]
    · simp [PyData.hasDictAll, q.hd, qs.hd]
    · simp [PyData.canLayAll0, q.cl, qs.cl]
    · have := q.dp; have := qs.dp
      simp only [PyData.depthAll, depL]
      omega
    · have := q.ln; have := qs.ln; have := size_pos t
      simp only [PyData.shownAll, List.map_cons, List.sum_cons, sizeL, List.length_cons]
      omega
    · rcases List.mem_cons.mp (show u ∈ d.shown :: PyData.shownAll ds from hu) with rfl | hu
      · exact q.so
      · exact qs.so u hu
theorem shownAll_len : ∀ ds : List PyData, (PyData.shownAll ds).length = ds.length
  | [] => rfl
  | d :: ds => by simp [PyData.shownAll, shownAll_len ds]
theorem size_pos : ∀ t : T, 1 ≤ size t
  | .tup ts => by simp [size]
  | .lst ts => by simp [size]
  | .non => Nat.le_refl _
  | .bl _ => Nat.le_refl _
  | .int _ => Nat.le_refl _
  | .str _ => Nat.le_refl _
  | .dct _ => Nat.le_refl _
  | .loc _ => Nat.le_refl _
  | .fn _ => Nat.le_refl _
  | .act => Nat.le_refl _
  | .scr _ => Nat.le_refl _
end
end Lw
set_option Elab.async false
set_option linter.all false
set_option maxRecDepth 100000
/-! LwB: the evaluator, step by step. -/
namespace Lw
open PySem PySem.Spec PyProof.Rows
section
variable {c : Cf} {env env' : Env} {st st1 st2 st3 st4 : Store} {a b d e : E} {es : List E} {x y z t : T} {ts us : List T} {r : Res T} {k : Bool}
theorem B_var {i : Nat} (h : env[i]? = some (some t)) : evE c (.var i) env st = .ok t st := by simp only [evE, h]
theorem B_lit : evE c (.lit t) env st = .ok t st := by simp only [evE]
theorem B_nil : evEs c [] env st = .ok [] st := by simp only [evEs]
theorem B_cons (h : evE c e env st = .ok t st1) (hs : evEs c es env st1 = .ok ts st2) : evEs c (e :: es) env st = .ok (t :: ts) st2 := by simp only [evEs, h, hs, Res.bind_ok]
theorem B_one (h : evE c e env st = .ok t st1) : evEs c [e] env st = .ok [t] st1 := B_cons h B_nil
theorem B_two {e2 : E} {t2 : T} (h : evE c e env st = .ok t st1) (h2 : evE c e2 env st1 = .ok t2 st2) : evEs c [e, e2] env st = .ok [t, t2] st2 := B_cons h (B_one h2)
theorem B_tup (h : evEs c es env st = .ok ts st1) : evE c (.tup es) env st = .ok (.tup ts) st1 := by simp only [evE, h, Res.bind_ok]
theorem B_lstT (h : evEs c es env st = .ok ts st1) : evE c (.lst true es) env st = .ok (.lst ts) st1 := by simp only [evE, h, Res.bind_ok]; rfl
theorem B_lstF (h : evEs c es env st = .ok ts st1) : evE c (.lst false es) env st = .ok (.loc st1.length) (st1 ++ [.lst ts]) := by simp only [evE, h, Res.bind_ok]; rfl
theorem B_bin {o : Bop} (ha : evE c a env st = .ok x st1) (hb : evE c b env st1 = .ok y st2) (h : binE o x y st2 = r) : evE c (.bin o a b) env st = r := by simp only [evE, ha, hb, Res.bind_ok, h]
theorem B_neg {i : Int} (ha : evE c a env st = .ok (.int i) st1) : evE c (.neg a) env st = .ok (.int (-i)) st1 := by simp only [evE, ha, Res.bind_ok]
theorem B_not (ha : evE c a env st = .ok (.bl k) st1) : evE c (.not a) env st = .ok (.bl (!k)) st1 := by simp only [evE, ha, Res.bind_ok]
theorem B_andT (ha : evE c a env st = .ok (.bl true) st1) (hb : evE c b env st1 = r) : evE c (.and a b) env st = r := by simp only [evE, ha, hb, Res.bind_ok]
theorem B_andF (ha : evE c a env st = .ok (.bl false) st1) : evE c (.and a b) env st = .ok (.bl false) st1 := by simp only [evE, ha, Res.bind_ok]
theorem B_and {j : Bool} (ha : evE c a env st = .ok (.bl j) st) (hb : j = true → evE c b env st = .ok (.bl k) st) : evE c (.and a b) env st = .ok (.bl (j && k)) st := by
  cases j with
  | true => exact B_andT ha (hb rfl)
  | false => exact B_andF ha
theorem B_orT (ha : evE c a env st = .ok (.bl true) st1) : evE c (.or a b) env st = .ok (.bl true) st1 := by simp only [evE, ha, Res.bind_ok]
theorem B_orF (ha : evE c a env st = .ok (.bl false) st1) (hb : evE c b env st1 = r) : evE c (.or a b) env st = r := by simp only [evE, ha, hb, Res.bind_ok]
theorem B_cmp {o : Cop} (ha : evE c a env st = .ok x st1) (hb : evE c b env st1 = .ok y st2) (h : cmpE o x y st2 = some k) : evE c (.cmp o a b) env st = .ok (.bl k) st2 := by simp only [evE, ha, hb, Res.bind_ok, h, Option.map_some, Res.of_some]
theorem B_chain {o p : Cop} (ha : evE c a env st = .ok x st1) (hb : evE c b env st1 = .ok y st2) (h : cmpE o x y st2 = some true) (hd : evE c d env st2 = .ok z st3) (h2 : cmpE p y z st3 = some k) : evE c (.chain o p a b d) env st = .ok (.bl k) st3 := by
  simp only [evE, ha, hb, hd, Res.bind_ok, h, h2, Option.map_some, Res.of_some]
theorem B_iteT (ht : evE c d env st = .ok (.bl true) st1) (ha : evE c a env st1 = r) : evE c (.ite d a b) env st = r := by simp only [evE, ht, ha, Res.bind_ok]
theorem B_iteF (ht : evE c d env st = .ok (.bl false) st1) (hb : evE c b env st1 = r) : evE c (.ite d a b) env st = r := by simp only [evE, ht, hb, Res.bind_ok]
theorem B_call {f : Nat} {iso : Bool} (h : evEs c es env st = .ok ts st1) (hc : callE c f iso ts st1 = r) : evE c (.call f iso es) env st = r := by simp only [evE, h, Res.bind_ok, hc]
theorem B_bi {o : Bi} (h : evEs c es env st = .ok ts st1) (hb : biE o ts st1 = r) : evE c (.bi o es) env st = r := by simp only [evE, h, Res.bind_ok, hb]
theorem B_bi1 {o : Bi} (h : evE c a env st = .ok x st1) (hb : biE o [x] st1 = r) : evE c (.bi o [a]) env st = r := B_bi (B_one h) hb
theorem B_idx (ha : evE c a env st = .ok x st1) (hb : evE c b env st1 = .ok y st2) (h : idxE x y st2 = some z) : evE c (.idx a b) env st = .ok z st2 := by simp only [evE, ha, hb, Res.bind_ok, h, Res.of_some]
theorem B_oN : evO c none env st = .ok none st := by simp only [evO]
theorem B_oS {i : Int} (h : evE c e env st = .ok (.int i) st1) : evO c (some e) env st = .ok (some i) st1 := by simp only [evO, h, Res.bind_ok]
theorem B_sli {lo hi : Option E} {l h : Option Int} (ha : evE c a env st = .ok x st1) (hl : evO c lo env st1 = .ok l st2) (hh : evO c hi env st2 = .ok h st3) (hs : sliE x l h st3 = r) : evE c (.sli a lo hi) env st = r := by simp only [evE, ha, hl, hh, Res.bind_ok, hs]
theorem B_mt {m : Mt} (ho : evE c a env st = .ok x st1) (hk : mok m (kindOf st1 x) = true) (h : evEs c es env st1 = .ok ts st2) (hk2 : kindOf st2 x = kindOf st1 x) (hm : mtE m x ts st2 = r) : evE c (.mt m a es) env st = r := by
  simp only [evE, ho, Res.bind_ok, if_pos hk, h, if_pos hk2, hm]
theorem B_comp {fz : Bool} {tg : G} {ik : Ik} {its ifs : List E} {own : List Nat} {w : Walk} {vs : List T} (h : evEs c its env st = .ok vs st1) (hw : walkOf st1 ik vs = some w) (hl : w.items.length ≤ big)
    (hp : loopL (fun env st => evE c e env st) (fun env st => evTs c ifs env st) tg w ik (wipeT env own) w.items st1 = .ok ts st2) (hm : mkL fz ts st2 = r) : evE c (.comp fz e tg ik its ifs own) env st = r := by
  simp only [evE, h, Res.bind_ok, hw, if_pos hl, hp, Res.noexc_ok, hm]
theorem B_dcomp {fz : Bool} {tg : G} {ik : Ik} {its ifs : List E} {own : List Nat} {w : Walk} {vs : List T} {kvs : List (T × T)} (h : evEs c its env st = .ok vs st1) (hw : walkOf st1 ik vs = some w) (hl : w.items.length ≤ big)
    (hp : loopL (fun env st => (evE c a env st).bind fun x st => (evE c b env st).bind fun y st => if keyOk x then .ok (x, y) st else .no) (fun env st => evTs c ifs env st) tg w ik (wipeT env own) w.items st1 = .ok kvs st2) (hm : mkD fz (dmerge [] kvs) st2 = r) : evE c (.dcomp fz a b tg ik its ifs own) env st = r := by
  simp only [evE, h, Res.bind_ok, hw, if_pos hl, hp, Res.noexc_ok, hm]
theorem B_hear {hk : Hk} (ht : c.top = true) (h : hearR hk (evE c.dn e env st) = r) : evE c (.hear hk e) env st = r := by simp only [evE, if_pos ht, h]
theorem B_pnil : evPs c [] env st = .ok [] st := by simp only [evPs]
theorem B_pcons {ps : List (E × E)} {kvs : List (T × T)} (ha : evE c a env st = .ok x st1) (hb : evE c b env st1 = .ok y st2) (hs : evPs c ps env st2 = .ok kvs st3) : evPs c ((a, b) :: ps) env st = .ok ((x, y) :: kvs) st3 := by simp only [evPs, ha, hb, hs, Res.bind_ok]
theorem B_dct {fz : Bool} {ps : List (E × E)} {kvs : List (T × T)} (h : evPs c ps env st = .ok kvs st1) (hk : kvs.all (fun p => keyOk p.1) = true) (hm : mkD fz (dmerge [] kvs) st1 = r) : evE c (.dct fz ps) env st = r := by simp only [evE, h, Res.bind_ok, if_pos hk, hm]
theorem B_t0 : evTs c [] env st = .ok true st := by simp only [evTs]
theorem B_t1 (h : evE c e env st = .ok (.bl k) st1) : evTs c [e] env st = .ok k st1 := by
  simp only [evTs, h, Res.bind_ok]
  cases k <;> rfl
/-! statements -/
variable {s : S} {ss : List S} {q : SRes}
theorem S_cons (h : evS c s env st = .ok .nx env' st1) (hs : evSs c ss env' st1 = q) : evSs c (s :: ss) env st = q := by simp only [evSs, h, hs]
theorem S_nil : evSs c [] env st = .ok .nx env st := by simp only [evSs]
theorem S_stop {v : T} (h : evS c s env st = .ok (.rt v) env' st1) : evSs c (s :: ss) env st = .ok (.rt v) env' st1 := by simp only [evSs, h]
theorem S_exc {v : Exc} (h : evS c s env st = .exc v env' st1) : evSs c (s :: ss) env st = .exc v env' st1 := by simp only [evSs, h]
theorem S_set {i : Nat} (h : evE c e env st = .ok t st1) (hi : Nat.blt i env.length = true) : evS c (.set i e) env st = .ok .nx (env.set i (some t)) st1 := by
  have hi : i < env.length := Nat.blt_eq.mp hi
  simp only [evS, h, SRes.of_ok, if_pos hi]
theorem S_ret (h : evE c e env st = .ok t st1) : evS c (.ret (some e)) env st = .ok (.rt t) env st1 := by simp only [evS, h, SRes.of_ok]
theorem S_expr (h : evE c e env st = .ok t st1) : evS c (.expr e) env st = .ok .nx env st1 := by simp only [evS, h, SRes.of_ok]
theorem S_exprX {v : Exc} (h : evE c e env st = .exc v st1) : evS c (.expr e) env st = .exc v env st1 := by simp only [evS, h, SRes.of_exc]
theorem S_setX {v : Exc} {i : Nat} (h : evE c e env st = .exc v st1) : evS c (.set i e) env st = .exc v env st1 := by simp only [evS, h, SRes.of_exc]
theorem S_asg {g : G} (h : evE c e env st = .ok t st1) (hg : setG g t env = some env') : evS c (.asg g e) env st = .ok .nx env' st1 := by simp only [evS, h, SRes.of_ok, hg]
theorem S_par {is : List Nat} (h : evEs c es env st = .ok ts st1) (hg : setMany is ts env = some env') : evS c (.par is es) env st = .ok .nx env' st1 := by simp only [evS, h, SRes.of_ok, hg]
theorem S_seti (hv : evE c d env st = .ok z st1) (ha : evE c a env st1 = .ok x st2) (hb : evE c b env st2 = .ok y st3) (h : setiE x y z st3 = some st4) : evS c (.seti a b d) env st = .ok .nx env st4 := by simp only [evS, hv, ha, hb, SRes.of_ok, h]
theorem S_augi {o : Bop} {w u : T} {st5 : Store} (ha : evE c a env st = .ok x st1) (hb : evE c b env st1 = .ok y st2) (hg : getiE x y st2 = some z) (hv : evE c d env st2 = .ok w st3) (ho : augE o z w st3 = .ok u st4) (h : setiE x y u st4 = some st5) : evS c (.augi a b o d) env st = .ok .nx env st5 := by
  simp only [evS, ha, hb, SRes.of_ok, hg, hv, ho, h]
theorem S_iteT {u v : List S} (h : evE c e env st = .ok (.bl true) st1) (hs : evSs c u env st1 = q) : evS c (.ite e u v) env st = q := by simp only [evS, h, SRes.of_ok, hs]
theorem S_iteF {u v : List S} (h : evE c e env st = .ok (.bl false) st1) (hs : evSs c v env st1 = q) : evS c (.ite e u v) env st = q := by simp only [evS, h, SRes.of_ok, hs]
theorem S_raise {n : Nat} : evS c (.raise n []) env st = .exc ⟨n, []⟩ env st := by simp [evS, evEs]
theorem S_raise2 {n : Nat} (ht : c.top = true) (h : evEs c es env st = .ok ts st1) : evS c (.raise n es) env st = .exc ⟨n, ts⟩ env st1 := by simp [evS, ht, h]
theorem S_for {g : G} {ik : Ik} {its : List E} {bd : List S} {w : Walk} {vs : List T} (h : evEs c its env st = .ok vs st1) (hw : walkOf st1 ik vs = some w) (hl : forL (fun env st => evSs c bd env st) g w ik w.items env st1 = q) : evS c (.fr g ik its bd) env st = q := by simp only [evS, h, SRes.of_ok, hw, hl]
theorem S_whl {bd : List S} (h : whlL (fun env st => evE c e env st) (fun env st => evSs c bd env st) c.lim env st = q) : evS c (.whl e bd) env st = q := by simp only [evS, h]
/-- a def called -/
theorem C_run {P : List Fd} {lim n f : Nat} {fd : Fd} {args : List T} (hP : P[f]? = some fd) (hl : args.length = fd.ps) (h : gives (evSs (cfAt P lim n) fd.body (enter fd args) st) = r) : callAt P lim (n + 1) f args st = r := by
  rw [callAt_succ, hP]
  simp only [runFd, if_pos hl, h]
theorem C_rt {P : List Fd} {lim n f : Nat} {fd : Fd} {args : List T} {v : T} (hP : P[f]? = some fd) (hl : args.length = fd.ps) (h : evSs (cfAt P lim n) fd.body (enter fd args) st = .ok (.rt v) env' st1) : callAt P lim (n + 1) f args st = .ok v st1 := C_run hP hl (by rw [h]; rfl)
theorem C_nx {P : List Fd} {lim n f : Nat} {fd : Fd} {args : List T} (hP : P[f]? = some fd) (hl : args.length = fd.ps) (h : evSs (cfAt P lim n) fd.body (enter fd args) st = .ok .nx env' st1) : callAt P lim (n + 1) f args st = .ok .non st1 := C_run hP hl (by rw [h]; rfl)
theorem C_exc {P : List Fd} {lim n f : Nat} {fd : Fd} {args : List T} {v : Exc} (hP : P[f]? = some fd) (hl : args.length = fd.ps) (h : evSs (cfAt P lim n) fd.body (enter fd args) st = .exc v env' st1) : callAt P lim (n + 1) f args st = .exc v st1 := C_run hP hl (by rw [h]; rfl)
theorem C_iso {f : Nat} {u : T} (h1 : resL st ts = some ts) (h2 : c.cf f ts [] = .ok x st1) (h3 : res st1 x = some u) : callE c f true ts st = .ok u st := by
  simp only [callE, h1, h2, h3]
  exact if_pos (.inl trivial)
theorem C_isoF {f : Nat} {u : T} (h1 : resL st ts = some us) (h2 : c.cf f us [] = .ok x st1) (h3 : res st1 x = some u) (h4 : flat u = true) : callE c f true ts st = .ok u st := by
  simp only [callE, h1, h2, h3]
  exact if_pos (.inr h4)
theorem C_isoX {f n : Nat} (h1 : resL st ts = some ts) (h2 : c.cf f ts [] = .exc ⟨n, []⟩ st1) : callE c f true ts st = .exc ⟨n, []⟩ st := by
  simp only [callE, h1, h2, resL]
  exact if_pos (.inl trivial)
theorem C_isoXf {f : Nat} {v : Exc} {fs : List T} (h1 : resL st ts = some ts) (h2 : c.cf f ts [] = .exc v st1) (h3 : resL st1 v.fs = some fs) : callE c f true ts st = .exc ⟨v.cls, fs⟩ st := by
  simp only [callE, h1, h2, h3]
  simp
theorem C_own {f : Nat} (h : c.cf f ts st = r) : callE c f false ts st = r := h
theorem F_nil {body : Env → Store → SRes} {g : G} {w : Walk} {ik : Ik} (hw : w.at_ = none) : forL body g w ik [] env st = .ok .nx env st := by simp only [forL, same_none hw, if_true]
theorem F_cons {body : Env → Store → SRes} {g : G} {w : Walk} {ik : Ik} {env2 : Env} (hw : w.at_ = none) (hg : setG g x env = some env') (hb : body env' st = .ok .nx env2 st1) : forL body g w ik (x :: ts) env st = forL body g w ik ts env2 st1 := by
  simp only [forL, same_none hw, if_true, hg, hb]
theorem W_no {test : Env → Store → Res T} {body : Env → Store → SRes} {n : Nat} (h : test env st = .ok (.bl false) st1) : whlL test body (n + 1) env st = .ok .nx env st1 := by simp only [whlL, h, SRes.of_ok]
theorem W_yes {test : Env → Store → Res T} {body : Env → Store → SRes} {n : Nat} {env2 : Env} (h : test env st = .ok (.bl true) st1) (hb : body env st1 = .ok .nx env2 st2) : whlL test body (n + 1) env st = whlL test body n env2 st2 := by simp only [whlL, h, SRes.of_ok, hb]
theorem L_cons {α : Type} {el : Env → Store → Res α} {tst : Env → Store → Res Bool} {tg : G} {w : Walk} {ik : Ik} {y : α} {ys : List α} (hw : w.at_ = none) (hg : setG tg x env = some env') (ht : tst env' st = .ok true st1) (he : el env' st1 = .ok y st2) (hs : loopL el tst tg w ik env ts st2 = .ok ys st3) :
    loopL el tst tg w ik env (x :: ts) st = .ok (y :: ys) st3 := by simp only [loopL, same_none hw, if_true, hg, ht, he, hs, Res.bind_ok]
theorem S_app {s1 s2 : List S} {q : SRes} (h : evSs c s1 env st = .ok .nx env' st1) (hs : evSs c s2 env' st1 = q) : evSs c (s1 ++ s2) env st = q := by
  induction s1 generalizing env st with
  | nil => simp only [evSs] at h; cases h; exact hs
  | cons s s1 ih =>
    simp only [List.cons_append, evSs] at h ⊢
    cases e : evS c s env st with
    | ok f env1 st1 => cases f <;> rw [e] at h <;> first | exact ih h | cases h
    | exc x env1 st1 => rw [e] at h; cases h
    | no => rw [e] at h; cases h
end
end Lw
set_option Elab.async false
set_option linter.all false
set_option maxRecDepth 100000
/-! LwG: loops that stop at the first item of a kind. -/
namespace Lw
open PySem PySem.Spec PyProof.Rows
/-- a loop's early end: an answer or an error -/
def stopR : T ⊕ Exc → Env → Store → SRes
  | .inl v, env, st => .ok (.rt v) env st
  | .inr e, env, st => .exc e env st
def endR : Option (T ⊕ Exc) → Env → Store → SRes
  | none, env, st => .ok .nx env st
  | some z, env, st => stopR z env st
theorem forL_first {body : Env → Store → SRes} {g : G} {w : Walk} {k : Ik} {st : Store} (hw : w.at_ = none) (r : T → Option (T ⊕ Exc)) (I : Env → Prop) : ∀ (xs : List T) (env : Env), I env →
    (∀ x ∈ xs, ∀ env, I env → ∃ env1 env2, setG g x env = some env1 ∧ I env2 ∧ body env1 st = endR (r x) env2 st) → ∃ env2, I env2 ∧ forL body g w k xs env st = endR (xs.findSome? r) env2 st
  | [], env, i, _ => ⟨env, i, by simp [forL, same_none hw, endR]⟩
  | x :: xs, env, i, h => by
    obtain ⟨env1, env2, e1, i2, e2⟩ := h x List.mem_cons_self env i
    cases hr : r x with
    | none =>
      rw [hr] at e2
      obtain ⟨env3, i3, e3⟩ := forL_first (body := body) (g := g) (k := k) hw r I xs env2 i2 fun y hy => h y (List.mem_cons_of_mem _ hy)
      refine ⟨env3, i3, ?_⟩
      rw [List.findSome?_cons, hr]
      simp only [forL, same_none hw, if_true, e1, e2, endR]
      exact e3
    | some z =>
      rw [hr] at e2
      refine ⟨env2, i2, ?_⟩
      rw [List.findSome?_cons, hr]
      cases z <;> simp [forL, same_none hw, e1, e2, endR, stopR]
end Lw
set_option Elab.async false
set_option linter.all false
set_option maxRecDepth 100000
/-! LwQ: what the laws share: _law_bag, _law_take, _law_some, _law_alike. -/
namespace Lw
open PySem PySem.Spec PyProof.Rows

def takeFd : Fd := ⟨2, 7, [.ite (.cmp .eq (.idx (.var 0) (.lit (.int 0))) (.lit (.int 0))) [.set 4 (.idx (.bin .add (.sli (.idx (.var 0) (.lit (.int 3))) (some (.idx (.var 0) (.lit (.int 2)))) none) (.lst true [.lit (.int 0)])) (.lit (.int 0))), .augi (.var 0) (.lit (.int 2)) .add (.lit (.int 1)), .ite (.cmp .ge (.var 4) (.bin .pow (.lit (.int 10)) (.lit (.int 18)))) [.seti (.var 0) (.lit (.int 0)) (.var 4)] [], .set 5 (.bin .add (.bin .add (.bin .mul (.idx (.var 0) (.lit (.int 1))) (.lit (.int 48271))) (.bin .mod (.bi .int [.var 4]) (.lit (.int 2147483647)))) (.bin .mul (.lit (.int 7919)) (.idx (.var 0) (.lit (.int 2))))), .seti (.var 0) (.lit (.int 1)) (.bin .mod (.bi .int [.var 5]) (.lit (.int 2147483647)))] [], .ite (.cmp .gt (.idx (.var 0) (.lit (.int 0))) (.lit (.int 0))) [.set 6 (.bin .mod (.bi .int [.idx (.var 0) (.lit (.int 0))]) (.var 1)), .seti (.var 0) (.lit (.int 0)) (.bin .fdiv (.bi .int [.idx (.var 0) (.lit (.int 0))]) (.var 1)), .ret (some (.var 6))] [], .set 2 (.bin .mod (.bi .int [.bin .mul (.bin .add (.idx (.var 0) (.lit (.int 1))) (.lit (.int 1))) (.lit (.int 39373))]) (.lit (.int 1000000007))), .set 3 (.bin .mod (.bi .int [.bin .mul (.bin .mod (.bi .int [.bin .mul (.var 2) (.var 2)]) (.lit (.int 998244353))) (.lit (.int 30011))]) (.lit (.int 998244353))), .ret (some (.bin .mod (.bi .int [.bin .fdiv (.var 3) (.lit (.int 7))]) (.var 1)))]⟩

/-! ### values -/
theorem eqT_int (st : Store) (a b : Int) : eqT st (.int a) (.int b) = some (decide (a = b)) := rfl
theorem cmp_eq_int (st : Store) (a b : Int) : cmpE .eq (.int a) (.int b) st = some (decide (a = b)) := rfl
theorem cmp_ge_int (st : Store) (a b : Int) : cmpE .ge (.int a) (.int b) st = some (decide (b ≤ a)) := rfl
theorem cmp_gt_int (st : Store) (a b : Int) : cmpE .gt (.int a) (.int b) st = some (decide (b < a)) := rfl
theorem cmp_ne_int (st : Store) (a b : Int) : cmpE .ne (.int a) (.int b) st = some (!decide (a = b)) := rfl
theorem add_int (st : Store) (a b : Int) : binE .add (.int a) (.int b) st = .ok (.int (a + b)) st := rfl
theorem mul_small (st : Store) (a b : Int) (h : -(2 ^ 64) < b ∧ b < 2 ^ 64) : binE .mul (.int a) (.int b) st = .ok (.int (a * b)) st := if_pos (.inr h)
theorem mul_smallL (st : Store) (a b : Int) (h : -(2 ^ 64) < a ∧ a < 2 ^ 64) : binE .mul (.int a) (.int b) st = .ok (.int (a * b)) st := if_pos (.inl h)
theorem mod_pos (st : Store) (a b : Int) (h : 0 < b) : binE .mod (.int a) (.int b) st = .ok (.int (a % b)) st := if_pos h
theorem fdiv_pos (st : Store) (a b : Int) (h : 0 < b ∧ b < 1073741824) : binE .fdiv (.int a) (.int b) st = .ok (.int (a / b)) st := if_pos h

theorem cmpE_int_tests : True := trivial
theorem at0 (a b c d : T) : atT [a, b, c, d] 0 = some a := rfl
theorem at1 (a b c d : T) : atT [a, b, c, d] 1 = some b := rfl
theorem at2 (a b c d : T) : atT [a, b, c, d] 2 = some c := rfl
theorem at3 (a b c d : T) : atT [a, b, c, d] 3 = some d := rfl
theorem idx_loc {st : Store} {l : Nat} {ts : List T} (h : st[l]? = some (.lst ts)) (i : Int) : idxE (.loc l) (.int i) st = atT ts i := by
  simp only [idxE, h]
theorem seti_loc {st : Store} {l : Nat} {ts : List T} (h : st[l]? = some (.lst ts)) (i : Int) (v : T) {j : Nat} (hj : L2.ixN ts.length i = some j) : setiE (.loc l) (.int i) v st = some (st.set l (.lst (ts.set j v))) := by
  simp only [setiE, h, hj]
theorem set_get {st : Store} {l : Nat} {c d : Cell} (h : st[l]? = some d) : (st.set l c)[l]? = some c := by
  rw [List.getElem?_set_self (List.getElem?_eq_some_iff.mp h).1]
theorem set_set (st : Store) (l : Nat) (c d : Cell) : (st.set l c).set l d = st.set l d := List.set_set ..
theorem set_same {st : Store} {l : Nat} {c : Cell} (h : st[l]? = some c) : st.set l c = st := by
  obtain ⟨h1, h2⟩ := List.getElem?_eq_some_iff.mp h
  rw [← h2, List.set_getElem_self]
theorem drop_ints (cs : List Int) (n : Nat) (hn : n ≤ cs.length) : cutT (cs.map T.int) (some n) none = (cs.drop n).map T.int := by
  unfold cutT
  have e1 : HT.sIx (cs.map T.int).length 0 (some (n : Int)) = n := by
    simp only [HT.sIx, List.length_map]
    rw [if_neg (by omega)]
    omega
  rw [e1]
  simp only [HT.sIx, List.length_map]
  rw [← List.map_drop, List.take_of_length_le (by simp)]
theorem drop_over (cs : List Int) (n : Int) (h0 : 0 ≤ n) : cutT (cs.map T.int) (some n) none = (cs.drop n.toNat).map T.int := by
  unfold cutT
  have e1 : HT.sIx (cs.map T.int).length 0 (some n) = min n.toNat cs.length := by
    simp only [HT.sIx, List.length_map]
    rw [if_neg (by omega)]
  rw [e1]
  simp only [HT.sIx, List.length_map]
  rw [← List.map_drop]
  by_cases h : n.toNat ≤ cs.length
  · rw
          [Nat.min_eq_left h, List.take_of_length_le (by simp)]
  · rw [Nat.min_eq_right (by omega), List.drop_length, List.drop_of_length_le (by omega)]
    simp
/-- a bag -/
structure Bag (ts : List T) : Prop where
  ex : ∃ (b0 b1 b2 : Int) (cs : List Int), ts = [.int b0, .int b1, .int b2, .lst (cs.map .int)] ∧ 0 ≤ b0 ∧ 0 ≤ b2 ∧ cs.length ≤ 63 ∧ ∀ c ∈ cs, 0 ≤ c
/-- the cell that is looked at -/
theorem first_cell {cs : List Int} (pp : ∀ c ∈ cs, 0 ≤ c) (n : Nat) : ∃ v : Int, 0 ≤ v ∧ atT ((cs.drop n).map T.int ++ [T.int 0]) 0 = some (T.int v) := by
  cases h : cs.drop n with
  | nil => exact ⟨0, Int.le_refl 0, rfl⟩
  | cons x xs =>
    refine ⟨x, pp x (List.mem_of_mem_drop (h ▸ List.mem_cons_self)), ?_⟩
    simp only [List.map_cons, List.cons_append, atT, L2.atI, L2.ixN, List.length_cons]
    rw [if_pos (Int.le_refl 0), if_pos (by omega)]
    rfl
/-- what comes behind the first statement -/
def takeTail : List S := takeFd.body.drop 1
theorem take_tail {c : Cf} {l : Nat} {m : Int} {st : Store} {cs : List Int} {b0 b1 b2 : Int} {e4 e5 : Option T} (h0 : 0 < m) (h1 : m < 1073741824) (q0 : 0 ≤ b0) (q2 : 0 ≤ b2) (pc : cs.length ≤ 63) (pp : ∀ c ∈ cs, 0 ≤ c)
    (hg : st[l]? = some (.lst [.int b0, .int b1, .int b2, .lst (cs.map .int)])) :
    ∃ v ts' env', evSs c takeTail [some (.loc l), some (.int m), none, none, e4, e5, none] st = .ok (.rt (.int v)) env' (st.set l (.lst ts')) ∧ Bag ts' ∧ 0 ≤ v ∧ v < m := by
  have i0 : idxE (.loc l) (.int 0) st = some (.int b0) := (idx_loc hg 0).trans (at0 ..)
  have i1 : idxE (.loc l) (.int 1) st = some (.int b1) := (idx_loc hg 1).trans (at1 ..)
  by_cases hb : 0 < b0
  · exact ⟨b0 % m, [.int (b0 / m), .int b1, .int b2, .lst (cs.map .int)], _, S_stop (S_iteT (B_cmp (B_idx (B_var rfl) B_lit i0) B_lit ((cmp_gt_int ..).trans (congrArg some (decide_eq_true hb))))
      (S_cons (S_set (B_bin (B_bi1 (B_idx (B_var rfl) B_lit i0) rfl) (B_var rfl) (mod_pos _ _ _ h0)) rfl)
      (S_cons (S_seti (B_bin (B_bi1 (B_idx (B_var rfl) B_lit i0) rfl) (B_var rfl) (fdiv_pos _ _ _ ⟨h0, h1⟩)) (B_var rfl) B_lit (seti_loc hg 0 _ (j := 0) rfl))
      (S_stop (S_ret (B_var rfl)))))), ⟨b0 / m, b1, b2, cs, rfl, Int.ediv_nonneg q0 (by omega), q2, pc, pp⟩, Int.emod_nonneg _ (by omega), Int.emod_lt_of_pos _ h0⟩
  · have g1 : 0 ≤ (b1 + 1) * 39373 % 1000000007 := Int.emod_nonneg _ (by omega)
    have g2 : (b1 + 1) * 39373 % 1000000007 < 1000000007 := Int.emod_lt_of_pos _ (by omega)
    refine ⟨(b1 + 1) * 39373 % 1000000007 * ((b1 + 1) * 39373 % 1000000007) % 998244353 * 30011 % 998244353 / 7 % m, [.int b0, .int b1, .int b2, .lst (cs.map .int)], (List.set (List.set [some (.loc l), some (.int m), none, none, e4, e5, none] 2 (some (.int ((b1 + 1) * 39373 % 1000000007)))) 3 (some (.int ((b1 + 1) * 39373 % 1000000007 * ((b1 + 1) * 39373 % 1000000007) % 998244353 * 30011 % 998244353)))), ?_, ⟨b0, b1, b2, cs, rfl, q0, q2, pc, pp⟩, Int.emod_nonneg _ (by omega), Int.emod_lt_of_pos _ h0⟩
    rw [set_same hg]
    exact S_cons (S_iteF (B_cmp (B_idx (B_var rfl) B_lit i0) B_lit ((cmp_gt_int ..).trans (congrArg some (decide_eq_false hb)))) S_nil)
      (S_cons (S_set (B_bin (B_bi1 (B_bin (B_bin (B_idx (B_var rfl) B_lit i1) B_lit (add_int ..)) B_lit (mul_small _ _ 39373 (by omega))) rfl) B_lit (mod_pos _ _ 1000000007 (by omega))) rfl)
      (S_cons (S_set (B_bin (B_bi1 (B_bin (B_bin (B_bi1 (B_bin (B_var rfl) (B_var rfl) (mul_small _ _ _ (by omega))) rfl) B_lit (mod_pos _ _ 998244353 (by omega))) B_lit (mul_small _ _ 30011 (by omega))) rfl) B_lit (mod_pos _ _ 998244353 (by omega))) rfl)
      (S_stop (S_ret (B_bin (B_bi1 (B_bin (B_var rfl) B_lit (fdiv_pos _ _ 7 (by omega))) rfl) (B_var rfl) (mod_pos _ _ m h0))))))
theorem geti_loc {st : Store} {l : Nat} {ts : List T} (h : st[l]? = some (.lst ts)) (i : Nat) : getiE (.loc l) (.int i) st = ts[i]? := by
  simp only [getiE, h]
  rw [if_pos (by omega)]
  rfl
theorem add_lst {st : Store} {a b : List T} (h : a.length + b.length ≤ big) : binE .add (.lst a) (.lst b) st = .ok (.lst (a ++ b)) st := if_pos h
theorem take_stir {c : Cf} {l : Nat} {m v0 b1 b3 d0 : Int} {st : Store} {cs : List Int} (hg : st[l]? = some (.lst [.int d0, .int b1, .int b3, .lst (cs.map .int)])) :
    ∃ (e : Int) (e5 : Option T), evSs c [.set 5 (.bin .add (.bin .add (.bin .mul (.idx (.var 0) (.lit (.int 1))) (.lit (.int 48271))) (.bin .mod (.bi .int [.var 4]) (.lit (.int 2147483647)))) (.bin .mul (.lit (.int 7919)) (.idx (.var 0) (.lit (.int 2))))), .seti (.var 0) (.lit (.int 1)) (.bin .mod (.bi .int [.var 5]) (.lit (.int 2147483647)))] [some (.loc l), some (.int m), none, none, some (.int v0), none, none] st
      = .ok .nx [some (.loc l), some (.int m), none, none, some (.int v0), e5, none] (st.set l (.lst [.int d0, .int e, .int b3, .lst (cs.map .int)])) := by
  have j1 : idxE (.loc l) (.int 1) st = some (.int b1) := (idx_loc hg 1).trans (at1 ..)
  have j2 : idxE (.loc l) (.int 2) st = some (.int b3) := (idx_loc hg 2).trans (at2 ..)
  exact ⟨(b1 * 48271 + v0 % 2147483647 + 7919 * b3) % 2147483647, some (.int (b1 * 48271 + v0 % 2147483647 + 7919 * b3)),
    S_cons (S_set (B_bin (B_bin (B_bin (B_idx (B_var rfl) B_lit j1) B_lit (mul_small _ _ 48271 (by omega))) (B_bin (B_bi1 (B_var rfl) rfl) B_lit (mod_pos _ _ 2147483647 (by omega))) (add_int ..)) (B_bin B_lit (B_idx (B_var rfl) B_lit j2) (mul_smallL _ 7919 _ (by omega))) (add_int ..)) rfl)
    (S_cons (S_seti (B_bin (B_bi1 (B_var rfl) rfl) B_lit (mod_pos _ _ 2147483647 (by omega))) (B_var rfl) B_lit (seti_loc hg 1 _ (j := 1) rfl)) S_nil)⟩
theorem pow_ten (st : Store) : binE .pow (.int 10) (.int 18) st = .ok (.int 1000000000000000000) st := rfl
theorem take_first {c : Cf} {l : Nat} {m b1 b2 : Int} {st : Store} {cs : List Int} (p2 : 0 ≤ b2) (pc : cs.length ≤ 63) (pp : ∀ c ∈ cs, 0 ≤ c) (hl : st[l]? = some (.lst [.int 0, .int b1, .int b2, .lst (cs.map .int)])) :
    ∃ (d0 e : Int) (e4 e5 : Option T), 0 ≤ d0 ∧ evS c (takeFd.body.headD .pass) [some (.loc l), some (.int m), none, none, none, none, none] st = .ok .nx [some (.loc l), some (.int m), none, none, e4, e5, none] (st.set l (.lst [.int d0, .int e, .int (b2 + 1), .lst (cs.map .int)])) := by
  obtain ⟨v0, hv0, ev0⟩ := first_cell pp b2.toNat
  have i0 : idxE (.loc l) (.int 0) st = some (.int 0) := (idx_loc hl 0).trans (at0 ..)
  have i3 : idxE (.loc l) (.int 3) st = some (.lst (cs.map .int)) := (idx_loc hl 3).trans (at3 ..)
  have i2 : idxE (.loc l) (.int 2) st = some (.int b2) := (idx_loc hl 2).trans (at2 ..)
  have hl1 : (st.set l (.lst [.int 0, .int b1, .int (b2 + 1), .lst (cs.map .int)]))[l]? = some (.lst [.int 0, .int b1, .int (b2 + 1), .lst (cs.map .int)]) := set_get hl
  have hs : sliE (T.lst (cs.map .int)) (some b2) none st = .ok (T.lst ((cs.drop b2.toNat).map .int)) st := by
    show Res.ok (T.lst (cutT (cs.map T.int) (some b2) none)) st = _
    rw [drop_over cs b2 p2]
  have hz : ((cs.drop b2.toNat).map T.int).length + [T.int 0].length ≤ big := by
    simp only [List.length_map, List.length_drop, List.length_cons, List.length_nil]
    unfold big
    omega
  have e0 := B_idx (z := .int v0) (B_bin (B_sli (B_idx (c := c) (env := [some (.loc l), some (.int m), none, none, none, none, none]) (B_var (i := 0) rfl) (B_lit (t := .int 3)) i3) (B_oS (B_idx (B_var (i := 0) rfl) (B_lit (t := .int 2)) i2)) B_oN hs) (B_lstT (B_one (B_lit (t := .int 0)))) (add_lst hz)) (B_lit (t := .int 0)) ev0
  have a2 : augE .add (.int b2) (.int 1) st = .ok (.int (b2 + 1)) st := rfl
  have g2 : getiE (.loc l) (.int 2) st = some (.int b2) := (geti_loc hl 2).trans rfl
  by_cases hbig : 1000000000000000000 ≤ v0
  · have hl2 : ((st.set l (.lst [.int 0, .int b1, .int (b2 + 1), .lst (cs.map .int)])).set l (.lst [.int v0, .int b1, .int (b2 + 1), .lst (cs.map .int)]))[l]? = some (.lst [.int v0, .int b1, .int (b2 + 1), .lst (cs.map .int)]) := set_get hl1
    obtain ⟨e, e5, q⟩ := take_stir (c := c) (m := m) (v0 := v0) hl2
    rw [set_set, set_set] at q
    exact ⟨v0, e, some (.int v0), e5, hv0, S_iteT (B_cmp (B_idx (B_var rfl) B_lit i0) B_lit (cmp_eq_int ..)) (S_cons (S_set e0 rfl) (S_cons (S_augi (B_var rfl) B_lit g2 B_lit a2 (seti_loc hl 2 _ (j := 2) rfl))
      (S_cons (S_iteT (B_cmp (B_var rfl) (B_bin B_lit B_lit (pow_ten _)) ((cmp_ge_int ..).trans (congrArg some (decide_eq_true hbig)))) (S_cons (S_seti (B_var rfl) (B_var rfl) B_lit ((seti_loc hl1 0 _ (j := 0) rfl).trans (congrArg some (set_set ..)))) S_nil)) q)))⟩
  · obtain ⟨e, e5, q⟩ := take_stir (c := c) (m := m) (v0 := v0) hl1
    rw [set_set] at q
    exact ⟨0, e, some (.int v0), e5, Int.le_refl 0, S_iteT (B_cmp (B_idx (B_var rfl) B_lit i0) B_lit (cmp_eq_int ..)) (S_cons (S_set e0 rfl) (S_cons (S_augi (B_var rfl) B_lit g2 B_lit a2 (seti_loc hl 2 _ (j := 2) rfl))
      (S_cons (S_iteF (B_cmp (B_var rfl) (B_bin B_lit B_lit (pow_ten _)) ((cmp_ge_int ..).trans (congrArg some (decide_eq_false hbig)))) S_nil) q)))⟩
theorem take_ok {P : List Fd} {lim k f l : Nat} {m : Int} {st : Store} {ts : List T} (hP : P[f]? = some takeFd) (hl : st[l]? = some (.lst ts)) (hb : Bag ts) (h0 : 0 < m) (h1 : m < 1073741824) :
    ∃ v ts', callAt P lim (k + 1) f [.loc l, .int m] st = .ok (.int v) (st.set l (.lst ts')) ∧ Bag ts' ∧ 0 ≤ v ∧ v < m := by
  obtain ⟨b0, b1, b2, cs, rfl, p0, p2, pc, pp⟩ := hb
  have i0 : idxE (.loc l) (.int 0) st = some (.int b0) := (idx_loc hl 0).trans (at0 ..)
  by_cases hb : b0 = 0
  · subst hb
    obtain ⟨d0, e, e4, e5, hd, q1⟩ := take_first (c := cfAt P lim k) (m := m) p2 pc pp hl
    obtain ⟨v, ts', env', q, r⟩ := take_tail (c := cfAt P lim k) (e4 := e4) (e5 := e5) (m := m) h0 h1 hd (show 0 ≤ b2 + 1 by omega) pc pp (b1 := e) (set_get hl)
    rw [set_set] at q
    exact ⟨v, ts', C_run hP rfl (congrArg gives (S_cons q1 q)), r⟩
  · obtain ⟨v, ts', env', q, r⟩ := take_tail (c := cfAt P lim k) (e4 := none) (e5 := none) (m := m) h0 h1 p0 p2 pc pp hl
    exact ⟨v, ts', C_run hP rfl (congrArg gives (S_cons (S_iteF (B_cmp (B_idx (B_var rfl) B_lit i0) B_lit ((cmp_eq_int ..).trans (congrArg some (decide_eq_false hb)))) S_nil) q)), r⟩
end Lw
set_option Elab.async false
set_option linter.all false
set_option maxRecDepth 100000
/-! LwR: the bag, a thing of some, two alike. -/
namespace Lw
open PySem PySem.Spec PyProof.Rows
def bagFd : Fd := ⟨1, 2, [.ret (some (.lst false [.lit (.int 0), .lit (.int 1234567891), .lit (.int 0), .comp true (.bi .abs [.var 1]) (.name 1) .val [.sli (.var 0) none (some (.lit (.int 63)))] [] [1]]))]⟩
def someFd (take : Nat) : Fd := ⟨2, 2, [.ret (some (.idx (.var 1) (.call take false [.var 0, .bi .len [.var 1]])))]⟩
def alikeFd : Fd := ⟨2, 2, [.ret (some (.and (.cmp .eq (.bi .repr [.var 0]) (.bi .repr [.var 1])) (.cmp .eq (.var 0) (.var 1))))]⟩
theorem cut63 (ns : List Int) : cutT (ns.map T.int) none (some 63) = (ns.take 63).map T.int := by
  unfold cutT
  simp only [HT.sIx, List.length_map, List.drop_zero, Nat.sub_zero]
  rw [if_neg (by omega), ← List.map_take]
  by_cases h : 63 ≤ ns.length
  · rw [Nat.min_eq_left (by omega)]; rfl
  · rw
          [Nat.min_eq_right (by omega), List.take_of_length_le (Nat.le_refl _), List.take_of_length_le (by omega)]
def absT : T → T
  | .int i => .int (if i < 0 then -i else i)
  | t => t
theorem bag_ok {P : List Fd} {lim k f : Nat} {ns : List Int} {st : Store} (hP : P[f]? = some bagFd) : ∃ ts, callAt P lim (k + 1) f [.scr ns] st = .ok (.loc st.length) (st ++ [.lst ts]) ∧ Bag ts := by
  have hlp : loopL (fun env st => evE (cfAt P lim k) (.bi .abs [.var 1]) env st) (fun env st => evTs (cfAt P lim k) [] env st) (.name 1) { items := (ns.take 63).map T.int } .val (wipeT [some (.scr ns), none] [1]) ((ns.take 63).map T.int) st = .ok ((((ns.take 63).map T.int).filter fun _ => true).map absT) st := by
    refine loopL_pure rfl absT (fun _ => true) _ fun x hx => ?_
    obtain ⟨i, _, rfl⟩ := List.mem_map.mp hx
    exact ⟨[some (.scr ns), some (.int i)], rfl, B_t0, fun _ => B_bi1 (B_var rfl) rfl⟩
  have e : (((ns.take 63).map T.int).filter fun _ => true).map absT = ((ns.take 63).map fun i => if i < 0 then -i else i).map T.int := by
    rw [List.filter_eq_self.mpr (fun _ _ => rfl), List.map_map, List.map_map]
    rfl
  rw [e] at hlp
  refine ⟨_, C_rt hP rfl (S_stop (S_ret (B_lstF (B_cons B_lit (B_cons B_lit (B_cons B_lit (B_one (B_comp (B_one (B_sli (B_var rfl) B_oN (B_oS B_lit) (show sliE (.scr ns) none (some 63) st = .ok (.lst ((ns.take 63).map T.int)) st from congrArg (fun l => Res.ok (T.lst l) st) (cut63 ns)))) rfl ?_ hlp rfl)))))))), ?_⟩
  · show ((ns.take 63).map T.int).length ≤ big
    simp only [List.length_map, List.length_take]
    unfold big
    omega
  · refine ⟨0, 1234567891, 0, _, rfl, Int.le_refl 0, Int.le_refl 0, ?_, fun c hc => ?_⟩
    · rw
            [List.length_map, List.length_take]
      omega
    · obtain ⟨i, _, rfl⟩ := List.mem_map.mp hc
      split <;> omega
theorem atT_of {ts : List T} {v : Int} (h0 : 0 ≤ v) (h1 : v < ts.length) : ∃ x ∈ ts, atT ts v = some x := by
  have hn : v.toNat < ts.length := by omega
  refine ⟨ts[v.toNat], List.getElem_mem hn, ?_⟩
  unfold atT L2.atI L2.ixN
  rw [if_pos h0, if_pos h1]
  exact List.getElem?_eq_getElem hn
theorem some_ok {P : List Fd} {lim k f g l : Nat} {st : Store} {ts things : List T} (hP : P[f]? = some (someFd g)) (hg : P[g]? = some takeFd) (hl : st[l]? = some (.lst ts)) (hb : Bag ts) (hn : things ≠ []) (h1 : things.length < 1073741824) :
    ∃ x ∈ things, ∃ ts', callAt P lim (k + 2) f [.loc l, .lst things] st = .ok x (st.set l (.lst ts')) ∧ Bag ts' := by
  have hp : 0 < things.length := List.length_pos_iff.mpr hn
  obtain ⟨v, ts', e, b, v0, v1⟩ := take_ok (lim := lim) (k := k) hg hl hb (m := things.length) (by omega) (by omega)
  obtain ⟨x, hx, ex⟩ := atT_of v0 v1
  exact ⟨x, hx, ts', C_rt hP rfl (S_stop (S_ret (B_idx (B_var rfl) (B_call (B_two (B_var rfl) (B_bi1 (B_var rfl) rfl)) (C_own e)) ex))), b⟩
/-! ### equality of thin data -/
theorem py_thin {st : Store} {t : T} (h : thin t = true) : ∃ d, pyOf st t = some d ∧ Th d (size t) (dep t) := by
  obtain ⟨d, e, q⟩ := thin_py h
  exact ⟨d, by simp only [pyOf, thin_res h, Option.bind_some, e], q⟩
theorem eqT_refl {st : Store} {t : T} (h : thin t = true) (hd : dep t ≤ 64) : eqT st t t = some true := by
  obtain ⟨d, e, q⟩ := py_thin (st := st) h
  have sh : SeqAt.shaped d = true := Bool.and_eq_true_iff.mpr ⟨q.cl, decide_eq_true (Nat.le_trans q.dp hd)⟩
  simp only [eqT, e, sh, Bool.and_self, if_true, SeqAt.eqv_refl d q.cl]
theorem show_thin {st : Store} {t : T} (h : thin t = true) (hd : dep t ≤ 60) (hs : size t ≤ 150000) : ∃ x, showT st t = some x ∧ PyData.strOk x = true := by
  obtain ⟨d, e, q⟩ := py_thin (st := st) h
  refine ⟨d.shown, ?_, q.so⟩
  have h1 : d.depth ≤ 60 := Nat.le_trans q.dp hd
  have h2 : d.shown.length ≤ big := by
    have := q.ln
    unfold big
    omega
  simp only [showT, e, q.sh, q.hd, Bool.not_false, decide_eq_true h1, decide_eq_true h2, Bool.and_self, if_true]
theorem eqT_str {st : Store} {x : Str} (h : PyData.strOk x = true) : eqT st (.str x) (.str x) = some true := by
  have sh : SeqAt.shaped (PyData.str x) = true := Bool.and_eq_true_iff.mpr ⟨h, rfl⟩
  simp only [eqT, pyOf, res, Option.bind_some, toPy, sh, Bool.and_self, if_true, SeqAt.eqv_refl (.str x) h]
theorem alike_ok {P : List Fd} {lim k f : Nat} {t : T} {st : Store} (hP : P[f]? = some alikeFd) (h : thin t = true) (hd : dep t ≤ 60) (hs : size t ≤ 150000) : callAt P lim (k + 1) f [t, t] st = .ok (.bl true) st := by
  obtain ⟨x, e, so⟩ := show_thin (st := st) h hd hs
  have eb : biE .repr [t] st = .ok (.str x) st := by
    show Res.of ((showT st t).map T.str) st = _
    rw [e]; rfl
  exact C_rt hP rfl (S_stop (S_ret (B_andT (B_cmp (B_bi1 (B_var rfl) eb) (B_bi1 (B_var rfl) eb) (show cmpE .eq (.str x) (.str x) st = some true from eqT_str (st := st) so)) (B_cmp (B_var rfl) (B_var rfl) (show cmpE .eq t t st = some true from eqT_refl (st := st) h (by omega))))))
end Lw
set_option Elab.async false
set_option linter.all false
set_option maxRecDepth 100000
/-! LwV: dicts, lists of ints and texts, as the evaluator has them. -/
namespace Lw
open PySem PySem.Spec PyProof.Rows

/-! ### thin lists -/
theorem thinL_iff : ∀ {ts : List T}, thinL ts = true ↔ ∀ t ∈ ts, thin t = true
  | [] => by simp [thinL]
  | t :: ts => by simp [thinL, thinL_iff (ts := ts)]
theorem sizeL_le : ∀ {ts : List T} {n : Nat}, (∀ t ∈ ts, size t ≤ n) → sizeL ts ≤ n * ts.length
  | [], n, _ => by simp [sizeL]
  | t :: ts, n, h => by
    have h1 := h t List.mem_cons_self
    have h2 := sizeL_le (ts := ts) (n := n) fun u hu => h u (List.mem_cons_of_mem _ hu)
    simp only [sizeL, List.length_cons, Nat.mul_add, Nat.mul_one]
    omega
theorem depL_le : ∀ {ts : List T} {n : Nat}, (∀ t ∈ ts, dep t ≤ n) → depL ts ≤ n
  | [], n, _ => by simp [depL]
  | t :: ts, n, h => by
    have h1 := h t List.mem_cons_self
    have h2 := depL_le (ts := ts) (n := n) fun u hu => h u (List.mem_cons_of_mem _ hu)
    simp only [depL]
    omega
/-- thin, so deep, so large -/
structure Tn (t : T) (n m : Nat) : Prop where
  th : thin t = true
  d : dep t ≤ n
  s : size t ≤ m
theorem Tn.mono {t : T} {n m n' m' : Nat} (h : Tn t n m) (hn : n ≤ n') (hm : m ≤ m') : Tn t n' m' := ⟨h.th, Nat.le_trans h.d hn, Nat.le_trans h.s hm⟩
theorem Tn.int {i : Int} (h1 : -1000 < i) (h2 : i < 1000) : Tn (.int i) 1 1 := ⟨by simp [thin, h1, h2], Nat.le_refl _, Nat.le_refl _⟩
theorem Tn.non : Tn .non 1 1 := ⟨rfl, Nat.le_refl _, Nat.le_refl _⟩
theorem Tn.str {s : Str} (h : thin (.str s) = true) : Tn (.str s) 1 1 := ⟨h, Nat.le_refl _, Nat.le_refl _⟩
theorem Tn.tup {ts : List T} {n m : Nat} (h : ∀ t ∈ ts, Tn t n m) : Tn (.tup ts) (1 + n) (1 + m * ts.length) := by
  refine ⟨thinL_iff.mpr fun t ht => (h t ht).th, ?_, ?_⟩
  · have := depL_le fun t ht => (h t ht).d
    simp only [dep]
    omega
  · have := sizeL_le fun t ht => (h t ht).s
    simp only [size]
    omega
theorem Tn.lst {ts : List T} {n m : Nat} (h : ∀ t ∈ ts, Tn t n m) : Tn (.lst ts) (1 + n) (1 + m * ts.length) := by
  refine ⟨thinL_iff.mpr fun t ht => (h t ht).th, ?_, ?_⟩
  · have := depL_le fun t ht => (h t ht).d
    simp only [dep]
    omega
  · have := sizeL_le fun t ht => (h t ht).s
    simp only [size]
    omega
theorem resL_one {st : Store} {t : T} (h : thin t = true) : resL st [t] = some [t] := thinL_res (by simp [thinL, h])
theorem resL_two {st : Store} {t u : T} (h : thin t = true) (h2 : thin u = true) : resL st [t, u] = some [t, u] := thinL_res (by simp [thinL, h, h2])

/-! ### dicts -/
theorem dget_nil (k : T) : dget [] k = none := rfl
theorem dget_cons (k v x : T) (r : List (T × T)) : dget ((k, v) :: r) x = if k = x then some v else dget r x := by
  unfold dget
  rw [List.find?_cons]
  by_cases h : k = x
  · simp [h]
  · simp [h]
theorem dget_none {kvs : List (T × T)} {x : T} : dget kvs x = none ↔ ∀ p ∈ kvs, p.1 ≠ x := by
  induction kvs with
  | nil => simp [dget_nil]
  | cons p r ih =>
    obtain ⟨k, v⟩ := p
    rw [dget_cons]
    by_cases h : k = x
    · simp [h]
    · simp [h, ih]
theorem dget_mem {kvs : List (T × T)} {x v : T} (h : dget kvs x = some v) : (x, v) ∈ kvs := by
  induction kvs with
  | nil => cases h
  | cons p r ih =>
    obtain ⟨k, w⟩ := p
    rw [dget_cons] at h
    by_cases hk : k = x
    · rw [if_pos hk] at h; cases h; rw [hk]; exact List.mem_cons_self
    · rw [if_neg hk] at h; exact List.mem_cons_of_mem _ (ih h)
theorem dget_of {kvs : List (T × T)} {x v : T} (nd : (kvs.map (·.1)).Nodup) (h : (x, v) ∈ kvs) : dget kvs x = some v := by
  induction kvs with
  | nil => cases h
  | cons p r ih =>
    obtain ⟨k, w⟩ := p
    rw [List.map_cons,
          List.nodup_cons] at nd
    rw [dget_cons]
    rcases List.mem_cons.mp
          h with e | h'
    · cases e; rw [if_pos rfl]
    · rw [if_neg, ih nd.2 h']
      intro z
      exact nd.1 (List.mem_map.mpr ⟨(x, v), h', z.symm⟩)
theorem dput_new {kvs : List (T × T)} {k v : T} (h : ∀ p ∈ kvs, p.1 ≠ k) : dput kvs k v = kvs ++ [(k, v)] := by
  unfold dput
  rw [if_neg]
  intro z
  obtain ⟨p, hp, e⟩ := List.any_eq_true.mp z
  exact h p hp (of_decide_eq_true e)
theorem dmerge_app : ∀ (more kvs : List (T × T)), ((kvs ++ more).map (·.1)).Nodup → dmerge kvs more = kvs ++ more
  | [], kvs, _ => by simp [dmerge]
  | (k, v) :: more, kvs, h => by
    have h1 : ∀ p ∈ kvs, p.1 ≠ k := fun p hp e => by
      rw [List.map_append] at h
      have := (List.nodup_append.mp h).2.2 p.1 (List.mem_map.mpr ⟨p, hp, rfl⟩) k (by simp)
      exact this e
    have e : dmerge kvs ((k, v) :: more) = dmerge (dput kvs k v) more := rfl
    rw [e, dput_new h1, dmerge_app more (kvs ++ [(k, v)]) (by simpa using h)]
    simp
theorem dmerge_nil {kvs : List (T × T)} (h : (kvs.map (·.1)).Nodup) : dmerge [] kvs = kvs := dmerge_app kvs [] (by simpa using h)
/-- pairs of keys and values -/
def pr (p : T × T) : T := .tup [p.1, p.2]
theorem pairsOf_pr : ∀ {kvs : List (T × T)}, (∀ p ∈ kvs, keyOk p.1 = true) → pairsOf (kvs.map pr) = some kvs
  | [], _ => rfl
  | (k, v) :: r, h => by
    have h1 := h (k, v) List.mem_cons_self
    simp only [List.map_cons, pr, pairsOf]
    rw [if_pos h1, pairsOf_pr fun p hp => h p (List.mem_cons_of_mem _ hp)]
    rfl
theorem dict_pr {kvs : List (T × T)} {st : Store} (h : ∀ p ∈ kvs, keyOk p.1 = true) (nd : (kvs.map (·.1)).Nodup) : biE (.dict true) [.tup (kvs.map pr)] st = .ok (.dct kvs) st := by
  simp only [biE, seqOf, Option.bind_some, pairsOf_pr h, dmerge_nil nd]
  rfl
/-- a dict of truths -/
def kt (x : Int) : T × T := (.int x, .bl true)
def insK (K : List Int) (x : Int) : List Int := if x ∈ K then K else K ++ [x]
theorem insK_mem {K : List Int} {x y : Int} : y ∈ insK K x ↔ y ∈ K ∨ y = x := by
  unfold insK
  split
  · constructor
    · exact .inl
    · rintro (h | rfl)
      · exact h
      · assumption
  · simp
theorem insK_nd {K : List Int} {x : Int} (h : K.Nodup) : (insK K x).Nodup := by
  unfold insK
  split
  · exact h
  · rename_i hx
    exact List.nodup_append.mpr ⟨h, by simp, fun a ha b hb => by simp at hb; subst hb; exact fun e => hx (e ▸ ha)⟩
theorem insK_len {K : List Int} {x : Int} : (insK K x).length ≤ K.length + 1 := by
  unfold insK
  split <;> simp
theorem dput_kt {K : List Int} {x : Int} : dput (K.map kt) (.int x) (.bl true) = (insK K x).map kt := by
  unfold insK
  by_cases h : x ∈ K
  · rw [if_pos h]
    unfold dput
    rw [if_pos (by
      rw [List.any_map, List.any_eq_true]
      exact ⟨x, h, by simp [kt]⟩)]
    rw [List.map_map]
    refine List.map_congr_left fun y _ => ?_
    show (if (kt y).1 = .int x then ((kt y).1, T.bl true) else kt y) = kt y
    split <;> rfl
  · rw [if_neg h, dput_new fun p hp e => ?_, List.map_append]
    · rfl
    · obtain ⟨y, hy, rfl⟩ := List.mem_map.mp hp
      simp only [kt, T.int.injEq] at e
      exact h (e ▸ hy)
theorem dmerge_kt : ∀ (l K : List Int), dmerge (K.map kt) (l.map kt) = (l.foldl insK K).map kt
  | [], K => rfl
  | x :: l, K => by
    have e : dmerge (K.map kt) ((x :: l).map kt) = dmerge (dput (K.map kt) (.int x) (.bl true)) (l.map kt) := rfl
    rw [e, dput_kt, dmerge_kt l (insK K x)]
    rfl
theorem foldK_mem : ∀ {l K : List Int} {y : Int}, y ∈ l.foldl insK K ↔ y ∈ K ∨ y ∈ l
  | [], K, y => by simp
  | x :: l, K, y => by
    rw [List.foldl_cons, foldK_mem (l := l), insK_mem, List.mem_cons, or_assoc]
theorem foldK_nd : ∀ {l K : List Int}, K.Nodup → (l.foldl insK K).Nodup
  | [], K, h => h
  | x :: l, K, h => foldK_nd (l := l) (insK_nd h)
theorem foldK_len : ∀ {l K : List Int}, (l.foldl insK K).length ≤ K.length + l.length
  | [], K => by simp
  | x :: l, K => by
    have h1 := foldK_len (l := l) (K := insK K x)
    have h2 := insK_len (K := K) (x := x)
    simp only
          [List.foldl_cons, List.length_cons]
    omega
theorem kt_keys (K : List Int) : (K.map kt).map (·.1) = K.map T.int := by
  rw [List.map_map]
  rfl
theorem intsOf_map : ∀ l : List Int, intsOf (l.map T.int) = some l
  | [] => rfl
  | x :: l => by simp only [List.map_cons, intsOf, intsOf_map l, Option.map_some]
/-! ### sorted -/
theorem insI_mem {x k : Int} : ∀ {l : List Int}, k ∈ insI x l ↔ k = x ∨ k ∈ l
  | [] => by simp [insI]
  | y :: ys => by
    unfold insI
    split
    · simp
    · simp only [List.mem_cons, insI_mem (l := ys)]
      constructor
      · rintro (h | h | h) <;> simp [h]
      · rintro (h | h | h) <;> simp [h]
theorem insI_up {x : Int} : ∀ {l : List Int}, x ∉ l → l.Pairwise (· < ·) → (insI x l).Pairwise (· < ·)
  | [], _, _ => by simp [insI]
  | y :: ys, hx, h => by
    obtain ⟨h1, h2⟩ :=
          List.pairwise_cons.mp h
    have hn : x ≠ y ∧ x ∉ ys := by simpa [not_or] using hx
    unfold insI
    split
    · rename_i hxy
      exact List.pairwise_cons.mpr ⟨fun z hz => by rcases List.mem_cons.mp hz with rfl | hz; omega; have := h1 z hz; omega, h⟩
    · exact List.pairwise_cons.mpr ⟨fun z hz => by rcases insI_mem.mp hz with rfl | hz; omega; exact h1 z hz, insI_up hn.2 h2⟩
theorem sortI_mem {k : Int} : ∀ {l : List Int}, k ∈ sortI l ↔ k ∈ l
  | [] => by simp [sortI]
  | x :: xs => by rw [sortI, insI_mem, sortI_mem (l := xs), List.mem_cons]
theorem sortI_up : ∀ {l : List Int}, l.Nodup → (sortI l).Pairwise (· < ·)
  | [], _ => List.Pairwise.nil
  | x :: xs, h => by
    rw [List.nodup_cons] at h
    exact insI_up (fun z => h.1 (sortI_mem.mp z)) (sortI_up h.2)
/-- keys, sorted, as the set of a list -/
theorem sortI_sortU {K L : List Int} (h : K.Nodup) (hm : ∀ k, k ∈ K ↔ k ∈ L) : sortI K = sortU L :=
  up_uniq (sortI_up h) sortU_up fun k => by rw [sortI_mem, sortU_mem, hm k]
end Lw
set_option Elab.async false
set_option linter.all false
set_option maxRecDepth 100000
/-! LwM: rows of keys and ints; memories. -/
namespace Lw
open PySem PySem.Spec PyProof.Rows
abbrev KP := L2.Key × Int
def rowsT (ps : List KP) : T := .tup (ps.map prT)
def meT (a b : List KP) : T := .tup [rowsT a, rowsT b]
def kvT (p : KP) : T × T := (tKey p.1, .int p.2)
/-- a key that may be asked for -/
def KO : L2.Key → Prop
  | .inl i => -1000 < i ∧ i < 1000
  | .inr s => thin (.str s) = true
theorem tKey_inj {a b : L2.Key} (h : tKey a = tKey b) : a = b := by
  cases a <;> cases b <;> simp only [tKey, T.int.injEq, T.str.injEq, reduceCtorEq] at h
  · rw [h]
  · rw [h]
theorem tKey_ok (k : L2.Key) : keyOk (tKey k) = true := by cases k <;> rfl
theorem KO.thin {k : L2.Key} (h : KO k) : Tn (tKey k) 1 1 := by
  cases k with
  | inl i => exact Tn.int h.1 h.2
  | inr s => exact Tn.str h
theorem keyT_t (k : L2.Key) : keyT (tKey k) = some k := by cases k <;> rfl
/-- == of keys -/
theorem eq_key {st : Store} {a b : L2.Key} (ha : KO a) (hb : KO b) : eqT st (tKey a) (tKey b) = some (decide (a = b)) := by
  have so : ∀ {s : Str}, thin (.str s) = true → PyData.strOk s = true := fun h => by
    simp only [Lw.thin, Bool.and_eq_true] at h
    exact h.1.2
  cases a with
  | inl i =>
    cases b with
    | inl j =>
      show some (decide (i = j)) = _
      simp
    | inr s =>
      have sh : SeqAt.shaped (PyData.str s) = true := Bool.and_eq_true_iff.mpr ⟨so hb, rfl⟩
      have : eqT st (.int i) (.str s) = some false := by simp only [eqT, pyOf, res, Option.bind_some, toPy, sh, show SeqAt.shaped (PyData.int i) = true from rfl, Bool.and_self, if_true, PyData.eqv]
      rw [show tKey (.inl i) = .int i from rfl, show tKey (.inr s) = .str s from rfl, this]
      simp
  | inr s =>
    have sh : SeqAt.shaped (PyData.str s) = true := Bool.and_eq_true_iff.mpr ⟨so ha, rfl⟩
    cases b with
    | inl j =>
      have : eqT st (.str s) (.int j) = some false := by simp only [eqT, pyOf, res, Option.bind_some, toPy, sh, show SeqAt.shaped (PyData.int j) = true from rfl, Bool.and_self, if_true, PyData.eqv]
      rw [show tKey (.inl j) = .int j from rfl, show tKey (.inr s) = .str s from rfl, this]
      simp
    | inr u =>
      have sh2 : SeqAt.shaped (PyData.str u) = true := Bool.and_eq_true_iff.mpr ⟨so hb, rfl⟩
      have : eqT st (.str s) (.str u) = some (s == u) := by simp only [eqT, pyOf, res, Option.bind_some, toPy, sh, sh2, Bool.and_self, if_true, PyData.eqv]
      rw [show tKey (.inr u) = .str u from rfl, show tKey (.inr s) = .str s from rfl, this]
      congr 1
      by_cases h : s = u <;> simp [h]
theorem ne_key {st : Store} {a b : L2.Key} (ha : KO a) (hb : KO b) : cmpE .ne (tKey a) (tKey b) st = some (!decide (a = b)) := by
  show (eqT st (tKey a) (tKey b)).map not = _
  rw [eq_key ha hb]
  rfl
/-! ### thin -/
structure Rw_ (ps : List KP) (n : Nat) : Prop where
  k : ∀ p ∈ ps, KO p.1
  v : ∀ p ∈ ps, -1000 < p.2 ∧ p.2 < 1000
  l : ps.length ≤ n
theorem Rw_.tn {ps : List KP} {n : Nat} (h : Rw_ ps n) : Tn (rowsT ps) 3 (1 + 3 * n) := by
  refine (Tn.tup (n := 2) (m := 3) fun t ht => ?_).mono (Nat.le_refl _) (by have := h.l; simp only [List.length_map]; omega)
  obtain ⟨p, hp, rfl⟩ := List.mem_map.mp ht
  refine (Tn.tup (n := 1) (m := 1) fun u hu => ?_).mono (Nat.le_refl _) (Nat.le_refl _)
  have hu : u = tKey p.1 ∨ u = .int p.2 := by simpa using hu
  rcases hu with rfl | rfl
  · exact (h.k p hp).thin
  · exact Tn.int (h.v p hp).1 (h.v p hp).2
theorem Rw_.sub {ps qs : List KP} {n m : Nat} (h : Rw_ ps n) (hs : ∀ p ∈ qs, p ∈ ps) (hl : qs.length ≤ m) : Rw_ qs m := ⟨fun p hp => h.k p (hs p hp), fun p hp => h.v p (hs p hp), hl⟩
theorem me_tn {a b : List KP} {n m : Nat} (ha : Rw_ a n) (hb : Rw_ b m) : Tn (meT a b) 4 (1 + (1 + 3 * (n + m)) * 2) := by
  refine (Tn.tup (n := 3) (m := 1 + 3 * (n + m)) fun u hu => ?_).mono (Nat.le_refl _) (by simp)
  have hu : u = rowsT a ∨ u = rowsT b := by simpa using hu
  rcases hu with rfl | rfl
  · exact ha.tn.mono (Nat.le_refl _) (by omega)
  · exact hb.tn.mono (Nat.le_refl _) (by omega)
/-! ### dicts of rows -/
def look (ps : List KP) (k : L2.Key) : Option Int := (ps.find? fun p => decide (p.1 = k)).map (·.2)
theorem look_cons (p : KP) (ps : List KP) (k : L2.Key) : look (p :: ps) k = if p.1 = k then some p.2 else look ps k := by
  unfold look
  rw [List.find?_cons]
  by_cases h : p.1 = k <;> simp [h]
theorem dget_kv : ∀ (ps : List KP) (k : L2.Key), dget (ps.map kvT) (tKey k) = (look ps k).map .int
  | [], k => rfl
  | p :: ps, k => by
    rw [List.map_cons, kvT, dget_cons, dget_kv ps k, look_cons]
    by_cases h : p.1 = k
    · rw [if_pos h, if_pos (by rw [h])]; rfl
    · rw [if_neg h, if_neg fun e => h (tKey_inj e)]
theorem look_some {ps : List KP} {k : L2.Key} {v : Int} (h : look ps k = some v) : (k, v) ∈ ps := by
  induction ps with
  | nil => cases h
  | cons p ps ih =>
    rw [look_cons] at h
    by_cases hk : p.1 = k
    · rw [if_pos hk] at h; cases h; subst hk; exact List.mem_cons_self
    · rw [if_neg hk] at h; exact List.mem_cons_of_mem _ (ih h)
theorem look_none {ps : List KP} {k : L2.Key} : look ps k = none ↔ k ∉ ps.map (·.1) := by
  induction ps with
  | nil => simp [look]
  | cons p ps ih =>
    rw [look_cons]
    by_cases hk : p.1 = k
    · simp [hk]
    · simp [hk, ih]
      exact fun _ e => hk e.symm
def hasK (ps : List KP) (k : L2.Key) : Bool := ps.any fun p => decide (p.1 = k)
theorem hasK_iff {ps : List KP} {k : L2.Key} : hasK ps k = true ↔ k ∈ ps.map (·.1) := by
  unfold hasK
  rw [List.any_eq_true, List.mem_map]
  exact ⟨fun ⟨p, hp, e⟩ => ⟨p, hp, of_decide_eq_true e⟩, fun ⟨p, hp, e⟩ => ⟨p, hp, decide_eq_true e⟩⟩
theorem hasK_no {ps : List KP} {k : L2.Key} : hasK ps k = false ↔ k ∉ ps.map (·.1) := by
  rw [← hasK_iff, Bool.not_eq_true]
theorem look_isSome {ps : List KP} {k : L2.Key} : (look ps k).isSome = hasK ps k := by
  cases h : look ps k with
  | none => rw [hasK_no.mpr (look_none.mp h)]; rfl
  | some v => rw [hasK_iff.mpr (List.mem_map.mpr ⟨_, look_some h, rfl⟩)]; rfl
theorem look_of {ps : List KP} (nd : (ps.map (·.1)).Nodup) {p : KP} (h : p ∈ ps) : look ps p.1 = some p.2 := by
  induction ps with
  | nil => cases h
  | cons q ps ih =>
    rw [List.map_cons,
          List.nodup_cons] at nd
    rw [look_cons]
    rcases List.mem_cons.mp
          h with rfl | h
    · rw [if_pos rfl]
    · rw [if_neg fun e => nd.1 (List.mem_map.mpr ⟨p, h, e.symm⟩), ih nd.2 h]
theorem kv_keys (ps : List KP) : (ps.map kvT).map (·.1) = (ps.map (·.1)).map tKey := by simp only [List.map_map]; rfl
theorem kv_nd {ps : List KP} (nd : (ps.map (·.1)).Nodup) : ((ps.map kvT).map (·.1)).Nodup := by
  rw [kv_keys]
  have key : ∀ l : List L2.Key, l.Nodup → (l.map tKey).Nodup := fun l => by
    induction l with
    | nil => simp
    | cons x l ih =>
      intro h
      rw [List.nodup_cons] at h
      rw [List.map_cons,
            List.nodup_cons]
      refine ⟨fun z => ?_, ih h.2⟩
      obtain ⟨y, hy, e⟩ := List.mem_map.mp z
      exact h.1 (tKey_inj e ▸ hy)
  exact key _ nd
theorem rows_pr (ps : List KP) : ps.map prT = (ps.map kvT).map pr := by simp only [List.map_map]; rfl
theorem kv_ok (ps : List KP) : ∀ p ∈ ps.map kvT, keyOk p.1 = true := fun p hp => by
  obtain ⟨q, _, rfl⟩ := List.mem_map.mp hp
  exact tKey_ok _
theorem dictT {ps : List KP} {st : Store} (nd : (ps.map (·.1)).Nodup) : biE (.dict true) [rowsT ps] st = .ok (.dct (ps.map kvT)) st := by
  rw [rowsT, rows_pr]
  exact dict_pr (kv_ok ps) (kv_nd nd)
theorem dictF {ps : List KP} {st : Store} (nd : (ps.map (·.1)).Nodup) : biE (.dict false) [rowsT ps] st = .ok (.loc st.length) (st ++ [.dct (ps.map kvT)]) := by
  rw [rowsT, rows_pr]
  simp only [biE, seqOf, Option.bind_some, pairsOf_pr (kv_ok ps), dmerge_nil (kv_nd nd)]
  rfl
def putD (ps : List KP) (k : L2.Key) (v : Int) : List KP := if ps.any fun p => decide (p.1 = k) then ps.map fun p => if p.1 = k then (p.1, v) else p else ps ++ [(k, v)]
theorem dput_kv (ps : List KP) (k : L2.Key) (v : Int) : dput (ps.map kvT) (tKey k) (.int v) = (putD ps k v).map kvT := by
  unfold dput putD
  have e : ((ps.map kvT).any fun p => decide (p.1 = tKey k)) = ps.any fun p => decide (p.1 = k) := by
    rw [List.any_map]
    refine congrArg (fun f => List.any ps f) (funext fun p => ?_)
    simp only [Function.comp, kvT]
    by_cases h : p.1 = k
    · simp [h]
    · rw [decide_eq_false h]
      exact decide_eq_false fun z => h (tKey_inj z)
  rw [e]
  split
  · simp only [List.map_map]
    refine List.map_congr_left
          fun p _ => ?_
    show (if (kvT p).1 = tKey k then ((kvT p).1, T.int v) else kvT p) = kvT (if p.1 = k then (p.1, v) else p)
    by_cases h : p.1 = k
    · rw [if_pos h]
      exact if_pos (congrArg tKey h)
    · rw [if_neg h]
      exact if_neg fun z => h (tKey_inj z)
  · rw [List.map_append]
    rfl
theorem putD_keys {ps : List KP} {k : L2.Key} {v : Int} (nd : (ps.map (·.1)).Nodup) : ((putD ps k v).map (·.1)).Nodup ∧ (putD ps k v).Perm (ps.filter (fun p => !decide (p.1 = k)) ++ [(k, v)]) := by
  by_cases h : k ∈ ps.map (·.1)
  · have ha : (ps.any fun p => decide (p.1 = k)) = true := by
      obtain ⟨p, hp, e⟩
            := List.mem_map.mp h
      exact List.any_eq_true.mpr
            ⟨p, hp, decide_eq_true e⟩
    unfold putD
    rw [if_pos ha]
    refine ⟨?_, ?_⟩
    · have : (ps.map fun p => if p.1 = k then (p.1, v) else p).map (·.1) = ps.map (·.1) := by
        rw [List.map_map]
        refine
              List.map_congr_left fun p _ => ?_
        simp only [Function.comp]
        split <;> rfl
      rw [this]; exact nd
    · clear ha
      induction ps with
      | nil => cases h
      | cons p ps ih =>
        rw [List.map_cons,
              List.nodup_cons] at nd
        by_cases hk : p.1 = k
        · have hn : ∀ q ∈ ps, ¬ q.1 = k := fun q hq e => nd.1 (List.mem_map.mpr ⟨q, hq, e.trans hk.symm⟩)
          have e1 : (ps.map fun p => if p.1 = k then (p.1, v) else p) = ps := (List.map_congr_left fun q hq => if_neg (hn q hq)).trans (List.map_id _)
          have e2 : ps.filter (fun p => !decide (p.1 = k)) = ps := List.filter_eq_self.mpr fun q hq => by simp [hn q hq]
          rw [List.map_cons, if_pos hk, e1, List.filter_cons_of_neg (by simp [hk]), e2, hk]
          exact (List.perm_append_comm (l₁ := [(k, v)]) (l₂ := ps))
        · have hm : k ∈ ps.map (·.1) := by
            rw [List.map_cons] at h
            rcases
                  List.mem_cons.mp h with e | h
            · exact absurd e.symm hk
            · exact h
          rw [List.map_cons, if_neg hk, List.filter_cons_of_pos (by simp [hk])]
          exact (ih nd.2 hm).cons p
  · have ha : (ps.any fun p => decide (p.1 = k)) = false := by
      rw [List.any_eq_false]
      exact fun p hp e => h (List.mem_map.mpr ⟨p, hp, of_decide_eq_true e⟩)
    unfold putD
    rw [ha]
    refine ⟨?_, ?_⟩
    · show ((ps ++ [(k, v)]).map (·.1)).Nodup
      rw [List.map_append]
      exact List.nodup_append.mpr ⟨nd, by simp, fun a ham b hb => by simp at hb; subst hb; exact fun e => h (e ▸ ham)⟩
    · have : ps.filter (fun p => !decide (p.1 = k)) = ps := List.filter_eq_self.mpr fun q hq => by
        have : ¬ q.1 = k := fun e => h (List.mem_map.mpr ⟨q, hq, e⟩)
        simp [this]
      rw [this]
      exact List.Perm.refl _
/-! ### rows by sorted keys -/
theorem sortP_of_perm {a b : List KP} (h : a.Perm b) : sortP a = sortP b := srP_uniq (sortP_sr a) (sortP_sr b) ((sortP_perm a).trans (h.trans (sortP_perm b).symm))
theorem sortP_id {a : List KP} (h : SrP a) : sortP a = a := srP_uniq (sortP_sr a) h (sortP_perm a)
def byKey (D : List KP) (k : L2.Key) : KP := (k, (look D k).getD 0)
theorem by_keys {D : List KP} {L : List L2.Key} (nd : (D.map (·.1)).Nodup) (hp : L.Perm (D.map (·.1))) (hs : L.Pairwise fun p q => ltKey q p = false) : L.map (byKey D) = sortP D := by
  refine srP_uniq ?_ (sortP_sr D) ?_
  · have hnd : L.Nodup := hp.nodup_iff.mpr nd
    refine List.pairwise_map.mpr ((hs.and hnd).imp fun {a b} h => ltKP_no.mpr ⟨h.1, fun e => absurd e.symm h.2⟩)
  · refine (hp.map (byKey D)).trans ?_
    rw [List.map_map]
    have : D.map (byKey D ∘ fun x => x.1) = D := by
      refine (List.map_congr_left fun p hp => ?_).trans (List.map_id D)
      simp only [Function.comp, byKey, look_of nd hp]
      rfl
    rw [this]
    exact (sortP_perm D).symm
theorem getT_by {D : List KP} {k : L2.Key} (h : k ∈ D.map (·.1)) : dget (D.map kvT) (tKey k) = some (.int (byKey D k).2) := by
  rw [dget_kv]
  cases e : look D k with
  | none => exact absurd h (look_none.mp e)
  | some v => simp [byKey, e]
end Lw
set_option Elab.async false
set_option linter.all false
set_option maxRecDepth 100000
namespace Lw
open PySem PySem.Spec L2 PyProof.Rows
def tp (i : Nat) : Stmt := PySem.Challenge.pw_listworlds_k21_whole_classes_of_names.main.body.getD i (.Pass ⟨0, 0, 0, 0⟩)
def d0 : DefD := ⟨"_wall", tp 0, ["k"], ⟨1, 1, [.whl (.lit (.bl true)) [.pass]]⟩⟩
def d1 : DefD := ⟨"is_integer", tp 10, ["thing"], ⟨1, 1, [.ret (some (.and (.bi (.isi .int) [.var 0]) (.not (.bi (.isi .bool) [.var 0]))))]⟩⟩
def d2 : DefD := ⟨"is_count", tp 11, ["thing"], ⟨1, 1, [.ret (some (.and (.call 1 true [.var 0]) (.cmp .ge (.var 0) (.lit (.int 0)))))]⟩⟩
def d3 : DefD := ⟨"is_name", tp 12, ["thing", "sign"], ⟨1, 2, [.ite (.or (.not (.bi (.isi .str) [.var 0])) (.or (.not (.chain .le .le (.lit (.int 1)) (.bi .len [.var 0]) (.lit (.int 8)))) (.cmp .notin (.idx (.var 0) (.lit (.int 0))) (.lit (.str "abcdefghijklmnopqrstuvwxyz"))))) [.ret (some (.lit (.bl false)))] [], .ret (some (.and (.bi .all [.comp true (.cmp .isin (.var 1) (.bin .add (.lit (.str "abcdefghijklmnopqrstuvwxyz")) (.lit (.str "0123456789")))) (.name 1) .val [.var 0] [] [1]]) (.cmp .notin (.var 0) (.lit (.tup [.str "and", .str "apart", .str "cell", .str "else", .str "free", .str "holds", .str "if", .str "is", .str "list", .str "new", .str "next", .str "none", .str "not", .str "of", .str "or", .str "row", .str "same", .str "step", .str "then", .str "to", .str "unlike", .str "while", .str "with", .str "world"])))))]⟩⟩
def d4 : DefD := ⟨"term_key", tp 14, ["term"], ⟨1, 1, [.ret (some (.ite (.cmp .is (.var 0) (.lit .non)) (.lit (.str "")) (.var 0)))]⟩⟩
def d5 : DefD := ⟨"terms_in", tp 15, ["saying", "found", "couple", "word", "one", "other", "term"], ⟨1, 7, [.set 1 (.ldd []), .fr (.name 2) .val [.bin .add (.idx (.var 0) (.lit (.int 0))) (.idx (.var 0) (.lit (.int 1)))] [.expr (.lup (.var 1) (.var 6) (.lit (.bl true)) (.name 6) .val [.var 2] [] [6])], .fr (.tup [.name 3, .name 4, .name 5]) .val [.idx (.var 0) (.lit (.int 2))] [.expr (.lpu (.var 1) [(.var 4, .lit (.bl true)), (.var 5, .lit (.bl true))])], .ret (some (.bi .tuple [.lsrt true (.var 1) (.call 4 true [.var 0])]))]⟩⟩
def d6 : DefD := ⟨"names_in", tp 16, ["saying", "term"], ⟨1, 2, [.ret (some (.bi .tuple [.comp true (.var 1) (.name 1) .val [.call 5 true [.var 0]] [.cmp .isnt (.var 1) (.lit .non)] [1]]))]⟩⟩
def d7 : DefD := ⟨"check_names", tp 19, ["names", "name", "one", "other"], ⟨1, 4, [.ite (.or (.not (.bi (.isi .tuple) [.var 0])) (.not (.bi .all [.comp true (.call 3 true [.var 1]) (.name 1) .val [.var 0] [] [1]]))) [.raise 1 []] [], .ite (.not (.bi .all [.comp true (.cmp .lt (.var 2) (.var 3)) (.tup [.name 2, .name 3]) .zip2 [.var 0, .sli (.var 0) (some (.lit (.int 1))) none] [] [2, 3]])) [.raise 1 []] [], .ite (.cmp .gt (.bi .len [.var 0]) (.lit (.int 8))) [.raise 2 [.lit (.str "names"), .lit (.int 8)]] []]⟩⟩
def d8 : DefD := ⟨"all_classes", tp 20, ["names", "rows", "_name", "longer", "row", "most", "number"], ⟨1, 7, [.expr (.call 7 true [.var 0]), .set 1 (.lst true [.tup [.tup [], .lit (.int 0)]]), .fr (.name 2) .val [.var 0] [.set 3 (.lst false []), .fr (.tup [.name 4, .name 5]) .val [.var 1] [.expr (.mt .extend (.var 3) [.comp true (.tup [.bin .add (.var 4) (.tup [.var 6]), .bi .max2 [.var 5, .var 6]]) (.name 6) .rng1 [.bin .add (.var 5) (.lit (.int 2))] [] [6]])], .set 1 (.var 3)], .ret (some (.bi .tuple [.comp true (.var 4) (.tup [.name 4, .name 5]) .val [.var 1] [] [4, 5]]))]⟩⟩
def d9 : DefD := ⟨"are_classes", tp 21, ["names", "thing", "most", "number"], ⟨2, 4, [.expr (.call 7 true [.var 0]), .ite (.or (.not (.bi (.isi .tuple) [.var 1])) (.or (.cmp .ne (.bi .len [.var 1]) (.bi .len [.var 0])) (.not (.bi .all [.comp true (.call 2 true [.var 3]) (.name 3) .val [.var 1] [] [3]])))) [.ret (some (.lit (.bl false)))] [], .set 2 (.lit (.int 0)), .fr (.name 3) .val [.var 1] [.ite (.cmp .gt (.var 3) (.bin .add (.var 2) (.lit (.int 1)))) [.ret (some (.lit (.bl false)))] [], .set 2 (.bi .max2 [.var 2, .var 3])], .ret (some (.lit (.bl true)))]⟩⟩
def d10 : DefD := ⟨"check_classes", tp 22, ["names", "row"], ⟨2, 2, [.ite (.not (.call 9 true [.var 0, .var 1])) [.raise 1 []] []]⟩⟩
def d11 : DefD := ⟨"class_of", tp 23, ["names", "row", "term"], ⟨3, 3, [.expr (.call 10 true [.var 0, .var 1]), .ite (.cmp .is (.var 2) (.lit .non)) [.ret (some (.lit (.int 0)))] [], .ite (.or (.not (.call 3 true [.var 2])) (.cmp .notin (.var 2) (.var 0))) [.raise 1 []] [], .ret (some (.idx (.var 1) (.mt .index (.var 0) [.var 2])))]⟩⟩
def d12 : DefD := ⟨"members", tp 24, ["names", "row", "found", "number", "name", "its"], ⟨2, 6, [.expr (.call 10 true [.var 0, .var 1]), .set 2 (.lst false []), .fr (.name 3) .rng1 [.bin .add (.bi .max1 [.bin .add (.var 1) (.tup [.lit (.int 0)])]) (.lit (.int 1))] [.expr (.mt .append (.var 2) [.bi .tuple [.comp true (.var 4) (.tup [.name 4, .name 5]) .zip2 [.var 0, .var 1] [.cmp .eq (.var 5) (.var 3)] [4, 5]]])], .ret (some (.bi .tuple [.var 2]))]⟩⟩
def d13 : DefD := ⟨"check_saying", tp 25, ["saying", "names", "name"], ⟨2, 3, [.ite (.not (.bi .all [.comp true (.cmp .isin (.var 2) (.var 1)) (.name 2) .val [.call 6 true [.var 0]] [] [2]])) [.raise 1 []] []]⟩⟩
def d14 : DefD := ⟨"is_let", tp 26, ["saying", "names", "row", "one", "other"], ⟨3, 5, [.expr (.call 10 true [.var 1, .var 2]), .expr (.call 13 true [.var 0, .var 1]), .fr (.tup [.name 3, .name 4]) .val [.idx (.var 0) (.lit (.int 0))] [.ite (.cmp .ne (.call 11 true [.var 1, .var 2, .var 3]) (.call 11 true [.var 1, .var 2, .var 4])) [.ret (some (.lit (.bl false)))] []], .fr (.tup [.name 3, .name 4]) .val [.idx (.var 0) (.lit (.int 1))] [.ite (.cmp .eq (.call 11 true [.var 1, .var 2, .var 3]) (.call 11 true [.var 1, .var 2, .var 4])) [.ret (some (.lit (.bl false)))] []], .ret (some (.lit (.bl true)))]⟩⟩
def d15 : DefD := ⟨"classes_let", tp 27, ["saying", "names", "some", "row"], ⟨2, 4, [.set 2 (.call 8 true [.var 1]), .expr (.call 13 true [.var 0, .var 1]), .ret (some (.bi .tuple [.comp true (.var 3) (.name 3) .val [.var 2] [.call 14 true [.var 0, .var 1, .var 3]] [3]]))]⟩⟩
def d16 : DefD := ⟨"_law_bag", tp 29, ["script", "cell"], ⟨1, 2, [.ret (some (.lst false [.lit (.int 0), .lit (.int 1234567891), .lit (.int 0), .comp true (.bi .abs [.var 1]) (.name 1) .val [.sli (.var 0) none (some (.lit (.int 63)))] [] [1]]))]⟩⟩
def d17 : DefD := ⟨"_law_take", tp 30, ["bag", "many", "begin", "second", "cell", "stirred", "value"], ⟨2, 7, [.ite (.cmp .eq (.idx (.var 0) (.lit (.int 0))) (.lit (.int 0))) [.set 4 (.idx (.bin .add (.sli (.idx (.var 0) (.lit (.int 3))) (some (.idx (.var 0) (.lit (.int 2)))) none) (.lst true [.lit (.int 0)])) (.lit (.int 0))), .augi (.var 0) (.lit (.int 2)) .add (.lit (.int 1)), .ite (.cmp .ge (.var 4) (.bin .pow (.lit (.int 10)) (.lit (.int 18)))) [.seti (.var 0) (.lit (.int 0)) (.var 4)] [], .set 5 (.bin .add (.bin .add (.bin .mul (.idx (.var 0) (.lit (.int 1))) (.lit (.int 48271))) (.bin .mod (.bi .int [.var 4]) (.lit (.int 2147483647)))) (.bin .mul (.lit (.int 7919)) (.idx (.var 0) (.lit (.int 2))))), .seti (.var 0) (.lit (.int 1)) (.bin .mod (.bi .int [.var 5]) (.lit (.int 2147483647)))] [], .ite (.cmp .gt (.idx (.var 0) (.lit (.int 0))) (.lit (.int 0))) [.set 6 (.bin .mod (.bi .int [.idx (.var 0) (.lit (.int 0))]) (.var 1)), .seti (.var 0) (.lit (.int 0)) (.bin .fdiv (.bi .int [.idx (.var 0) (.lit (.int 0))]) (.var 1)), .ret (some (.var 6))] [], .set 2 (.bin .mod (.bi .int [.bin .mul (.bin .add (.idx (.var 0) (.lit (.int 1))) (.lit (.int 1))) (.lit (.int 39373))]) (.lit (.int 1000000007))), .set 3 (.bin .mod (.bi .int [.bin .mul (.bin .mod (.bi .int [.bin .mul (.var 2) (.var 2)]) (.lit (.int 998244353))) (.lit (.int 30011))]) (.lit (.int 998244353))), .ret (some (.bin .mod (.bi .int [.bin .fdiv (.var 3) (.lit (.int 7))]) (.var 1)))]⟩⟩
def d18 : DefD := ⟨"_law_some", tp 31, ["bag", "things"], ⟨2, 2, [.ret (some (.idx (.var 1) (.call 17 false [.var 0, .bi .len [.var 1]])))]⟩⟩
def d19 : DefD := ⟨"_law_alike", tp 32, ["found", "due"], ⟨2, 2, [.ret (some (.and (.cmp .eq (.bi .repr [.var 0]) (.bi .repr [.var 1])) (.cmp .eq (.var 0) (.var 1))))]⟩⟩
def d20 : DefD := ⟨"_law_by", tp 33, ["things", "face", "order", "its", "k", "thing"], ⟨2, 6, [.set 2 (.bi (.sorted true) [.comp true (.tup [.callv 1 true [.var 5], .var 4]) (.tup [.name 4, .name 5]) .enum [.var 0] [] [4, 5]]), .ret (some (.comp true (.idx (.var 0) (.var 4)) (.tup [.name 3, .name 4]) .val [.var 2] [] [3, 4]))]⟩⟩
def d21 : DefD := ⟨"_law_key", tp 34, ["term"], ⟨1, 1, [.ret (some (.ite (.cmp .is (.var 0) (.lit .non)) (.tup [.lit (.int 0), .lit (.str "")]) (.tup [.lit (.int 1), .var 0])))]⟩⟩
def d22 : DefD := ⟨"_law_couples", tp 35, ["names", "k", "terms", "found", "other"], ⟨1, 5, [.asg (.tup [.name 2, .name 3]) (.tup [.bin .add (.tup [.lit .non]) (.var 0), .lst false []]), .fr (.name 1) .rng1 [.bi .len [.var 2]] [.expr (.mt .extend (.var 3) [.comp true (.tup [.idx (.var 2) (.var 1), .var 4]) (.name 4) .val [.sli (.var 2) (some (.bin .add (.var 1) (.lit (.int 1)))) none] [] [4]])], .ret (some (.var 3))]⟩⟩
def d23 : DefD := ⟨"_law_fact_key", tp 36, ["fact"], ⟨1, 1, [.ret (some (.tup [.idx (.var 0) (.lit (.int 0)), .call 21 true [.idx (.var 0) (.lit (.int 1))], .call 21 true [.idx (.var 0) (.lit (.int 2))]]))]⟩⟩
def d24 : DefD := ⟨"_law_saying", tp 37, ["bag", "names", "most", "couples", "same", "unlike", "facts", "k", "word", "one", "couple"], ⟨3, 11, [.set 3 (.call 22 true [.var 1]), .set 4 (.bi .tuple [.comp true (.var 10) (.name 10) .val [.var 3] [.cmp .eq (.call 17 false [.var 0, .lit (.int 9)]) (.lit (.int 0))] [10]]), .set 5 (.bi .tuple [.comp true (.var 10) (.name 10) .val [.var 3] [.and (.cmp .eq (.call 17 false [.var 0, .lit (.int 5)]) (.lit (.int 0))) (.cmp .notin (.var 10) (.var 4))] [10]]), .set 6 (.lst false []), .fr (.name 7) .rng1 [.call 17 false [.var 0, .bin .add (.var 2) (.lit (.int 1))]] [.set 8 (.call 18 false [.var 0, .lst true [.lit (.str "cell"), .lit (.str "list"), .lit (.str "list")]]), .set 9 (.call 18 false [.var 0, .bi (.list true) [.var 1]]), .expr (.mt .append (.var 6) [.tup [.var 8, .var 9, .call 18 false [.var 0, .bin .add (.lst true [.lit .non]) (.bi (.list true) [.var 1])]]])], .ret (some (.tup [.var 4, .var 5, .bi .tuple [.call 20 false [.var 6, .lit (.fn 23)]]]))]⟩⟩
def d25 : DefD := ⟨"_law_mixed", tp 38, ["bag", "things", "found", "thing"], ⟨2, 4, [.set 2 (.lst false []), .fr (.name 3) .val [.var 1] [.expr (.mt .insert (.var 2) [.call 17 false [.var 0, .bin .add (.bi .len [.var 2]) (.lit (.int 1))], .var 3])], .ret (some (.var 2))]⟩⟩
def d26 : DefD := ⟨"_law_is_int", tp 39, ["thing"], ⟨1, 1, [.ret (some (.and (.bi (.isi .int) [.var 0]) (.not (.bi (.isi .bool) [.var 0]))))]⟩⟩
def d27 : DefD := ⟨"_law_classes", tp 40, ["names", "found", "name", "longer", "row", "number"], ⟨1, 6, [.set 1 (.lst true [.tup []]), .fr (.name 2) .val [.var 0] [.set 3 (.lst false []), .fr (.name 4) .val [.var 1] [.expr (.mt .extend (.var 3) [.comp true (.bin .add (.var 4) (.tup [.var 5])) (.name 5) .rng1 [.bin .add (.bi .max1 [.bin .add (.lst true [.lit (.int 0)]) (.bi (.list true) [.var 4])]) (.lit (.int 2))] [] [5]])], .set 1 (.var 3)], .ret (some (.bi (.sorted true) [.var 1]))]⟩⟩
def d28 : DefD := ⟨"_law_class_of", tp 41, ["names", "row", "term"], ⟨3, 3, [.ret (some (.ite (.cmp .is (.var 2) (.lit .non)) (.lit (.int 0)) (.idx (.var 1) (.mt .index (.var 0) [.var 2]))))]⟩⟩
def d29 : DefD := ⟨"_law_lets", tp 42, ["saying", "names", "row", "one", "other"], ⟨3, 5, [.fr (.tup [.name 3, .name 4]) .val [.idx (.var 0) (.lit (.int 0))] [.ite (.cmp .ne (.call 28 true [.var 1, .var 2, .var 3]) (.call 28 true [.var 1, .var 2, .var 4])) [.ret (some (.lit (.bl false)))] []], .ret (some (.cmp .eq (.comp true (.lit (.int 1)) (.tup [.name 3, .name 4]) .val [.idx (.var 0) (.lit (.int 1))] [.cmp .eq (.call 28 true [.var 1, .var 2, .var 3]) (.call 28 true [.var 1, .var 2, .var 4])] [3, 4]) (.lst true [])))]⟩⟩
def d30 : DefD := ⟨"law", tp 44, ["script", "bag", "lap", "nine", "heard", "names", "every", "inner", "let", "row", "thing", "odd", "lots", "found", "fit", "k", "number", "term", "one", "name", "its"], ⟨1, 21, [.set 1 (.call 16 false [.var 0]), .fr (.name 2) .rng1 [.lit (.int 5)] [.set 5 (.sli (.tup [.lit (.str "a"), .lit (.str "x"), .lit (.str "y"), .lit (.str "z")]) (some (.call 17 false [.var 1, .lit (.int 2)])) (some (.bin .add (.lit (.int 2)) (.call 17 false [.var 1, .lit (.int 3)])))), .set 6 (.call 27 true [.var 5]), .ite (.not (.call 19 true [.call 8 true [.var 5], .bi .tuple [.var 6]])) [.ret (some (.lit (.bl false)))] [], .set 7 (.ite (.cmp .ne (.var 5) (.tup [])) (.call 24 false [.var 1, .var 5, .lit (.int 2)]) (.tup [.tup [], .tup [], .tup []])), .set 8 (.comp true (.var 9) (.name 9) .val [.var 6] [.call 29 true [.var 7, .var 5, .var 9]] [9]), .ite (.not (.call 19 true [.call 15 true [.var 7, .var 5], .bi .tuple [.var 8]])) [.ret (some (.lit (.bl false)))] [], .fr (.name 9) .val [.sli (.call 25 false [.var 1, .var 6]) none (some (.lit (.int 5)))] [.set 12 (.comp true (.bi .tuple [.comp true (.var 19) (.tup [.name 19, .name 20]) .zip2 [.var 5, .var 9] [.cmp .eq (.var 20) (.var 16)] [19, 20]]) (.name 16) .rng1 [.bin .add (.bi .max1 [.bin .add (.lst true [.lit (.int 0)]) (.bi (.list true) [.var 9])]) (.lit (.int 1))] [] [16]), .set 13 (.lst true [.call 12 true [.var 5, .var 9], .call 14 true [.var 7, .var 5, .var 9], .call 9 true [.var 5, .var 9], .comp true (.call 11 true [.var 5, .var 9, .var 17]) (.name 17) .val [.bin .add (.tup [.lit .non]) (.var 5)] [] [17]]), .ite (.not (.call 19 true [.var 13, .lst true [.bi .tuple [.var 12], .cmp .isin (.var 9) (.var 8), .lit (.bl true), .bin .add (.lst true [.lit (.int 0)]) (.bi (.list true) [.var 9])]])) [.ret (some (.lit (.bl false)))] []], .set 9 (.call 18 false [.var 1, .var 6]), .fr (.name 10) .val [.lst true [.lit .non, .bi (.list true) [.var 9], .bin .add (.var 9) (.tup [.lit (.int 0)]), .sli (.var 9) (some (.lit (.int 1))) none, .bin .mul (.tup [.lit (.int 1)]) (.bi .len [.var 5]), .bin .mul (.tup [.lit (.int 2)]) (.bi .len [.var 5]), .bin .mul (.tup [.lit (.bl true)]) (.bi .len [.var 5]), .bin .mul (.tup [.neg (.lit (.int 1))]) (.bi .len [.var 5]), .bi .tupr [.lit (.int 1), .bin .add (.bi .len [.var 5]) (.lit (.int 1))], .bin .mul (.tup [.lit (.int 0)]) (.bi .len [.var 5])]] [.set 14 (.and (.bi (.isi .tuple) [.var 10]) (.and (.cmp .eq (.comp true (.var 18) (.name 18) .val [.var 10] [.not (.call 26 true [.var 18])] [18]) (.lst true [])) (.cmp .isin (.var 10) (.var 6)))), .ite (.not (.call 19 true [.call 9 true [.var 5, .var 10], .var 14])) [.ret (some (.lit (.bl false)))] [], .ite (.and (.not (.var 14)) (.cmp .ne (.hear (.many "told" [([1], [0, 2], "nothing", false), ([2], [0, 1], "too large", true)]) (.call 12 true [.var 5, .var 10])) (.tup [.lit (.str "nothing")]))) [.ret (some (.lit (.bl false)))] []], .set 11 (.call 18 false [.var 1, .lst true [.lit .non, .lst true [.lit (.str "x")], .tup [.lit (.str "y"), .lit (.str "x")], .tup [.lit (.str "x"), .lit (.str "x")], .tup [.lit (.str "A")], .tup [.lit (.int 1)]]]), .set 4 (.lst false [.hear (.many "told" [([1], [0, 2], "nothing", false), ([2], [0, 1], "too large", true)]) (.call 8 true [.var 11])]), .expr (.mt .append (.var 4) [.hear (.many "told" [([1], [0, 2], "nothing", false), ([2], [0, 1], "too large", true)]) (.call 9 true [.var 11, .tup []])]), .expr (.mt .append (.var 4) [.hear (.many "told" [([1], [0, 2], "nothing", false), ([2], [0, 1], "too large", true)]) (.call 15 true [.var 7, .var 11])]), .expr (.mt .append (.var 4) [.hear (.many "told" [([1], [0, 2], "nothing", false), ([2], [0, 1], "too large", true)]) (.call 11 true [.var 5, .var 9, .call 18 false [.var 1, .lst true [.lit (.str "q"), .lit (.int 1), .lit (.str "A")]]])]), .expr (.mt .append (.var 4) [.hear (.many "told" [([1], [0, 2], "nothing", false), ([2], [0, 1], "too large", true)]) (.call 15 true [.tup [.tup [], .tup [], .tup [.tup [.lit (.str "cell"), .lit (.str "q"), .lit .non]]], .var 5])]), .expr (.mt .append (.var 4) [.hear (.many "told" [([1], [0, 2], "nothing", false), ([2], [0, 1], "too large", true)]) (.call 14 true [.var 7, .var 5, .bin .add (.var 9) (.tup [.lit (.int 0)])])]), .ite (.cmp .ne (.var 4) (.bin .mul (.lst true [.tup [.lit (.str "nothing")]]) (.lit (.int 6)))) [.ret (some (.lit (.bl false)))] []], .set 3 (.bi .tuple [.comp true (.bin .add (.lit (.str "n")) (.bi .str [.var 15])) (.name 15) .rng1 [.lit (.int 9)] [] [15]]), .set 4 (.lst false [.hear (.many "told" [([1], [0, 2], "nothing", false), ([2], [0, 1], "too large", true)]) (.call 9 true [.var 3, .tup []])]), .expr (.mt .append (.var 4) [.hear (.many "told" [([1], [0, 2], "nothing", false), ([2], [0, 1], "too large", true)]) (.call 8 true [.var 3])]), .ret (some (.cmp .eq (.var 4) (.bin .mul (.lst true [.tup [.lit (.str "too large"), .lit (.str "names"), .lit (.int 8)]]) (.lit (.int 2)))))]⟩⟩
def DD : List DefD := [d0, d1, d2, d3, d4, d5, d6, d7, d8, d9, d10, d11, d12, d13, d14, d15, d16, d17, d18, d19, d20, d21, d22, d23, d24, d25, d26, d27, d28, d29, d30]
def HH : List (DefD × Hk) := [(⟨"_law_heard", tp 43, ["act", "error"], ⟨1, 2, []⟩⟩, (.many "told" [([1], [0, 2], "nothing", false), ([2], [0, 1], "too large", true)]))]
def CN : List (Str × T) := [("LETTERS", .str "abcdefghijklmnopqrstuvwxyz"), ("DIGITS", .str "0123456789"), ("MOST_LETTERS", .int 8), ("RESERVED", .tup [.str "and", .str "apart", .str "cell", .str "else", .str "free", .str "holds", .str "if", .str "is", .str "list", .str "new", .str "next", .str "none", .str "not", .str "of", .str "or", .str "row", .str "same", .str "step", .str "then", .str "to", .str "unlike", .str "while", .str "with", .str "world"]), ("MOST_NAMES", .int 8)]
def BB : List Str := ["abs", "all", "bool", "enumerate", "int", "isinstance", "len", "list", "max", "range", "repr", "sorted", "str", "tuple", "zip"]
def XX : Xs := ⟨[("ListError", false), ("Nothing", true), ("TooLarge", false)], [[true, false, false], [true, true, false], [true, false, true]], [none, none, some ("what", "limit")], []⟩
def LM : List (Str × Addr × Addr) := [("law", 259, 257), ("terms_in", 105, 103)]
end Lw
set_option Elab.async false
set_option linter.all false
set_option maxRecDepth 100000
namespace Lw
open PySem PySem.Spec L2 PyProof.Rows
theorem len0 {us : List Value} (h : us.length = 0) : us = [] := List.length_eq_zero_iff.mp h
theorem len1 {us : List Value} (h : us.length = 1) : ∃ a, us = [a] := List.length_eq_one_iff.mp h
theorem len2 {us : List Value} (h : us.length = 2) : ∃ a b, us = [a, b] := by
  match us, h with
  | [a, b], _ => exact ⟨a, b, rfl⟩
theorem len3 {us : List Value} (h : us.length = 3) : ∃ a b c, us = [a, b, c] := by
  match us, h with
  | [a, b, c], _ => exact ⟨a, b, c, rfl⟩
theorem arg0 : argB d0 := fun kV doc pm an cdv ct us hl => by
  obtain ⟨a, rfl⟩ := len1 hl
  rfl
theorem arg1 : argB d1 := fun kV doc pm an cdv ct us hl => by
  obtain ⟨a, rfl⟩ := len1 hl
  rfl
theorem arg2 : argB d2 := fun kV doc pm an cdv ct us hl => by
  obtain ⟨a, rfl⟩ := len1 hl
  rfl
theorem arg3 : argB d3 := fun kV doc pm an cdv ct us hl => by
  obtain ⟨a, rfl⟩ := len1 hl
  rfl
theorem arg4 : argB d4 := fun kV doc pm an cdv ct us hl => by
  obtain ⟨a, rfl⟩ := len1 hl
  rfl
theorem arg5 : argB d5 := fun kV doc pm an cdv ct us hl => by
  obtain ⟨a, rfl⟩ := len1 hl
  rfl
theorem arg6 : argB d6 := fun kV doc pm an cdv ct us hl => by
  obtain ⟨a, rfl⟩ := len1 hl
  rfl
theorem arg7 : argB d7 := fun kV doc pm an cdv ct us hl => by
  obtain ⟨a, rfl⟩ := len1 hl
  rfl
theorem arg8 : argB d8 := fun kV doc pm an cdv ct us hl => by
  obtain ⟨a, rfl⟩ := len1 hl
  rfl
theorem arg9 : argB d9 := fun kV doc pm an cdv ct us hl => by
  obtain ⟨a, b, rfl⟩ := len2 hl
  rfl
theorem arg10 : argB d10 := fun kV doc pm an cdv ct us hl => by
  obtain ⟨a, b, rfl⟩ := len2 hl
  rfl
theorem arg11 : argB d11 := fun kV doc pm an cdv ct us hl => by
  obtain ⟨a, b, c, rfl⟩ := len3 hl
  rfl
theorem arg12 : argB d12 := fun kV doc pm an cdv ct us hl => by
  obtain ⟨a, b, rfl⟩ := len2 hl
  rfl
theorem arg13 : argB d13 := fun kV doc pm an cdv ct us hl => by
  obtain ⟨a, b, rfl⟩ := len2 hl
  rfl
theorem arg14 : argB d14 := fun kV doc pm an cdv ct us hl => by
  obtain ⟨a, b, c, rfl⟩ := len3 hl
  rfl
theorem arg15 : argB d15 := fun kV doc pm an cdv ct us hl => by
  obtain ⟨a, b, rfl⟩ := len2 hl
  rfl
theorem arg16 : argB d16 := fun kV doc pm an cdv ct us hl => by
  obtain ⟨a, rfl⟩ := len1 hl
  rfl
theorem arg17 : argB d17 := fun kV doc pm an cdv ct us hl => by
  obtain ⟨a, b, rfl⟩ := len2 hl
  rfl
theorem arg18 : argB d18 := fun kV doc pm an cdv ct us hl => by
  obtain ⟨a, b, rfl⟩ := len2 hl
  rfl
theorem arg19 : argB d19 := fun kV doc pm an cdv ct us hl => by
  obtain ⟨a, b, rfl⟩ := len2 hl
  rfl
theorem arg20 : argB d20 := fun kV doc pm an cdv ct us hl => by
  obtain ⟨a, b, rfl⟩ := len2 hl
  rfl
theorem arg21 : argB d21 := fun kV doc pm an cdv ct us hl => by
  obtain ⟨a, rfl⟩ := len1 hl
  rfl
theorem arg22 : argB d22 := fun kV doc pm an cdv ct us hl => by
  obtain ⟨a, rfl⟩ := len1 hl
  rfl
theorem arg23 : argB d23 := fun kV doc pm an cdv ct us hl => by
  obtain ⟨a, rfl⟩ := len1 hl
  rfl
theorem arg24 : argB d24 := fun kV doc pm an cdv ct us hl => by
  obtain ⟨a, b, c, rfl⟩ := len3 hl
  rfl
theorem arg25 : argB d25 := fun kV doc pm an cdv ct us hl => by
  obtain ⟨a, b, rfl⟩ := len2 hl
  rfl
theorem arg26 : argB d26 := fun kV doc pm an cdv ct us hl => by
  obtain ⟨a, rfl⟩ := len1 hl
  rfl
theorem arg27 : argB d27 := fun kV doc pm an cdv ct us hl => by
  obtain ⟨a, rfl⟩ := len1 hl
  rfl
theorem arg28 : argB d28 := fun kV doc pm an cdv ct us hl => by
  obtain ⟨a, b, c, rfl⟩ := len3 hl
  rfl
theorem arg29 : argB d29 := fun kV doc pm an cdv ct us hl => by
  obtain ⟨a, b, c, rfl⟩ := len3 hl
  rfl
theorem arg30 : argB d30 := fun kV doc pm an cdv ct us hl => by
  obtain ⟨a, rfl⟩ := len1 hl
  rfl
theorem arg_all : ∀ d ∈ DD, argB d := by
  intro d hd
  simp only [DD, List.mem_cons, List.not_mem_nil, or_false] at hd
  rcases hd with rfl | rfl | rfl | rfl | rfl | rfl | rfl | rfl | rfl | rfl | rfl | rfl | rfl | rfl | rfl | rfl | rfl | rfl | rfl | rfl | rfl | rfl | rfl | rfl | rfl | rfl | rfl | rfl | rfl | rfl | rfl
  · exact arg0
  · exact arg1
  · exact arg2
  · exact arg3
  · exact arg4
  · exact arg5
  · exact arg6
  · exact arg7
  · exact arg8
  · exact arg9
  · exact arg10
  · exact arg11
  · exact arg12
  · exact arg13
  · exact arg14
  · exact arg15
  · exact arg16
  · exact arg17
  · exact arg18
  · exact arg19
  · exact arg20
  · exact arg21
  · exact arg22
  · exact arg23
  · exact arg24
  · exact arg25
  · exact arg26
  · exact arg27
  · exact arg28
  · exact arg29
  · exact arg30
theorem hear_all : ∀ d ∈ HH, argB d.1 := by
  intro d hd
  simp only [HH, List.mem_cons, List.not_mem_nil, or_false] at hd
  subst hd
  intro kV doc pm an cdv ct us hl
  obtain ⟨a, rfl⟩ := len1 hl
  rfl
theorem chk_k21 : Checks DD BB XX CN HH LM := by
  have h1 : DD.all (chkD (gtOf DD BB XX CN HH LM)) = true := by decide +kernel
  have h2 : HH.all (chkH (gtOf DD BB XX CN HH LM) XX) = true := by decide +kernel
  exact ⟨fun d hd => List.all_eq_true.mp h1 d hd, arg_all, fun d hd => List.all_eq_true.mp h2 d hd, hear_all, by decide⟩
end Lw
set_option Elab.async false
set_option linter.all false
set_option maxRecDepth 100000
/-! P21: data of k21. -/
namespace Lw
open PySem PySem.Spec PyProof.Rows
def PP : List Fd := DD.map (·.fd)
theorem p_take : PP[17]? = some takeFd := rfl
theorem p_bag : PP[16]? = some bagFd := rfl
theorem p_some : PP[18]? = some (someFd 17) := rfl
theorem p_alike : PP[19]? = some alikeFd := rfl
def Nm : List Str := ["a", "x", "y", "z"]
def Sn : List Str := ["A", "cell", "list", "q", "a", "x", "y", "z"]
mutual
def gd : T → Bool
  | .non | .bl _ => true
  | .int i => decide (-1000 < i) && decide (i < 1000)
  | .str s => decide (s ∈ Sn)
  | .tup ts => gdL ts
  | .lst ts => gdL ts
  | _ => false
def gdL : List T → Bool
  | [] => true
  | t :: ts => gd t && gdL ts
end
theorem sn_thin : ∀ s ∈ Sn, thin (.str s) = true := by decide +kernel
mutual
theorem gd_thin : ∀ {t : T}, gd t = true → thin t = true
  | .non, _ => rfl
  | .bl _, _ => rfl
  | .int i, h => by
    have h : (decide (-1000 < i) && decide (i < 1000)) = true := h
    show ((decide (-1000 < i) && decide (i < 1000)) || decide (i = 1000000000) || decide (i = 999999999)) = true
    rw [h]; rfl
  | .str s, h => sn_thin s (of_decide_eq_true h)
  | .tup ts, h => gdL_thin (ts := ts) h
  | .lst ts, h => gdL_thin (ts := ts) h
  | .dct _, h => by cases h
  | .loc _, h => by cases h
  | .fn _, h => by cases h
  | .act, h => by cases h
  | .scr _, h => by cases h
theorem gdL_thin : ∀ {ts : List T}, gdL ts = true → thinL ts = true
  | [], _ => rfl
  | t :: ts, h => by
    simp only [gdL, Bool.and_eq_true] at h
    simp only [thinL, gd_thin h.1, gdL_thin h.2, Bool.and_self]
end
theorem gdL_iff : ∀ {ts : List T}, gdL ts = true ↔ ∀ t ∈ ts, gd t = true
  | [] => by simp [gdL]
  | t :: ts => by simp [gdL, gdL_iff (ts := ts)]
theorem gd_mem {ts : List T} (h : gd (.tup ts) = true) : ∀ t ∈ ts, gd t = true := gdL_iff.mp (show gdL ts = true from h)
theorem gd_two {a b : T} (h : gd (.tup [a, b]) = true) : gd a = true ∧ gd b = true := ⟨gd_mem h a (by simp), gd_mem h b (by simp)⟩
theorem gd_three {a b c : T} (h : gd (.tup [a, b, c]) = true) : gd a = true ∧ gd b = true ∧ gd c = true := ⟨gd_mem h a (by simp), gd_mem h b (by simp), gd_mem h c (by simp)⟩
section
variable {st : Store} {k : Nat} {c : Cf} {env : Env}
/-! ### rules that the library of rules lacks -/
theorem B_callv {i f : Nat} {iso : Bool} {es : List E} {ts : List T} {st1 : Store} {r : Res T} (hv : env[i]? = some (some (.fn f))) (hf : f < c.nd) (h : evEs c es env st = .ok ts st1) (hc : callE c f iso ts st1 = r) : evE c (.callv i iso es) env st = r := by
  simp only [evE, hv, if_pos hf, h, Res.bind_ok, hc]
theorem B_or {a b : E} {x y : Bool} (ha : evE c a env st = .ok (.bl x) st) (hb : evE c b env st = .ok (.bl y) st) : evE c (.or a b) env st = .ok (.bl (x || y)) st := by
  cases x with
  | true => exact B_orT ha
  | false => exact B_orF ha hb
theorem B_or2 {a b : E} {x y : Bool} (ha : evE c a env st = .ok (.bl x) st) (hb : x = false → evE c b env st = .ok (.bl y) st) : evE c (.or a b) env st = .ok (.bl (x || y)) st := by
  cases x with
  | true => exact B_orT ha
  | false => exact B_orF ha (hb rfl)
/-! ### equality of texts -/
theorem eq_sn {a b : Str} (ha : a ∈ Sn) (hb : b ∈ Sn) : eqT st (.str a) (.str b) = some (decide (a = b)) := by
  have q : eqT st (.str a) (.str b) = some (decide ((Sum.inr a : L2.Key) = .inr b)) := eq_key (st := st) (a := .inr a) (b := .inr b) (sn_thin a ha) (sn_thin b hb)
  rw [q]
  simp only [Sum.inr.injEq]
end
/-! ### lists without doubles -/
theorem nd_le {α : Type} [DecidableEq α] : ∀ {l m : List α}, l.Nodup → (∀ x ∈ l, x ∈ m) → l.length ≤ m.length
  | [], _, _, _
        => Nat.zero_le _
  | x :: l, m, h, hs => by
    obtain ⟨h1, h2⟩ :=
          List.nodup_cons.mp h
    have hx : x ∈ m := hs x List.mem_cons_self
    have q := nd_le (l := l) (m := m.erase x) h2 fun y hy => (List.mem_erase_of_ne (show y ≠ x from fun e => h1 (e ▸ hy))).mpr (hs y (List.mem_cons_of_mem _ hy))
    rw [List.length_erase_of_mem hx] at q
    have := List.length_pos_of_mem hx
    simp only [List.length_cons]
    omega
theorem nd_eq {α : Type} [DecidableEq α] {l m : List α} (hl : l.Nodup) (hm : m.Nodup) (h : ∀ x, x ∈ l ↔ x ∈ m) : l.length = m.length :=
  Nat.le_antisymm (nd_le hl fun x => (h x).mp) (nd_le hm fun x => (h x).mpr)
def insT (K : List T) (x : T) : List T := if x ∈ K then K else K ++ [x]
theorem insT_mem {K : List T} {x y : T} : y ∈ insT K x ↔ y ∈ K ∨ y = x := by
  unfold insT
  split
  · rename_i h
    exact ⟨.inl, fun q => q.elim id fun e => e ▸ h⟩
  · simp
theorem insT_nd {K : List T} {x : T} (h : K.Nodup) : (insT K x).Nodup := by
  unfold insT
  split
  · exact h
  · rename_i hx
    exact List.nodup_append.mpr ⟨h, by simp, fun a ha b hb => by simp at hb; subst hb; exact fun e => hx (e ▸ ha)⟩
theorem foldT_mem : ∀ {l K : List T} {y : T}, y ∈ l.foldl insT K ↔ y ∈ K ∨ y ∈ l
  | [], K, y => by simp
  | x :: l, K, y => by
    rw [List.foldl_cons, foldT_mem (l := l), insT_mem, List.mem_cons, or_assoc]
theorem foldT_nd : ∀ {l K : List T}, K.Nodup → (l.foldl insT K).Nodup
  | [], K, h => h
  | x :: l, K, h => foldT_nd (l := l) (insT_nd h)
def tt (x : T) : T × T := (x, .bl true)
theorem dput_tt {K : List T} {x : T} : dput (K.map tt) x (.bl true) = (insT K x).map tt := by
  unfold insT
  by_cases h : x ∈ K
  · rw [if_pos h]
    unfold dput
    rw [if_pos (by
      rw [List.any_map, List.any_eq_true]
      exact ⟨x, h, by simp [tt]⟩)]
    rw [List.map_map]
    refine List.map_congr_left fun y _ => ?_
    show (if (tt y).1 = x then ((tt y).1, T.bl true) else tt y) = tt y
    split <;> rfl
  · have hn : ¬ ((K.map tt).any fun p => decide (p.1 = x)) = true := fun z => by
      obtain ⟨p, hp, e⟩ := List.any_eq_true.mp z
      obtain ⟨y, hy, rfl⟩ := List.mem_map.mp hp
      exact h ((of_decide_eq_true e : y = x) ▸ hy)
    rw [if_neg h]
    unfold dput
    rw [if_neg hn, List.map_append]
    rfl
theorem dmerge_tt : ∀ (l K : List T), dmerge (K.map tt) (l.map tt) = (l.foldl insT K).map tt
  | [], K => rfl
  | x :: l, K => by
    have e : dmerge (K.map tt) ((x :: l).map tt) = dmerge (dput (K.map tt) x (.bl true)) (l.map tt) := rfl
    rw [e, dput_tt, dmerge_tt l (insT K x)]
    rfl
theorem tt_keys (K : List T) : (K.map tt).map (·.1) = K := by
  rw [List.map_map]
  exact List.map_id K
/-! ### loops that carry something -/
theorem forL_fold {α : Type} {body : Env → Store → SRes} {g : G} {w : Walk} {ik : Ik} (hw : w.at_ = none) (S : α → Store) (stp : α → T → α) (J : α → Prop) (I : Env → Prop) : ∀ (xs : List T) (a : α) (env : Env), J a → I env →
    (∀ x ∈ xs, ∀ a env, J a → I env → ∃ env1 env2, setG g x env = some env1 ∧ body env1 (S a) = .ok .nx env2 (S (stp a x)) ∧ I env2 ∧ J (stp a x)) → ∃ env2, forL body g w ik xs env (S a) = .ok .nx env2 (S (xs.foldl stp a)) ∧ I env2 ∧ J (xs.foldl stp a)
  | [], a, env, j, i, _ => ⟨env, by simp [forL, same_none hw], i, j⟩
  | x :: xs, a, env, j, i, h => by
    obtain ⟨env1, env2, e1, e2, i2, j2⟩ := h x List.mem_cons_self a env j i
    obtain ⟨env3, e3, i3, j3⟩ := forL_fold (body := body) (g := g) (ik := ik) hw S stp J I xs (stp a x) env2 j2 i2 fun y hy => h y (List.mem_cons_of_mem _ hy)
    exact ⟨env3, by simp only [forL, same_none hw, if_true, e1, e2, e3, List.foldl_cons], i3, j3⟩
/-! ### terms -/
def TmX (x : T) : Prop := x = .non ∨ ∃ s ∈ Nm, x = .str s
theorem nm_sn : ∀ s ∈ Nm, s ∈ Sn := by decide +kernel
theorem TmX.gd {x : T} (h : TmX x) : gd x = true := by
  rcases h with rfl | ⟨s, hs, rfl⟩
  · rfl
  · exact decide_eq_true (nm_sn s hs)
theorem TmX.lf {x : T} (h : TmX x) : lfOk x = true := by
  rcases h with rfl | ⟨s, hs, rfl⟩ <;> rfl
def tk : T → Str
  | .str s => s
  | _ => ""
def allTm : List T := .non :: Nm.map T.str
theorem TmX.mem {x : T} (h : TmX x) : x ∈ allTm := by
  rcases h with rfl | ⟨s, hs, rfl⟩
  · exact List.mem_cons_self
  · exact List.mem_cons_of_mem _ (List.mem_map.mpr ⟨s, hs, rfl⟩)
structure Ks (K : List T) : Prop where
  nd : K.Nodup
  tm : ∀ x ∈ K, TmX x
theorem Ks.len {K : List T} (h : Ks K) : K.length ≤ 14 := Nat.le_trans (nd_le (m := allTm) h.nd fun x hx => (h.tm x hx).mem) (by decide)
/-- a couple's row, a fact's row -/
def CR (r : T) : Prop := ∃ x y, r = .tup [x, y] ∧ TmX x ∧ TmX y
def FR (r : T) : Prop := ∃ w x y, r = .tup [.str w, x, y] ∧ w ∈ Sn ∧ TmX x ∧ TmX y
def trm : T → List T
  | .tup [x, y] => [x, y]
  | .tup [_, x, y] => [x, y]
  | _ => []
def stp (K : List T) (r : T) : List T := ((trm r).foldl insT []).foldl insT K
theorem stp_mem {K : List T} {r y : T} : y ∈ stp K r ↔ y ∈ K ∨ y ∈ trm r := by
  unfold stp
  rw [foldT_mem, foldT_mem]
  simp
theorem stps_mem : ∀ {rs K : List T} {y : T}, y ∈ rs.foldl stp K ↔ y ∈ K ∨ y ∈ rs.flatMap trm
  | [], K, y => by simp
  | r :: rs, K, y => by
    rw [List.foldl_cons, stps_mem (rs := rs), stp_mem, List.flatMap_cons, List.mem_append, or_assoc]
theorem Ks.stp {K : List T} {r : T} (h : Ks K) (hr : ∀ x ∈ trm r, TmX x) : Ks (stp K r) :=
  ⟨foldT_nd h.nd, fun x hx => (stp_mem.mp hx).elim (h.tm x) (hr x)⟩
theorem CR.trm {r : T} (h : CR r) : ∀ x ∈ trm r, TmX x := by
  obtain ⟨a, b, rfl, ha, hb⟩ := h
  intro x hx
  have hx : x = a ∨ x = b := by simpa [Lw.trm] using hx
  rcases hx with rfl | rfl <;> assumption
theorem FR.trm {r : T} (h : FR r) : ∀ x ∈ trm r, TmX x := by
  obtain ⟨w, a, b, rfl, _, ha, hb⟩ := h
  intro x hx
  have hx : x = a ∨ x = b := by simpa [Lw.trm] using hx
  rcases hx with rfl | rfl <;> assumption
section
variable {st : Store} {k : Nat} {c : Cf} {env : Env}
theorem key_ok {x : T} (h : TmX x) : callAt PP 100 (k + 1) 4 [x] [] = .ok (.str (tk x)) [] := by
  rcases h with rfl | ⟨s, hs, rfl⟩
  · rfl
  · exact C_rt (P := PP) (f := 4) rfl rfl (S_stop (S_ret (B_iteF (B_cmp (B_var rfl) B_lit rfl) (B_var rfl))))
/-! ### rules of such dicts -/
theorem B_ldd : evE c (.ldd []) env st = .ok (.loc st.length) (st ++ [.ldc []]) := by
  simp only [evE, evPs, Res.bind_ok]
  rfl
theorem B_lpu {o : E} {l : Nat} {ps : List (E × E)} {kvs more : List (T × T)} {st1 : Store} (ho : evE c o env st = .ok (.loc l) st1) (hg : st1[l]? = some (.ldc kvs)) (hp : evPs c ps env st1 = .ok more st1) (hk : more.all (fun p => lfOk p.1) = true) (hl : kvs.length + (dmerge [] more).length ≤ big) :
    evE c (.lpu o ps) env st = .ok .non (st1.set l (.ldc (dmerge kvs (dmerge [] more)))) := by
  have il : isLd st1 (.loc l) = true := by simp only [isLd, hg]
  simp only [evE, ho, Res.bind_ok, il, if_true, hp, hk, lupE, hg, if_pos hl]
theorem B_lup {o kx vx : E} {l : Nat} {tg : G} {ik : Ik} {its ifs : List E} {own : List Nat} {w : Walk} {vs : List T} {kvs more : List (T × T)} (ho : evE c o env st = .ok (.loc l) st) (hg : st[l]? = some (.ldc kvs)) (h : evEs c its env st = .ok vs st) (hw : walkOf st ik vs = some w) (hb : w.items.length ≤ big)
    (hp : loopL (fun env st => (evE c kx env st).bind fun x st => (evE c vx env st).bind fun y st => if lfOk x then .ok (x, y) st else .no) (fun env st => evTs c ifs env st) tg w ik (wipeT env own) w.items st = .ok more st) (hl : kvs.length + (dmerge [] more).length ≤ big) :
    evE c (.lup o kx vx tg ik its ifs own) env st = .ok .non (st.set l (.ldc (dmerge kvs (dmerge [] more)))) := by
  have il : isLd st (.loc l) = true := by simp only [isLd, hg]
  simp only [evE, ho, Res.bind_ok, il, if_true, h, hw, if_pos hb, hp, Res.noexc_ok, lupE, hg, if_pos hl]
theorem keyVals_map {f : T → Res T} {g : T → T} : ∀ {ts : List T}, (∀ t ∈ ts, (∃ s, f t = .ok (g t) s) ∧ (toPy (g t)).isSome = true) → keyVals f ts = some (ts.map g)
  | [], _ => rfl
  | t :: ts, h => by
    obtain ⟨⟨s, e⟩, e2⟩ := h t List.mem_cons_self
    simp only [keyVals, e, e2, if_true, keyVals_map (ts := ts) fun u hu => h u (List.mem_cons_of_mem _ hu), Option.map_some, List.map_cons]
theorem B_lsrt {fz : Bool} {o u : E} {x : T} {ts ks us : List T} {st1 : Store} {r : Res T} (ho : evE c o env st = .ok x st1) (ht : c.top = true) (hi : keyItems st1 x = some ts) (hk : keyVals (fun t => if resL [] [t] = some [t] then evE c.dn u [some t] [] else .no) ts = some ks) (hl : ts.length ≤ big)
    (hs : sortBy ks ts = some us) (hm : mkL fz us st1 = r) : evE c (.lsrt fz o u) env st = r := by
  simp only [evE, ho, Res.bind_ok, if_pos ht, hi, hk, if_pos hl, hs, hm]
theorem insKD_perm (p : T × T) : ∀ l, (insKD p l).Perm (p :: l)
  | [] => List.Perm.refl _
  | q :: r => by
    unfold insKD
    split
    · exact ((insKD_perm p r).cons q).trans (List.Perm.swap p q r)
    · exact List.Perm.refl _
theorem sortKD_perm : ∀ l, (sortKD l).Perm l
  | [] => List.Perm.refl _
  | p :: r => (insKD_perm p (sortKD r)).trans ((sortKD_perm r).cons p)
theorem toPyL_strs {g : T → Str} : ∀ ts : List T, toPyL (ts.map fun t => T.str (g t)) = some (ts.map fun t => PyData.str (g t))
  | [] => rfl
  | t :: ts => by simp only [List.map_cons, toPyL, toPy, toPyL_strs ts]
theorem sortBy_strs {g : T → Str} (ts : List T) : ∃ us, sortBy (ts.map fun t => T.str (g t)) ts = some us ∧ us.Perm ts := by
  refine ⟨(sortKD ((ts.map fun t => T.str (g t)).zip ts)).map (·.2), ?_, ?_⟩
  · simp only [sortBy, toPyL_strs]
    refine if_pos ⟨?_, .inr ?_, ?_⟩
    · refine List.all_eq_true.mpr fun d hd => List.all_eq_true.mpr fun e he => ?_
      obtain ⟨x, _, rfl⟩ := List.mem_map.mp hd
      obtain ⟨y, _, rfl⟩ := List.mem_map.mp he
      rfl
    · refine List.all_eq_true.mpr fun d hd => ?_
      obtain ⟨x, _, rfl⟩ := List.mem_map.mp hd
      rfl
    · refine List.all_eq_true.mpr fun d hd => ?_
      obtain ⟨x, _, rfl⟩ := List.mem_map.mp hd
      simp [PyData.depth]
  · refine ((sortKD_perm _).map _).trans ?_
    have : ((ts.map fun t => T.str (g t)).zip ts).map (·.2) = ts := List.map_snd_zip (by simp)
    rw [this]
end
end Lw
set_option Elab.async false
set_option linter.all false
set_option maxRecDepth 100000
/-! O21: terms_in; rules. -/
namespace Lw
open PySem PySem.Spec PyProof.Rows
section
variable {st : Store} {k : Nat} {c : Cf} {env : Env}
theorem two_all {x y : T} (h1 : TmX x) (h2 : TmX y) : [(x, T.bl true), (y, T.bl true)].all (fun p => lfOk p.1) = true := by simp [h1.lf, h2.lf]
theorem upd_eq (K : List T) (x y : T) : dmerge (K.map tt) (dmerge [] [(x, T.bl true), (y, T.bl true)]) = (([x, y].foldl insT []).foldl insT K).map tt := by
  have e : dmerge [] [(x, T.bl true), (y, T.bl true)] = ([x, y].foldl insT []).map tt := dmerge_tt [x, y] []
  rw [e, dmerge_tt]
theorem upd_len {K : List T} (h : Ks K) (x y : T) : (K.map tt).length + (dmerge [] [(x, T.bl true), (y, T.bl true)]).length ≤ big := by
  have e : dmerge [] [(x, T.bl true), (y, T.bl true)] = ([x, y].foldl insT []).map tt := dmerge_tt [x, y] []
  have l1 := h.len
  have l2 : ([x, y].foldl insT []).length ≤ 2 := by
    show (insT (insT [] x) y).length ≤ 2
    unfold insT
    split <;> split <;> simp
  rw [e, List.length_map, List.length_map]
  unfold big
  omega
theorem add_tup {a b : List T} (h : a.length + b.length ≤ big) : binE .add (.tup a) (.tup b) st = .ok (.tup (a ++ b)) st := if_pos h
def EN7 (a b d e f g h : Option T) : Env := [a, b, d, e, f, g, h]
/-- a couple's terms come to the dict -/
theorem couples_loop {t : T} {rs : List T} {e3 e4 e5 e6 : Option T} {X : E} {n : Nat} (hX : ∀ K : List T, evE (cfAt PP 100 n) X (EN7 (some t) (some (.loc 0)) none e3 e4 e5 e6) [.ldc (K.map tt)] = .ok (.tup rs) [.ldc (K.map tt)]) (hr : ∀ r ∈ rs, CR r) {K : List T} (hK : Ks K) :
    ∃ e2 e6', evS (cfAt PP 100 n) (.fr (.name 2) .val [X] [.expr (.lup (.var 1) (.var 6) (.lit (.bl true)) (.name 6) .val [.var 2] [] [6])]) (EN7 (some t) (some (.loc 0)) none e3 e4 e5 e6) [.ldc (K.map tt)]
      = .ok .nx (EN7 (some t) (some (.loc 0)) e2 e3 e4 e5 e6') [.ldc ((rs.foldl stp K).map tt)] ∧ Ks (rs.foldl stp K) := by
  obtain ⟨env2, e, ⟨f2, f6, rfl⟩, hk⟩ := forL_fold (body := fun env st => evSs (cfAt PP 100 n) [.expr (.lup (.var 1) (.var 6) (.lit (.bl true)) (.name 6) .val [.var 2] [] [6])] env st) (g := .name 2) (w := { items := rs }) (ik := .val) rfl
    (fun K : List T => [Cell.ldc (K.map tt)]) stp Ks (fun env => ∃ e2 e6, env = EN7 (some t) (some (.loc 0)) e2 e3 e4 e5 e6) rs K (EN7 (some t) (some (.loc 0)) none e3 e4 e5 e6) hK ⟨_, _, rfl⟩ fun r hx K env hK ⟨e2, e6, he⟩ => by
      obtain ⟨x, y, rfl, hx, hy⟩ := hr r hx
      subst he
      refine ⟨EN7 (some t) (some (.loc 0)) (some (.tup [x, y])) e3 e4 e5 e6, EN7 (some t) (some (.loc 0)) (some (.tup [x, y])) e3 e4 e5 e6, rfl, ?_, ⟨_, _, rfl⟩, hK.stp (CR.trm ⟨x, y, rfl, hx, hy⟩)⟩
      have lp : loopL (fun env st => (evE (cfAt PP 100 n) (.var 6) env st).bind fun x st => (evE (cfAt PP 100 n) (.lit (.bl true)) env st).bind fun y st => if lfOk x then .ok (x, y) st else .no) (fun env st => evTs (cfAt PP 100 n) [] env st) (.name 6) { items := [x, y] } .val (wipeT (EN7 (some t) (some (.loc 0)) (some (.tup [x, y])) e3 e4 e5 e6) [6]) [x, y] [Cell.ldc (K.map tt)]
          = .ok (([x, y].filter fun _ => true).map tt) [Cell.ldc (K.map tt)] := by
        refine loopL_pure rfl tt (fun _ => true) _ fun u hu => ?_
        refine ⟨EN7 (some t) (some (.loc 0)) (some (.tup [x, y])) e3 e4 e5 (some u), rfl, B_t0, fun _ => ?_⟩
        have hl : lfOk u = true := by
          have hu : u = x ∨ u = y := by simpa using hu
          rcases hu with rfl | rfl
          · exact hx.lf
          · exact hy.lf
        have ev : evE (cfAt PP 100 n) (.var 6) (EN7 (some t) (some (.loc 0)) (some (.tup [x, y])) e3 e4 e5 (some u)) [Cell.ldc (K.map tt)] = .ok u [Cell.ldc (K.map tt)] := B_var rfl
        have el : evE (cfAt PP 100 n) (.lit (.bl true)) (EN7 (some t) (some (.loc 0)) (some (.tup [x, y])) e3 e4 e5 (some u)) [Cell.ldc (K.map tt)] = .ok (.bl true) [Cell.ldc (K.map tt)] := B_lit
        simp only [ev, el, Res.bind_ok, hl, if_true]
        rfl
      have lu := B_lup (c := cfAt PP 100 n) (o := .var 1) (kvs := K.map tt) (l := 0) (st := [Cell.ldc (K.map tt)]) (env := EN7 (some t) (some (.loc 0)) (some (.tup [x, y])) e3 e4 e5 e6) (ifs := []) (own := [6]) (its := [.var 2]) (B_var rfl) rfl (B_one (B_var rfl)) (w := { items := [x, y] }) rfl (by show 2 ≤ big; unfold big; omega) lp (upd_len hK x y)
      refine S_cons (S_expr (t := .non) (lu.trans ?_)) S_nil
      show Res.ok T.non [Cell.ldc (dmerge (K.map tt) (dmerge [] [(x, T.bl true), (y, T.bl true)]))] = _
      rw [upd_eq]
      rfl
  exact ⟨f2, f6, S_for (B_one (hX K)) (w := { items := rs }) rfl e, hk⟩
theorem facts_loop {t : T} {rs : List T} {e2 e3 e4 e5 e6 : Option T} {X : E} {n : Nat} (hX : ∀ K : List T, evE (cfAt PP 100 n) X (EN7 (some t) (some (.loc 0)) e2 e3 e4 e5 e6) [.ldc (K.map tt)] = .ok (.tup rs) [.ldc (K.map tt)]) (hr : ∀ r ∈ rs, FR r) {K : List T} (hK : Ks K) :
    ∃ e3' e4' e5', evS (cfAt PP 100 n) (.fr (.tup [.name 3, .name 4, .name 5]) .val [X] [.expr (.lpu (.var 1) [(.var 4, .lit (.bl true)), (.var 5, .lit (.bl true))])]) (EN7 (some t) (some (.loc 0)) e2 e3 e4 e5 e6) [.ldc (K.map tt)]
      = .ok .nx (EN7 (some t) (some (.loc 0)) e2 e3' e4' e5' e6) [.ldc ((rs.foldl stp K).map tt)] ∧ Ks (rs.foldl stp K) := by
  obtain ⟨env2, e, ⟨f3, f4, f5, rfl⟩, hk⟩ := forL_fold (body := fun env st => evSs (cfAt PP 100 n) [.expr (.lpu (.var 1) [(.var 4, .lit (.bl true)), (.var 5, .lit (.bl true))])] env st) (g := .tup [.name 3, .name 4, .name 5]) (w := { items := rs }) (ik := .val) rfl
    (fun K : List T => [Cell.ldc (K.map tt)]) stp Ks (fun env => ∃ e3 e4 e5, env = EN7 (some t) (some (.loc 0)) e2 e3 e4 e5 e6) rs K (EN7 (some t) (some (.loc 0)) e2 e3 e4 e5 e6) hK ⟨_, _, _, rfl⟩ fun r hx K env hK ⟨e3, e4, e5, he⟩ => by
      obtain ⟨w, x, y, rfl, hw, hx, hy⟩ := hr r hx
      subst he
      refine ⟨EN7 (some t) (some (.loc 0)) e2 (some (.str w)) (some x) (some y) e6, EN7 (some t) (some (.loc 0)) e2 (some (.str w)) (some x) (some y) e6, rfl, ?_, ⟨_, _, _, rfl⟩, hK.stp (FR.trm ⟨w, x, y, rfl, hw, hx, hy⟩)⟩
      have lu := B_lpu (c := cfAt PP 100 n) (o := .var 1) (kvs := K.map tt) (l := 0) (st := [Cell.ldc (K.map tt)]) (env := EN7 (some t) (some (.loc 0)) e2 (some (.str w)) (some x) (some y) e6) (B_var rfl) rfl (B_pcons (B_var (i := 4) (t := x) rfl) B_lit (B_pcons (B_var (i := 5) (t := y) rfl) B_lit B_pnil)) (two_all hx hy) (upd_len hK x y)
      refine S_cons (S_expr (t := .non) (lu.trans ?_)) S_nil
      show Res.ok T.non [Cell.ldc (dmerge (K.map tt) (dmerge [] [(x, T.bl true), (y, T.bl true)]))] = _
      rw [upd_eq]
      rfl
  exact ⟨f3, f4, f5, S_for (B_one (hX K)) (w := { items := rs }) rfl e, hk⟩
/-- a saying's rows -/
structure SR (a b d : List T) : Prop where
  sa : ∀ r ∈ a, CR r
  sb : ∀ r ∈ b, CR r
  sd : ∀ r ∈ d, FR r
  l : a.length + b.length ≤ 20
  m : d.length ≤ 6
def say (a b d : List T) : T := .tup [.tup a, .tup b, .tup d]
def terms (a b d : List T) : List T := (a ++ b).flatMap trm ++ d.flatMap trm
theorem SR.tm {a b d : List T} (h : SR a b d) : ∀ x ∈ terms a b d, TmX x := by
  intro x hx
  rcases List.mem_append.mp
        hx with hx | hx
  · obtain ⟨r, hr, hx⟩ := List.mem_flatMap.mp hx
    rcases List.mem_append.mp
          hr with hr | hr
    · exact (h.sa r hr).trm x hx
    · exact (h.sb r hr).trm x hx
  · obtain ⟨r, hr, hx⟩ := List.mem_flatMap.mp hx
    exact (h.sd r hr).trm x hx
theorem tmL_thin {L : List T} (h : ∀ x ∈ L, TmX x) : thin (.tup L) = true := thinL_iff.mpr fun x hx => gd_thin (h x hx).gd
theorem ab_len {a b d : List T} (h : SR a b d) : a.length + b.length ≤ big := by
  have := h.l
  unfold big
  omega
theorem terms_ok {a b d : List T} (h : SR a b d) (ht : thin (say a b d) = true) : ∃ L st', callAt PP 100 (k + 4) 5 [say a b d] [] = .ok (.tup L) st' ∧ L.Nodup ∧ ∀ x, x ∈ L ↔ x ∈ terms a b d := by
  have top : (cfAt PP 100 (k + 3)).top = true := decide_eq_true (Nat.le_add_left 2 (k + 1))
  obtain ⟨f2, f6, q1, k1⟩ := couples_loop (t := say a b d) (rs := a ++ b) (e3 := none) (e4 := none) (e5 := none) (e6 := none) (X := .bin .add (.idx (.var 0) (.lit (.int 0))) (.idx (.var 0) (.lit (.int 1)))) (n := k + 3)
    (fun K => B_bin (B_idx (B_var rfl) B_lit rfl) (B_idx (B_var rfl) B_lit rfl) (add_tup (ab_len h))) (fun r hr => (List.mem_append.mp hr).elim (h.sa r) (h.sb r)) (K := []) ⟨List.nodup_nil, fun _ z => (nomatch z)⟩
  obtain ⟨f3, f4, f5, q2, k2⟩ := facts_loop (t := say a b d) (rs := d) (e2 := f2) (e3 := none) (e4 := none) (e5 := none) (e6 := f6) (X := .idx (.var 0) (.lit (.int 2))) (n := k + 3) (fun K => B_idx (B_var rfl) B_lit rfl) h.sd k1
  have km : ∀ x, x ∈ d.foldl stp ((a ++ b).foldl stp []) ↔ x ∈ terms a b d := fun x => by
    rw [stps_mem, stps_mem]
    unfold terms
    rw [List.mem_append]
    simp
  generalize d.foldl stp ((a ++ b).foldl stp []) = K at q2 k2 km
  obtain ⟨us, e, pm⟩ := sortBy_strs (g := tk) K
  have kv : keyVals (fun t => if resL [] [t] = some [t] then evE (cfAt PP 100 (k + 3)).dn (.call 4 true [.var 0]) [some t] [] else .no) K = some (K.map fun t => T.str (tk t)) := by
    refine keyVals_map fun t ht => ⟨⟨[], ?_⟩, rfl⟩
    have th := gd_thin (k2.tm t ht).gd
    rw [if_pos (resL_one th)]
    exact B_call (B_one (B_var rfl)) (C_iso (resL_one th) (key_ok (k := k) (k2.tm t ht)) rfl)
  have ls := B_lsrt (c := cfAt PP 100 (k + 3)) (fz := true) (o := .var 1) (u := .call 4 true [.var 0]) (env := EN7 (some (say a b d)) (some (.loc 0)) f2 f3 f4 f5 f6) (st := [Cell.ldc (K.map tt)]) (x := .loc 0) (ts := K) (B_var rfl) top (by show some ((K.map tt).map (·.1)) = _; rw [tt_keys]) kv (by have := k2.len; unfold big; omega) e rfl
  refine ⟨us, _, C_rt (P := PP) (f := 5) rfl rfl (S_cons (S_set B_ldd rfl) (S_cons q1 (S_cons q2 (S_stop (S_ret (B_bi1 ls rfl)))))), pm.nodup_iff.mpr k2.nd, fun x => (pm.mem_iff).trans (km x)⟩
/-- names alone -/
def notNon (x : T) : Bool := !decide (x = .non)
theorem isnt_non {x : T} : cmpE .isnt x .non st = some (notNon x) := rfl
theorem filt_comp {n : Nat} {e : E} {i : Nat} {L : List T} {st1 : Store} {env : Env} (he : evE (cfAt PP 100 n) e env st = .ok (.tup L) st1) (hl : L.length ≤ big) (hi : i < env.length) : evE (cfAt PP 100 n) (.comp true (.var i) (.name i) .val [e] [.cmp .isnt (.var i) (.lit .non)] [i]) env st = .ok (.lst (L.filter notNon)) st1 := by
  have hw : i < (wipeT env [i]).length := by simpa [wipeT] using hi
  have lp : loopL (fun env st => evE (cfAt PP 100 n) (.var i) env st) (fun env st => evTs (cfAt PP 100 n) [.cmp .isnt (.var i) (.lit .non)] env st) (.name i) { items := L } .val (wipeT env [i]) L st1 = .ok ((L.filter notNon).map id) st1 := by
    refine loopL_pure rfl id notNon _ fun x hx => ?_
    have hv : ((wipeT env [i]).set i (some x))[i]? = some (some x) := List.getElem?_set_self hw
    exact ⟨(wipeT env [i]).set i (some x), if_pos hw, B_t1 (B_cmp (B_var hv) B_lit isnt_non), fun _ => B_var hv⟩
  rw [List.map_id] at lp
  exact B_comp (B_one he) rfl hl lp rfl
theorem loopL_same {α : Type} {el : Env → Store → Res α} {tst : Env → Store → Res Bool} {tg : G} {w : Walk} {k : Ik} {env : Env} {st : Store} (hw : w.same k st = true) (f : T → α) (p : T → Bool) :
    ∀ xs : List T, (∀ x ∈ xs, ∃ env', setG tg x env = some env' ∧ tst env' st = .ok (p x) st ∧ (p x = true → el env' st = .ok (f x) st)) → loopL el tst tg w k env xs st = .ok ((xs.filter p).map f) st
  | [], _ => by simp [loopL, hw]
  | x :: xs, h => by
    obtain ⟨env', e1, e2, e3⟩ := h x List.mem_cons_self
    have ih := loopL_same (el := el) (tst := tst) (tg := tg) (env := env) hw f p xs fun y hy => h y (List.mem_cons_of_mem _ hy)
    simp only [loopL, hw, if_true, e1, e2, Res.bind_ok]
    cases hp : p x with
    | true => simp [e3 hp, ih, hp]
    | false => simp [ih, hp]
theorem last_get {st : Store} {c : Cell} : (st ++ [c])[st.length]? = some c := by simp
theorem last_set {st : Store} {c d : Cell} : (st ++ [c]).set st.length d = st ++ [d] := by
  rw [List.set_append_right _ _ (Nat.le_refl _), Nat.sub_self]
  rfl
/-- a list at the end of the store grows -/
theorem ext_ok {e : E} {i : Nat} {ts ys : List T} (hv : env[i]? = some (some (.loc st.length))) (he : evE c e env (st ++ [.lst ts]) = .ok (.lst ys) (st ++ [.lst ts])) (hl : ts.length + ys.length ≤ big) :
    evS c (.expr (.mt .extend (.var i) [e])) env (st ++ [.lst ts]) = .ok .nx env (st ++ [.lst (ts ++ ys)]) := by
  have k1 : kindOf (st ++ [.lst ts]) (.loc st.length) = 1 := by simp only [kindOf, last_get]
  refine S_expr (t := .non) (B_mt (B_var hv) (by rw [k1]; rfl) (B_one he) rfl ?_)
  simp only [mtE, last_get, last_set, lstOf]
  rw [if_pos hl]
theorem app_ok {e : E} {i : Nat} {ts : List T} {y : T} (hv : env[i]? = some (some (.loc st.length))) (he : evE c e env (st ++ [.lst ts]) = .ok y (st ++ [.lst ts])) (hl : ts.length < big) :
    evS c (.expr (.mt .append (.var i) [e])) env (st ++ [.lst ts]) = .ok .nx env (st ++ [.lst (ts ++ [y])]) := by
  have k1 : kindOf (st ++ [.lst ts]) (.loc st.length) = 1 := by simp only [kindOf, last_get]
  refine S_expr (t := .non) (B_mt (B_var hv) (by rw [k1]; rfl) (B_one he) rfl ?_)
  simp only [mtE, last_get, last_set]
  rw [if_pos hl]
end
end Lw
set_option Elab.async false
set_option linter.all false
set_option maxRecDepth 100000
/-! S21: a drawn saying over the names n. -/
namespace Lw
open PySem PySem.Spec PyProof.Rows
/-! ### keys of terms -/
def ltS (a b : Str) : Bool := decide (a.cps.toList < b.cps.toList)
def ltK (a b : T) : Bool := ltS (tk a) (tk b)
def lk (x : T) : T := if x = .non then .tup [.int 0, .str ""] else .tup [.int 1, x]
theorem lk_thin : ∀ a ∈ allTm, thin (lk a) = true := by decide +kernel
section
variable {st : Store} {k : Nat} {c : Cf} {env : Env} {f : T → T}
/-- lists of the law's keys -/
def lkD (x : T) : PyData := dOf (lk x)
theorem lkD_all : (∀ a ∈ allTm, ∀ b ∈ allTm, PyData.eqv (lkD a) (lkD b) = decide (a = b)) ∧ (∀ a ∈ allTm, ∀ b ∈ allTm, PySem.W.dataLt (lkD a) (lkD b) = ltK a b) ∧ (∀ a ∈ allTm, ∀ b ∈ allTm, PySem.W.alike (lkD a) (lkD b) = true) ∧ (∀ a ∈ allTm, toPy (lk a) = some (lkD a)) ∧ ∀ a ∈ allTm, (lkD a).depth ≤ 2 :=
  ⟨by decide +kernel, by decide +kernel, by decide +kernel, by
    intro a ha
    have : ∀ a ∈ allTm, (toPy (lk a)).isSome = true := by decide +kernel
    have := this a ha
    unfold lkD dOf
    cases h : toPy (lk a) with
    | none => rw [h] at this; cases this
    | some d => rfl, by decide +kernel⟩
theorem lk_ok {x : T} (h : TmX x) : callAt PP 100 (k + 1) 21 [x] [] = .ok (lk x) [] := by
  rcases h with rfl | ⟨s, hs, rfl⟩
  · rfl
  · exact C_rt (P := PP) (f := 21) rfl rfl (S_stop (S_ret (B_iteF (B_cmp (B_var rfl) B_lit rfl) (B_tup (B_two B_lit (B_var rfl))))))
theorem TmX.thin {x : T} (h : TmX x) : thin x = true := gd_thin h.gd
theorem call_lk {n : Nat} {e : E} {x : T} (h : TmX x) (he : evE (cfAt PP 100 (n + 1)) e env st = .ok x st) : evE (cfAt PP 100 (n + 1)) (.call 21 true [e]) env st = .ok (lk x) st :=
  B_call (B_one he) (C_iso (resL_one h.thin) (lk_ok (k := n) h) (thin_res (lk_thin x h.mem)))
theorem thin2 {x y : T} (hx : Lw.thin x = true) (hy : Lw.thin y = true) : Lw.thin (.tup [x, y]) = true := by
  show (Lw.thin x && (Lw.thin y && true)) = true
  rw [hx, hy]; rfl
theorem thin3 {w x y : T} (hw : Lw.thin w = true) (hx : Lw.thin x = true) (hy : Lw.thin y = true) : Lw.thin (.tup [w, x, y]) = true := by
  show (Lw.thin w && (Lw.thin x && (Lw.thin y && true))) = true
  rw [hw, hx, hy]; rfl
theorem CR.thin {r : T} (h : CR r) : Lw.thin r = true := by
  obtain ⟨x, y, rfl, hx, hy⟩ := h
  exact thin2 hx.thin hy.thin
theorem FR.thin {r : T} (h : FR r) : Lw.thin r = true := by
  obtain ⟨w, x, y, rfl, hw, hx, hy⟩ := h
  exact thin3 (sn_thin w hw) hx.thin hy.thin
theorem fact_lk {w : Str} {x y : T} (hw : w ∈ Sn) (hx : TmX x) (hy : TmX y) : callAt PP 100 (k + 2) 23 [.tup [.str w, x, y]] [] = .ok (.tup [.str w, lk x, lk y]) [] :=
  C_rt (P := PP) (f := 23) rfl rfl (S_stop (S_ret (B_tup (B_cons (B_idx (B_var rfl) B_lit rfl) (B_two (call_lk hx (B_idx (B_var rfl) B_lit rfl)) (call_lk hy (B_idx (B_var rfl) B_lit rfl)))))))
theorem enum_mem : ∀ {L : List T} {n : Nat} {x : T}, x ∈ enumT n L → ∃ (j : Int) (r : T), x = .tup [.int j, r] ∧ r ∈ L ∧ n ≤ j ∧ j < n + L.length
  | [], _, _, h => by cases h
  | y :: ys, n, x, h => by
    rcases List.mem_cons.mp
          h with rfl | h
    · exact ⟨n, y, rfl, List.mem_cons_self, by omega, by simp only [List.length_cons]; omega⟩
    · obtain ⟨j, r, e, m, h1, h2⟩ := enum_mem h
      exact ⟨j, r, e, List.mem_cons_of_mem _ m, by omega, by simp only [List.length_cons]; omega⟩
def EN6 (a b d e f g : Option T) : Env := [a, b, d, e, f, g]
/-- a comprehension that picks by a draw -/
theorem pick_loop {c : Cf} {l s : Nat} {te : E} {env : Env} {w : Walk} {ik : Ik} {D : List T} (hw : w.at_ = none) (hs : s < env.length)
    (ht : ∀ x st ts, x ∈ D → st[l]? = some (.lst ts) → Bag ts → ∃ b ts', evE c te (env.set s (some x)) st = .ok (.bl b) (st.set l (.lst ts')) ∧ Bag ts') :
    ∀ (xs : List T) (st : Store) (ts : List T), (∀ x ∈ xs, x ∈ D) → st[l]? = some (.lst ts) → Bag ts →
      ∃ (ys ts' : List T), loopL (fun env st => evE c (.var s) env st) (fun env st => evTs c [te] env st) (.name s) w ik env xs st = .ok ys (st.set l (.lst ts')) ∧ Bag ts' ∧ (∀ y ∈ ys, y ∈ xs) ∧ ys.length ≤ xs.length
  | [], st, ts, _, hl, hB => ⟨[], ts, by rw [set_same hl]; simp [loopL, same_none hw], hB, fun y hy => (nomatch hy), Nat.le_refl _⟩
  | x :: xs, st, ts, hD, hl, hB => by
    obtain ⟨b, ts1, e1, b1⟩ := ht x st ts (hD x List.mem_cons_self) hl hB
    obtain ⟨ys, ts2, e2, b2, m2, l2⟩ := pick_loop (c := c) (te := te) (ik := ik) hw hs ht xs (st.set l (.lst ts1)) ts1 (fun y hy => hD y (List.mem_cons_of_mem _ hy)) (set_get hl) b1
    rw [set_set] at e2
    have hg : setG (.name s) x env = some (env.set s (some x)) := if_pos hs
    have et := B_t1 e1
    cases b with
    | true =>
      refine ⟨x :: ys, ts2, L_cons hw hg et (B_var (List.getElem?_set_self hs)) e2, b2, fun y hy => ?_, ?_⟩
      · rcases List.mem_cons.mp
              hy with rfl | hy
        · exact List.mem_cons_self
        · exact List.mem_cons_of_mem _ (m2 y hy)
      · simp only
              [List.length_cons]; omega
    | false =>
      refine ⟨ys, ts2, ?_, b2, fun y hy => List.mem_cons_of_mem _ (m2 y hy), ?_⟩
      · simp only [loopL, same_none hw, if_true, hg, et, Res.bind_ok]
        exact e2
      · simp only
              [List.length_cons]; omega
theorem in_total {x : T} {L : List T} (tx : thin x = true) (dx : dep x ≤ 60) (tL : thinL L = true) (dL : depL L ≤ 60) : ∃ b, cmpE .notin x (.tup L) st = some b := by
  obtain ⟨ds, e, q⟩ := thinL_py tL
  obtain ⟨d, ed, qd⟩ := py_thin (st := st) tx
  have p1 : pyL st L = some ds := by simp only [pyL, thinL_res tL, Option.bind_some, e]
  have s1 : SeqAt.shaped (.list ds) = true := by
    refine Bool.and_eq_true_iff.mpr ⟨q.cl, decide_eq_true ?_⟩
    have := q.dp
    show PyData.depthAll ds + 1 ≤ 64
    omega
  have s2 : SeqAt.shaped d = true := Bool.and_eq_true_iff.mpr ⟨qd.cl, decide_eq_true (Nat.le_trans qd.dp (by omega))⟩
  refine ⟨!(ds.any fun y => PyData.eqv y d), ?_⟩
  show (inSeq st x L).map not = _
  simp only [inSeq, p1, ed, s1, s2, Bool.and_self, if_true, Option.map_some]
/-! ### _law_by -/
def kf : T → T
  | .tup [.int j, .tup [.str w, a, b]] => .tup [.tup [.str w, lk a, lk b], .int j]
  | t => t
def fq (fs : List T) : T → T
  | .tup [_, .int j] => (atT fs j).getD .non
  | _ => .non
theorem kf_py {j : Int} {w : Str} {a b : T} (ha : TmX a) (hb : TmX b) : toPy (kf (.tup [.int j, .tup [.str w, a, b]])) = some (.tuple [.tuple [.str w, lkD a, lkD b], .int j]) := by
  obtain ⟨_, _, _, q4, _⟩ := lkD_all
  show toPy (.tup [.tup [.str w, lk a, lk b], .int j]) = _
  simp only [toPy, toPyL, q4 a ha.mem, q4 b hb.mem, Option.map_some]
theorem toPyL_map {g : T → T} {h : T → PyData} : ∀ {L : List T}, (∀ x ∈ L, toPy (g x) = some (h x)) → toPyL (L.map g) = some (L.map h)
  | [], _ => rfl
  | x :: L, hx => by simp only [List.map_cons, toPyL, hx x List.mem_cons_self, toPyL_map (L := L) fun y hy => hx y (List.mem_cons_of_mem _ hy)]
def KR (n : Nat) (x : T) : Prop := ∃ (j : Int) (w : Str) (a b : T), x = .tup [.int j, .tup [.str w, a, b]] ∧ TmX a ∧ TmX b ∧ 0 ≤ j ∧ j < n
def kD (x : T) : PyData := match x with
  | .tup [.int j, .tup [.str w, a, b]] => .tuple [.tuple [.str w, lkD a, lkD b], .int j]
  | _ => .none
theorem isort_go_perm {lt : T → T → Bool} (x : T) : ∀ l : List T, (isort.go lt x l).Perm (x :: l)
  | [] => List.Perm.refl _
  | y :: ys => by
    unfold isort.go
    split
    · exact ((isort_go_perm x ys).cons y).trans (List.Perm.swap x y ys)
    · exact List.Perm.refl _
theorem isort_perm {lt : T → T → Bool} : ∀ l : List T, (isort lt l).Perm l
  | [] => List.Perm.refl _
  | x :: xs => (isort_go_perm x _).trans ((isort_perm xs).cons x)
theorem sort_rows {n : Nat} {L : List T} (h : ∀ x ∈ L, KR n x) : ∃ us, sortT (L.map kf) = some us ∧ us.Perm (L.map kf) := by
  cases L with
  | nil => exact ⟨[], rfl, List.Perm.refl _⟩
  | cons x0 L0 =>
    obtain ⟨j0, w0, a0, b0, e0, _⟩ := h x0 List.mem_cons_self
    have i1 : intsOf ((x0 :: L0).map kf) = none := by subst e0; rfl
    have i2 : prsOf ((x0 :: L0).map kf) = none := by subst e0; rfl
    have py : toPyL ((x0 :: L0).map kf) = some ((x0 :: L0).map kD) := toPyL_map fun x hx => by
      obtain ⟨j, w, a, b, rfl, ha, hb, _⟩ := h x hx
      exact kf_py ha hb
    obtain ⟨_, _, q3, _, q5⟩ := lkD_all
    refine ⟨isort (fun x y => ltDat (dOf x) (dOf y)) ((x0 :: L0).map kf), ?_, isort_perm _⟩
    simp only [sortT, i1, i2, sortD, py]
    refine if_pos ⟨?_, .inl ?_, ?_⟩
    · refine List.all_eq_true.mpr fun d hd => List.all_eq_true.mpr fun e he => ?_
      obtain ⟨x, hx, rfl⟩ := List.mem_map.mp hd
      obtain ⟨y, hy, rfl⟩ := List.mem_map.mp he
      obtain ⟨j, w, a, b, rfl, ha, hb, _⟩ := h x hx
      obtain ⟨j', w', a', b', rfl, ha', hb', _⟩ := h y hy
      show (((true && (PySem.W.alike (lkD a) (lkD a') && (PySem.W.alike (lkD b) (lkD b') && true))) && (true && true))) = true
      rw [q3 a ha.mem a' ha'.mem, q3 b hb.mem b' hb'.mem]
      rfl
    · refine List.all_eq_true.mpr fun d hd => ?_
      obtain ⟨x, hx, rfl⟩ := List.mem_map.mp hd
      obtain ⟨j, w, a, b, rfl, ha, hb, _⟩ := h x hx
      rfl
    · refine List.all_eq_true.mpr fun d hd => ?_
      obtain ⟨x, hx, rfl⟩ := List.mem_map.mp hd
      obtain ⟨j, w, a, b, rfl, ha, hb, _⟩ := h x hx
      have := q5 a ha.mem
      have := q5 b hb.mem
      refine decide_eq_true ?_
      show (PyData.tuple [.tuple [.str w, lkD a, lkD b], .int j]).depth ≤ 40
      simp only
            [PyData.depth, PyData.depthAll]
      omega
theorem by_ok {m : Nat} {fs : List T} (hg : st[m]? = some (.lst fs)) (hf : ∀ r ∈ fs, FR r) (hl : fs.length ≤ 1000) : ∃ gs, callAt PP 100 (k + 3) 20 [.loc m, .fn 23] st = .ok (.lst gs) st ∧ (∀ r ∈ gs, r ∈ fs) ∧ gs.length = fs.length := by
  have kr : ∀ x ∈ enumT 0 fs, KR fs.length x := fun x hx => by
    obtain ⟨j, r, rfl, hr, h0, h1⟩ := enum_mem hx
    obtain ⟨w, a, b, rfl, hw, ha, hb⟩ := hf r hr
    exact ⟨j, w, a, b, rfl, ha, hb, by omega, by omega⟩
  have sm : Walk.same { items := enumT 0 fs, at_ := some m } .enum st = true := by simp [Walk.same, hg]
  have el : (enumT 0 fs).length ≤ big := by
    have key : ∀ (l : List T) (n : Nat), (enumT n l).length = l.length := fun l => by
      induction l with
      | nil => intro n; rfl
      | cons x l ih => intro n; simp [enumT, ih]
    rw [key]
    unfold big
    omega
  have lp : loopL (fun env st => evE (cfAt PP 100 (k + 2)) (.tup [.callv 1 true [.var 5], .var 4]) env st) (fun env st => evTs (cfAt PP 100 (k + 2)) [] env st) (.tup [.name 4, .name 5]) { items := enumT 0 fs, at_ := some m } .enum (wipeT (EN6 (some (.loc m)) (some (.fn 23)) none none none none) [4, 5]) (enumT 0 fs) st = .ok (((enumT 0 fs).filter fun _ => true).map kf) st := by
    refine loopL_same sm kf (fun _ => true) _ fun x hx => ?_
    obtain ⟨j, r, rfl, hr, h0, h1⟩ := enum_mem hx
    obtain ⟨w, a, b, rfl, hw, ha, hb⟩ := hf r hr
    refine ⟨EN6 (some (.loc m)) (some (.fn 23)) none none (some (.int j)) (some (.tup [.str w, a, b])), rfl, B_t0, fun _ => ?_⟩
    exact B_tup (B_two (B_callv (f := 23) rfl (by show 23 < 31; decide) (B_one (B_var rfl)) (C_iso (resL_one (thin3 (sn_thin w hw) ha.thin hb.thin)) (fact_lk (k := k) hw ha hb) (thin_res (thin3 (sn_thin w hw) (lk_thin a ha.mem) (lk_thin b hb.mem))))) (B_var rfl))
  rw [List.filter_eq_self.mpr fun _ _ => rfl] at lp
  obtain ⟨us, e, pm⟩ := sort_rows kr
  have hu : ∀ u ∈ us, ∃ (z : T) (j : Int), u = .tup [z, .int j] ∧ 0 ≤ j ∧ j < fs.length := fun u hu => by
    obtain ⟨x, hx, rfl⟩ := List.mem_map.mp (pm.mem_iff.mp hu)
    obtain ⟨j, w, a, b, rfl, _, _, h0, h1⟩ := kr x hx
    exact ⟨_, j, rfl, h0, h1⟩
  have lu : us.length = fs.length := by
    rw [pm.length_eq, List.length_map]
    have key : ∀ (l : List T) (n : Nat), (enumT n l).length = l.length := fun l => by
      induction l with
      | nil => intro n; rfl
      | cons x l ih => intro n; simp [enumT, ih]
    exact key fs 0
  have lp2 : loopL (fun env st => evE (cfAt PP 100 (k + 2)) (.idx (.var 0) (.var 4)) env st) (fun env st => evTs (cfAt PP 100 (k + 2)) [] env st) (.tup [.name 3, .name 4]) { items := us } .val (wipeT (EN6 (some (.loc m)) (some (.fn 23)) (some (.lst us)) none none none) [3, 4]) us st = .ok ((us.filter fun _ => true).map (fq fs)) st := by
    refine loopL_pure rfl (fq fs) (fun _ => true) _ fun u hx => ?_
    obtain ⟨z, j, rfl, h0, h1⟩ := hu u hx
    obtain ⟨r, hr, er⟩ := atT_of h0 h1
    refine ⟨EN6 (some (.loc m)) (some (.fn 23)) (some (.lst us)) (some z) (some (.int j)) none, rfl, B_t0, fun _ => ?_⟩
    have eq : fq fs (.tup [z, .int j]) = r := by show (atT fs j).getD .non = r; rw [er]; rfl
    rw [eq]
    exact B_idx (B_var rfl) (B_var rfl) ((idx_loc hg j).trans er)
  rw [List.filter_eq_self.mpr fun _ _ => rfl] at lp2
  have hw1 : walkOf st .enum [.loc m] = some { items := enumT 0 fs, at_ := some m } := by simp only [walkOf, hg]
  have so : biE (.sorted true) [.lst ((enumT 0 fs).map kf)] st = .ok (.lst us) st := by
    simp only [biE, lstOf, e]
    rfl
  refine ⟨us.map (fq fs), C_rt (P := PP) (f := 20) rfl rfl (S_cons (S_set (B_bi1 (B_comp (B_one (B_var rfl)) hw1 el lp rfl) so) rfl) (S_stop (S_ret (B_comp (B_one (B_var rfl)) rfl (by show us.length ≤ big; unfold big; omega) lp2 rfl)))), fun r hr => ?_, by rw [List.length_map]; exact lu⟩
  obtain ⟨u, hx, rfl⟩ := List.mem_map.mp hr
  obtain ⟨z, j, rfl, h0, h1⟩ := hu u hx
  obtain ⟨r, hr, er⟩ := atT_of h0 h1
  show (atT fs j).getD .non ∈ fs
  rw [er]
  exact hr
end
mutual
theorem thin_noLoc : ∀ {t : T}, thin t = true → noLoc t = true
  | .non, _ => rfl
  | .bl _, _ => rfl
  | .int _, _ => rfl
  | .str _, _ => rfl
  | .tup ts, h => thinL_noLoc (ts := ts) h
  | .lst ts, h => thinL_noLoc (ts := ts) h
  | .dct _, h => by cases h
  | .loc _, h => by cases h
  | .fn _, h => by cases h
  | .act, h => by cases h
  | .scr _, h => by cases h
theorem thinL_noLoc : ∀ {ts : List T}, thinL ts = true → noLocL ts = true
  | [], _ => rfl
  | t :: ts, h => by
    simp only [thinL, Bool.and_eq_true] at h
    simp only [noLocL, thin_noLoc h.1, thinL_noLoc h.2, Bool.and_self]
end
section
variable {st : Store} {k : Nat} {c : Cf} {env : Env}
/-! ### the saying -/
def EN11 (a b d e f g h i j l m : Option T) : Env := [a, b, d, e, f, g, h, i, j, l, m]
def bodyF : List S := [.set 8 (.call 18 false [.var 0, .lst true [.lit (.str "cell"), .lit (.str "list"), .lit (.str "list")]]), .set 9 (.call 18 false [.var 0, .bi (.list true) [.var 1]]), .expr (.mt .append (.var 6) [.tup [.var 8, .var 9, .call 18 false [.var 0, .bin .add (.lst true [.lit .non]) (.bi (.list true) [.var 1])]]])]
theorem say_body : PP[24]? = some ⟨3, 11, [.set 3 (.call 22 true [.var 1]), .set 4 (.bi .tuple [.comp true (.var 10) (.name 10) .val [.var 3] [.cmp .eq (.call 17 false [.var 0, .lit (.int 9)]) (.lit (.int 0))] [10]]), .set 5 (.bi .tuple [.comp true (.var 10) (.name 10) .val [.var 3] [.and (.cmp .eq (.call 17 false [.var 0, .lit (.int 5)]) (.lit (.int 0))) (.cmp .notin (.var 10) (.var 4))] [10]]), .set 6 (.lst false []),
  .fr (.name 7) .rng1 [.call 17 false [.var 0, .bin .add (.var 2) (.lit (.int 1))]] bodyF, .ret (some (.tup [.var 4, .var 5, .bi .tuple [.call 20 false [.var 6, .lit (.fn 23)]]]))]⟩ := rfl
/-- the names that the law draws -/
def N0 : List (List T) := [[.str "a", .str "x"], [.str "a", .str "x", .str "y"], [.str "a", .str "x", .str "y", .str "z"], [.str "x"], [.str "x", .str "y"], [.str "x", .str "y", .str "z"]]
def pairsT : List T → List T
  | [] => []
  | t :: ts => (ts.map fun u => .tup [t, u]) ++ pairsT ts
def cp (n : List T) : List T := pairsT (.non :: n)
variable {n : List T}
theorem couples_ok (hn : n ∈ N0) : callAt PP 100 (k + 1) 22 [.tup n] [] = .ok (.loc 0) [.lst (cp n)] := by
  simp only [N0, List.mem_cons, List.not_mem_nil, or_false] at hn
  rcases hn with rfl | rfl | rfl | rfl | rfl | rfl <;> kernel_rfl
def tmN (n : List T) (x : T) : Bool := decide (x = .non) || decide (x ∈ n)
def cpN (n : List T) : T → Bool
  | .tup [x, y] => tmN n x && tmN n y
  | _ => false
theorem cp_all : ∀ n ∈ N0, (∀ r ∈ cp n, cpN n r = true) ∧ (cp n).length ≤ 10 ∧ (∀ x ∈ n, x ∈ allTm) ∧ thin (.tup n) = true ∧ n.length ≤ 4 ∧ n ≠ [] ∧ ∀ r ∈ cp n, thin r = true ∧ dep r ≤ 2 := by decide +kernel
theorem tm_all {x : T} (h : x ∈ allTm) : TmX x := by
  rcases List.mem_cons.mp
        h with rfl | h
  · exact .inl rfl
  · obtain ⟨s, hs, rfl⟩ := List.mem_map.mp h
    exact .inr ⟨s, hs, rfl⟩
theorem tmN_x (hn : n ∈ N0) {x : T} (h : tmN n x = true) : TmX x := by
  simp only [tmN, Bool.or_eq_true, decide_eq_true_eq] at h
  rcases h with rfl | h
  · exact .inl rfl
  · exact tm_all ((cp_all n hn).2.2.1 x h)
/-- a fact over the names -/
def FN (n : List T) (r : T) : Prop := ∃ w x y, r = .tup [.str w, x, y] ∧ w ∈ Sn ∧ tmN n x = true ∧ tmN n y = true
theorem FN.fr (hn : n ∈ N0) {r : T} (h : FN n r) : FR r := by
  obtain ⟨w, x, y, rfl, hw, hx, hy⟩ := h
  exact ⟨w, x, y, rfl, hw, tmN_x hn hx, tmN_x hn hy⟩
theorem fd_all {w a b : T} (hw : w ∈ ([.str "cell", .str "list", .str "list"] : List T)) (ha : a ∈ n) (hb : b ∈ .non :: n) : FN n (.tup [w, a, b]) := by
  have hw : w = .str "cell" ∨ w = .str "list" := by simpa using hw
  have ta : tmN n a = true := by simp [tmN, ha]
  have tb : tmN n b = true := by
    rcases List.mem_cons.mp
          hb with rfl | hb
    · simp [tmN]
    · simp [tmN, hb]
  rcases hw with rfl | rfl
  · exact ⟨_, a, b, rfl, by decide +kernel, ta, tb⟩
  · exact ⟨_, a, b, rfl, by decide +kernel, ta, tb⟩
theorem one_fact (hn : n ∈ N0) {l : Nat} {fs ts : List T} {e3 e4 e5 e7 e8 e9 e10 : Option T} (hl : st[l]? = some (.lst ts)) (hB : Bag ts) (hf : fs.length ≤ 100) :
    ∃ r e8' e9' ts', evSs (cfAt PP 100 (k + 2)) bodyF (EN11 (some (.loc l)) (some (.tup n)) (some (.int 2)) e3 e4 e5 (some (.loc st.length)) e7 e8 e9 e10) (st ++ [.lst fs]) = .ok .nx (EN11 (some (.loc l)) (some (.tup n)) (some (.int 2)) e3 e4 e5 (some (.loc st.length)) e7 e8' e9' e10) (st.set l (.lst ts') ++ [.lst (fs ++ [r])]) ∧ Bag ts' ∧ FN n r := by
  have hlt : l < st.length := (List.getElem?_eq_some_iff.mp hl).1
  have g : ∀ {s : Store} {x : List T} (y : List T), s[l]? = some (.lst x) → (s ++ [Cell.lst y])[l]? = some (.lst x) := fun {s x} y h => by
    rw [List.getElem?_append_left (List.getElem?_eq_some_iff.mp h).1]; exact h
  have sa : ∀ {s : Store} {x : List T} {d : Cell} (y : List T), s[l]? = some (.lst x) → (s ++ [Cell.lst y]).set l d = s.set l d ++ [Cell.lst y] := fun {s x d} y h => by
    rw [List.set_append_left _ _ (List.getElem?_eq_some_iff.mp h).1]
  obtain ⟨w, hw, t1, q1, b1⟩ := some_ok (P := PP) (lim := 100) (k := k) (f := 18) (g := 17) (things := [.str "cell", .str "list", .str "list"]) p_some p_take (g fs hl) hB (by simp) (by simp)
  rw [sa fs hl] at q1
  obtain ⟨a, ha, t2, q2, b2⟩ := some_ok (P := PP) (lim := 100) (k := k) (f := 18) (g := 17) (things := n) p_some p_take (g fs (set_get hl)) b1 (cp_all n hn).2.2.2.2.2.1 (by have := (cp_all n hn).2.2.2.2.1; omega)
  rw [sa fs (set_get hl), set_set] at q2
  obtain ⟨b, hb, t3, q3, b3⟩ := some_ok (P := PP) (lim := 100) (k := k) (f := 18) (g := 17) (things := .non :: n) p_some p_take (g fs (set_get hl)) b2 (by simp) (by have := (cp_all n hn).2.2.2.2.1; simp only [List.length_cons]; omega)
  rw [sa fs (set_get hl), set_set] at q3
  refine ⟨.tup [w, a, b], some w, some a, t3, ?_, b3, fd_all hw ha hb⟩
  have s1 : evS (cfAt PP 100 (k + 2)) (.set 8 (.call 18 false [.var 0, .lst true [.lit (.str "cell"), .lit (.str "list"), .lit (.str "list")]])) (EN11 (some (.loc l)) (some (.tup n)) (some (.int 2)) e3 e4 e5 (some (.loc st.length)) e7 e8 e9 e10) (st ++ [.lst fs]) = .ok .nx (EN11 (some (.loc l)) (some (.tup n)) (some (.int 2)) e3 e4 e5 (some (.loc st.length)) e7 (some w) e9 e10) (st.set l (.lst t1) ++ [.lst fs]) :=
    S_set (B_call (B_two (B_var rfl) (B_lstT (B_cons B_lit (B_two B_lit B_lit)))) (C_own q1)) rfl
  have s2 : evS (cfAt PP 100 (k + 2)) (.set 9 (.call 18 false [.var 0, .bi (.list true) [.var 1]])) (EN11 (some (.loc l)) (some (.tup n)) (some (.int 2)) e3 e4 e5 (some (.loc st.length)) e7 (some w) e9 e10) (st.set l (.lst t1) ++ [.lst fs]) = .ok .nx (EN11 (some (.loc l)) (some (.tup n)) (some (.int 2)) e3 e4 e5 (some (.loc st.length)) e7 (some w) (some a) e10) (st.set l (.lst t2) ++ [.lst fs]) :=
    S_set (B_call (B_two (B_var rfl) (B_bi1 (B_var rfl) rfl)) (C_own q2)) rfl
  have len : (st.set l (Cell.lst t2)).length = st.length := by simp
  have len3 : (st.set l (Cell.lst t3)).length = st.length := by simp
  have k1 : kindOf (st.set l (Cell.lst t2) ++ [Cell.lst fs]) (.loc st.length) = 1 := by
    have := last_get (st := st.set l (Cell.lst t2)) (c := .lst fs)
    rw [len] at this
    simp only [kindOf, this]
  have k3 : kindOf (st.set l (Cell.lst t3) ++ [Cell.lst fs]) (.loc st.length) = 1 := by
    have := last_get (st := st.set l (Cell.lst t3)) (c := .lst fs)
    rw [len3] at this
    simp only [kindOf, this]
  have s3 : evS (cfAt PP 100 (k + 2)) (.expr (.mt .append (.var 6) [.tup [.var 8, .var 9, .call 18 false [.var 0, .bin .add (.lst true [.lit .non]) (.bi (.list true) [.var 1])]]])) (EN11 (some (.loc l)) (some (.tup n)) (some (.int 2)) e3 e4 e5 (some (.loc st.length)) e7 (some w) (some a) e10) (st.set l (.lst t2) ++ [.lst fs]) = .ok .nx (EN11 (some (.loc l)) (some (.tup n)) (some (.int 2)) e3 e4 e5 (some (.loc st.length)) e7 (some w) (some a) e10) (st.set l (.lst t3) ++ [.lst (fs ++ [.tup [w, a, b]])]) := by
    refine S_expr (t := .non) (B_mt (B_var rfl) (by rw [k1]; rfl) (B_one (B_tup (B_cons (B_var rfl) (B_two (B_var rfl) (B_call (B_two (B_var rfl) (B_bin (B_lstT (B_one B_lit)) (B_bi1 (B_var rfl) rfl) (add_lst (a := [.non]) (b := n) (by have := (cp_all n hn).2.2.2.2.1; simp only [List.length_singleton]; unfold big; omega)))) (C_own q3)))))) (by rw [k1, k3]) ?_)
    have g1 := last_get (st := st.set l (Cell.lst t3)) (c := .lst fs)
    have g2 := last_set (st := st.set l (Cell.lst t3)) (c := .lst fs) (d := .lst (fs ++ [.tup [w, a, b]]))
    rw [len3] at g1 g2
    simp only [mtE, g1, g2]
    rw [if_pos (by unfold big; omega)]
  exact S_cons s1 (S_cons s2 (S_cons s3 S_nil))
theorem facts_draw (hn : n ∈ N0) {l m : Nat} {e3 e4 e5 e10 : Option T} {w : Walk} {ik : Ik} (hw : w.at_ = none) : ∀ (xs : List T) (st : Store) (fs ts : List T) (e7 e8 e9 : Option T), st.length = m → st[l]? = some (.lst ts) → Bag ts → fs.length + xs.length ≤ 100 → (∀ r ∈ fs, FN n r) →
    ∃ gs ts' e7' e8' e9', forL (fun env st => evSs (cfAt PP 100 (k + 2)) bodyF env st) (.name 7) w ik xs (EN11 (some (.loc l)) (some (.tup n)) (some (.int 2)) e3 e4 e5 (some (.loc m)) e7 e8 e9 e10) (st ++ [.lst fs]) = .ok .nx (EN11 (some (.loc l)) (some (.tup n)) (some (.int 2)) e3 e4 e5 (some (.loc m)) e7' e8' e9' e10) (st.set l (.lst ts') ++ [.lst gs])
      ∧ Bag ts' ∧ (∀ r ∈ gs, FN n r) ∧ gs.length = fs.length + xs.length
  | [], st, fs, ts, e7, e8, e9, hm, hl, hB, _, hf => ⟨fs, ts, e7, e8, e9, by rw [set_same hl]; simp [forL, same_none hw], hB, hf, rfl⟩
  | x :: xs, st, fs, ts, e7, e8, e9, hm, hl, hB, hle, hf => by
    simp only [List.length_cons] at hle
    obtain ⟨r, f8, f9, ts1, q1, b1, fr⟩ := one_fact (k := k) hn (st := st) (l := l) (fs := fs) (ts := ts) (e3 := e3) (e4 := e4) (e5 := e5) (e7 := some x) (e8 := e8) (e9 := e9) (e10 := e10) hl hB (by omega)
    rw [hm] at q1
    obtain ⟨gs, ts2, g7, g8, g9, q2, b2, hg, lg⟩ := facts_draw hn (l := l) (m := m) (e3 := e3) (e4 := e4) (e5 := e5) (e10 := e10) (ik := ik) hw xs (st.set l (.lst ts1)) (fs ++ [r]) ts1 (some x) f8 f9 (by simp [hm]) (set_get hl) b1 (by simp; omega) fun z hz => by
      rcases List.mem_append.mp
            hz with hz | hz
      · exact hf z hz
      · simp at hz; subst hz; exact fr
    rw [set_set] at q2
    refine ⟨gs, ts2, g7, g8, g9, ?_, b2, hg, by rw [lg]; simp; omega⟩
    have hs : setG (.name 7) x (EN11 (some (.loc l)) (some (.tup n)) (some (.int 2)) e3 e4 e5 (some (.loc m)) e7 e8 e9 e10) = some (EN11 (some (.loc l)) (some (.tup n)) (some (.int 2)) e3 e4 e5 (some (.loc m)) (some x) e8 e9 e10) := rfl
    simp only [forL, same_none hw, if_true, hs, q1]
    exact q2
theorem saying_ok (hn : n ∈ N0) {l : Nat} {ts : List T} (hl : st[l]? = some (.lst ts)) (hB : Bag ts) :
    ∃ a b d st' ts', callAt PP 100 (k + 4) 24 [.loc l, .tup n, .int 2] st = .ok (say a b d) st' ∧ st'[l]? = some (.lst ts') ∧ Bag ts' ∧ (∀ r ∈ a, r ∈ cp n) ∧ (∀ r ∈ b, r ∈ cp n) ∧ (∀ r ∈ d, FN n r) ∧ a.length ≤ 10 ∧ b.length ≤ 10 ∧ d.length ≤ 2 := by
  obtain ⟨_, cl, _, n3, _, _, cthin⟩ := cp_all n hn
  have cc : callE (cfAt PP 100 (k + 3)) 22 true [.tup n] st = .ok (.lst (cp n)) st := C_iso (resL_one n3) (couples_ok (k := k + 2) hn) (by
    have tc : thinL (cp n) = true := thinL_iff.mpr fun r hr => (cthin r hr).1
    have nl : noLocL (cp n) = true := thinL_noLoc tc
    show (if noLocL (cp n) then some (T.lst (cp n)) else none) = _
    rw [nl]
    rfl)
  obtain ⟨a, t1, q1, b1, ma, la⟩ := pick_loop (c := cfAt PP 100 (k + 3)) (l := l) (s := 10) (te := .cmp .eq (.call 17 false [.var 0, .lit (.int 9)]) (.lit (.int 0))) (env := EN11 (some (.loc l)) (some (.tup n)) (some (.int 2)) (some (.lst (cp n))) none none none none none none none) (w := { items := (cp n) }) (ik := .val) (D := (cp n)) rfl (by show 10 < 11; decide) (fun x st ts _ hl hB => by
    obtain ⟨v, ts', e, b, _, _⟩ := take_ok (P := PP) (lim := 100) (k := k + 2) (f := 17) (m := 9) p_take hl hB (by omega) (by omega)
    exact ⟨_, ts', B_cmp (B_call (B_two (B_var rfl) B_lit) (C_own e)) B_lit (cmp_eq_int ..), b⟩) (cp n) st ts (fun x hx => hx) hl hB
  have tA : thinL a = true ∧ depL a ≤ 60 := ⟨thinL_iff.mpr fun r hr => (cthin r (ma r hr)).1, Nat.le_trans (depL_le fun r hr => (cthin r (ma r hr)).2) (by omega)⟩
  obtain ⟨b, t2, q2, b2, mb, lb⟩ := pick_loop (c := cfAt PP 100 (k + 3)) (l := l) (s := 10) (te := .and (.cmp .eq (.call 17 false [.var 0, .lit (.int 5)]) (.lit (.int 0))) (.cmp .notin (.var 10) (.var 4))) (env := EN11 (some (.loc l)) (some (.tup n)) (some (.int 2)) (some (.lst (cp n))) (some (.tup a)) none none none none none none) (w := { items := (cp n) }) (ik := .val) (D := (cp n)) rfl (by show 10 < 11; decide) (fun x st ts hx hl hB => by
    obtain ⟨v, ts', e, b, _, _⟩ := take_ok (P := PP) (lim := 100) (k := k + 2) (f := 17) (m := 5) p_take hl hB (by omega) (by omega)
    have rx := cthin x hx
    obtain ⟨c, hc⟩ := in_total (st := st.set l (.lst ts')) (x := x) (L := a) rx.1 (Nat.le_trans rx.2 (by omega)) tA.1 tA.2
    have e1 : evE (cfAt PP 100 (k + 3)) (.cmp .eq (.call 17 false [.var 0, .lit (.int 5)]) (.lit (.int 0))) ((EN11 (some (.loc l)) (some (.tup n)) (some (.int 2)) (some (.lst (cp n))) (some (.tup a)) none none none none none none).set 10 (some x)) st = .ok (.bl (decide (v = 0))) (st.set l (.lst ts')) := B_cmp (B_call (B_two (B_var rfl) B_lit) (C_own e)) B_lit (cmp_eq_int ..)
    by_cases hv : v = 0
    · rw [decide_eq_true hv] at e1
      exact ⟨c, ts', B_andT e1 (B_cmp (B_var rfl) (B_var rfl) hc), b⟩
    · rw [decide_eq_false hv] at e1
      exact ⟨false, ts', B_andF e1, b⟩) (cp n) (st.set l (.lst t1)) t1 (fun x hx => hx) (set_get hl) b1
  rw [set_set] at q2
  obtain ⟨v, t3, q3, b3, v0, v1⟩ := take_ok (P := PP) (lim := 100) (k := k + 2) (f := 17) (m := 3) (st := st.set l (.lst t2) ++ [.lst []]) p_take (l := l) (ts := t2) (by rw [List.getElem?_append_left (by simpa using (List.getElem?_eq_some_iff.mp hl).1)]; exact set_get hl) b2 (by omega) (by omega)
  have hlt : l < (st.set l (Cell.lst t2)).length := by simpa using (List.getElem?_eq_some_iff.mp hl).1
  rw [List.set_append_left _ _ hlt, set_set] at q3
  obtain ⟨fs, t4, g7, g8, g9, q4, b4, hf, lf⟩ := facts_draw (k := k + 1) hn (l := l) (m := st.length) (e3 := some (.lst (cp n))) (e4 := some (.tup a)) (e5 := some (.tup b)) (e10 := none) (w := { items := (List.range v.toNat).map fun i => .int (0 + (i : Nat)) }) (ik := .rng1) rfl ((List.range v.toNat).map fun i => .int (0 + (i : Nat))) (st.set l (.lst t3)) [] t3 none none none (by simp) (set_get hl) b3 (by simp; omega) (fun r hr => (nomatch hr))
  rw [set_set] at q4
  have hgf : (st.set l (Cell.lst t4) ++ [Cell.lst fs])[st.length]? = some (.lst fs) := by
    have := last_get (st := st.set l (Cell.lst t4)) (c := .lst fs)
    rwa [show (st.set l (Cell.lst t4)).length = st.length by simp] at this
  have lfs : fs.length ≤ 2 := by rw [lf]; simp; omega
  obtain ⟨gs, q5, mg, lg⟩ := by_ok (k := k) (m := st.length) (fs := fs) hgf (fun r hr => (hf r hr).fr hn) (by omega)
  have hw1 : walkOf (st.set l (Cell.lst t3) ++ [Cell.lst []]) .rng1 [.int v] = some { items := (List.range v.toNat).map fun i => .int (0 + (i : Nat)) } := if_pos ⟨by omega, by omega⟩
  refine ⟨a, b, gs, st.set l (.lst t4) ++ [.lst fs], t4, ?_, ?_, b4, ma, mb, fun r hr => hf r (mg r hr), by omega, by omega, by omega⟩
  · have s5 : evS (cfAt PP 100 (k + 3)) (.fr (.name 7) .rng1 [.call 17 false [.var 0, .bin .add (.var 2) (.lit (.int 1))]] bodyF) (EN11 (some (.loc l)) (some (.tup n)) (some (.int 2)) (some (.lst (cp n))) (some (.tup a)) (some (.tup b)) (some (.loc st.length)) none none none none) (st.set l (.lst t2) ++ [.lst []])
        = .ok .nx (EN11 (some (.loc l)) (some (.tup n)) (some (.int 2)) (some (.lst (cp n))) (some (.tup a)) (some (.tup b)) (some (.loc st.length)) g7 g8 g9 none) (st.set l (.lst t4) ++ [.lst fs]) := S_for (B_one (B_call (B_two (B_var rfl) (B_bin (B_var rfl) B_lit (add_int ..))) (C_own q3))) hw1 q4
    have s6 : evSs (cfAt PP 100 (k + 3)) [.ret (some (.tup [.var 4, .var 5, .bi .tuple [.call 20 false [.var 6, .lit (.fn 23)]]]))] (EN11 (some (.loc l)) (some (.tup n)) (some (.int 2)) (some (.lst (cp n))) (some (.tup a)) (some (.tup b)) (some (.loc st.length)) g7 g8 g9 none) (st.set l (.lst t4) ++ [.lst fs])
        = .ok (.rt (say a b gs)) (EN11 (some (.loc l)) (some (.tup n)) (some (.int 2)) (some (.lst (cp n))) (some (.tup a)) (some (.tup b)) (some (.loc st.length)) g7 g8 g9 none) (st.set l (.lst t4) ++ [.lst fs]) := S_stop (S_ret (B_tup (B_cons (B_var rfl) (B_two (B_var rfl) (B_bi1 (B_call (B_two (B_var rfl) B_lit) (C_own q5)) rfl)))))
    have s4 : evS (cfAt PP 100 (k + 3)) (.set 6 (.lst false [])) (EN11 (some (.loc l)) (some (.tup n)) (some (.int 2)) (some (.lst (cp n))) (some (.tup a)) (some (.tup b)) none none none none none) (st.set l (.lst t2))
        = .ok .nx (EN11 (some (.loc l)) (some (.tup n)) (some (.int 2)) (some (.lst (cp n))) (some (.tup a)) (some (.tup b)) (some (.loc st.length)) none none none none) (st.set l (.lst t2) ++ [.lst []]) := by
      have q := S_set (c := cfAt PP 100 (k + 3)) (i := 6) (env := EN11 (some (.loc l)) (some (.tup n)) (some (.int 2)) (some (.lst (cp n))) (some (.tup a)) (some (.tup b)) none none none none none) (st := st.set l (.lst t2)) (B_lstF B_nil) rfl
      rw [show (st.set l (Cell.lst t2)).length = st.length by simp] at q
      exact q
    exact C_rt (P := PP) (f := 24) say_body rfl (S_cons (S_set (B_call (B_one (B_var rfl)) cc) rfl) (S_cons (S_set (B_bi1 (B_comp (B_one (B_var rfl)) rfl (by show (cp n).length ≤ big; unfold big; omega) q1 rfl) rfl) rfl) (S_cons (S_set (B_bi1 (B_comp (B_one (B_var rfl)) rfl (by show (cp n).length ≤ big; unfold big; omega) q2 rfl) rfl) rfl) (S_cons s4 (S_cons s5 s6)))))
  · rw [List.getElem?_append_left (by simpa using (List.getElem?_eq_some_iff.mp hl).1)]
    exact set_get hl
end
end Lw
set_option Elab.async false
set_option linter.all false
set_option maxRecDepth 100000
/-! F21: what is finite in k21. -/
namespace Lw
open PySem PySem.Spec PyProof.Rows
def topN (r : List Int) : Nat := (r.foldl max 0).toNat
def rgs : Nat → List (List Int)
  | 0 => [[]]
  | m + 1 => (rgs m).flatMap fun r => (List.range (topN r + 2)).map fun (i : Nat) => r ++ [(i : Int)]
def rowT (r : List Int) : T := .tup (r.map .int)
def every (n : List T) : List T := (rgs n.length).map rowT
def cv (n : List T) (r : List Int) (t : T) : Int := if t = .non then 0 else (((n.zip r).find? fun p => decide (p.1 = t)).map (·.2)).getD 0
def lots (n : List T) (r : List Int) : T := .tup ((List.range (topN r + 1)).map fun (i : Nat) => .tup (((n.zip r).filter fun p => decide (p.2 = (i : Int))).map (·.1)))
/-- an answer, told without places; an error without fields -/
def okR (r : Res T) (t : T) : Bool := match r with
  | .ok u st => decide (res st u = some t)
  | _ => false
def exR (r : Res T) : Bool := match r with
  | .exc x _ => decide (x.cls = 1) && x.fs.isEmpty
  | _ => false
theorem okR_of {r : Res T} {t : T} (h : okR r t = true) : ∃ u st, r = .ok u st ∧ res st u = some t := by
  cases r with
  | ok u st => exact ⟨u, st, rfl, of_decide_eq_true h⟩
  | _ => cases h
theorem exR_of {r : Res T} (h : exR r = true) : ∃ st, r = .exc ⟨1, []⟩ st := by
  cases r with
  | exc x st =>
    obtain ⟨cl, fs⟩ := x
    simp only [exR, Bool.and_eq_true, decide_eq_true_eq, List.isEmpty_iff] at h
    obtain ⟨h1, h2⟩ := h
    subst h1 h2
    exact ⟨st, rfl⟩
  | _ => cases h
theorem fa1 : ∀ n ∈ N0, okR (callAt PP 100 59 27 [.tup n] []) (.lst (every n)) = true := by decide +kernel
theorem fa2 : ∀ m ∈ [59, 58], ∀ n ∈ N0, okR (callAt PP 100 m 8 [.tup n] []) (.tup (every n)) = true := by decide +kernel
theorem fa3 : ∀ m ∈ [58, 57], ∀ n ∈ N0, ∀ r ∈ rgs n.length, okR (callAt PP 100 m 10 [.tup n, rowT r] []) .non = true := by decide +kernel
theorem fa4 : ∀ n ∈ N0, ∀ r ∈ rgs n.length, okR (callAt PP 100 59 9 [.tup n, rowT r] []) (.bl true) = true := by decide +kernel
theorem fa5 : ∀ n ∈ N0, ∀ r ∈ rgs n.length, okR (callAt PP 100 59 12 [.tup n, rowT r] []) (lots n r) = true := by decide +kernel
theorem fa6 : ∀ m ∈ [59, 58, 57], ∀ n ∈ N0, ∀ r ∈ rgs n.length, ∀ t ∈ .non :: n, okR (callAt PP 100 m 11 [.tup n, rowT r, t] []) (.int (cv n r t)) = true := by decide +kernel
theorem fa7 : ∀ n ∈ N0, ∀ r ∈ rgs n.length, ∀ t ∈ .non :: n, okR (callAt PP 100 58 28 [.tup n, rowT r, t] []) (.int (cv n r t)) = true := by decide +kernel
/-- the things beside a row -/
def rep (n : Nat) (t : T) : T := .tup (List.replicate n t)
def tset (m : Nat) (r : List Int) : List T := [.non, .lst (r.map .int), .tup (r.map .int ++ [.int 0]), .tup ((r.map T.int).drop 1), rep m (.int 1), rep m (.int 2), rep m (.bl true), rep m (.int (-1)), .tup ((List.range m).map fun (i : Nat) => .int (1 + (i : Nat))), rep m (.int 0)]
def isI : T → Bool
  | .int _ => true
  | _ => false
def fitB (n : List T) : T → Bool
  | .tup ts => ts.all isI && decide (T.tup ts ∈ every n)
  | _ => false
theorem fa8 : ∀ n ∈ N0, ∀ r ∈ rgs n.length, ∀ t ∈ tset n.length r, okR (callAt PP 100 59 9 [.tup n, t] []) (.bl (fitB n t)) = true ∧ (fitB n t = false → exR (callAt PP 100 57 12 [.tup n, t] []) = true) := by decide +kernel
def odds : List T := [.non, .lst [.str "x"], .tup [.str "y", .str "x"], .tup [.str "x", .str "x"], .tup [.str "A"], .tup [.int 1]]
theorem fa9 : ∀ o ∈ odds, exR (callAt PP 100 57 8 [o] []) = true ∧ exR (callAt PP 100 56 8 [o] []) = true ∧ exR (callAt PP 100 57 9 [o, .tup []] []) = true := by decide +kernel
theorem fa10 : ∀ n ∈ N0, ∀ r ∈ rgs n.length, (∀ q ∈ ([.str "q", .int 1, .str "A"] : List T), exR (callAt PP 100 57 11 [.tup n, rowT r, q] []) = true) ∧ exR (callAt PP 100 56 10 [.tup n, .tup (r.map .int ++ [.int 0])] []) = true := by decide +kernel
theorem fa11 : ∀ n ∈ N0, exR (callAt PP 100 57 15 [.tup [.tup [], .tup [], .tup [.tup [.str "cell", .str "q", .non]]], .tup n] []) = true := by decide +kernel
end Lw
set_option Elab.async false
set_option linter.all false
set_option maxRecDepth 100000
/-! G21: check_saying, is_let, classes_let, _law_lets. -/
namespace Lw
open PySem PySem.Spec PyProof.Rows
section
variable {st : Store} {k : Nat} {c : Cf} {env : Env} {n a b d : List T} {r : List Int}
theorem isO {m f : Nat} {args : List T} {t : T} (h : okR (callAt PP 100 m f args []) t = true) (ht : thinL args = true) : callE (cfAt PP 100 m) f true args st = .ok t st := by
  obtain ⟨u, s, e, q⟩ := okR_of h
  exact C_iso (thinL_res ht) e q
theorem isX {m f : Nat} {args : List T} (h : exR (callAt PP 100 m f args []) = true) (ht : thinL args = true) : callE (cfAt PP 100 m) f true args st = .exc ⟨1, []⟩ st := by
  obtain ⟨s, e⟩ := exR_of h
  exact C_isoX (thinL_res ht) e
theorem all_thin : ∀ n ∈ N0, thin (.tup n) = true ∧ ∀ r ∈ rgs n.length, thin (rowT r) = true := by decide +kernel
theorem thin_cons {t : T} {ts : List T} (h : thin t = true) (hs : thinL ts = true) : thinL (t :: ts) = true := by
  simp only [thinL, h, hs, Bool.and_self]
/-- a saying over the names -/
structure SN (n a b d : List T) : Prop where
  ra : ∀ r ∈ a, r ∈ cp n
  rb : ∀ r ∈ b, r ∈ cp n
  rd : ∀ r ∈ d, FN n r
  la : a.length ≤ 10
  lb : b.length ≤ 10
  ld : d.length ≤ 2
theorem cp_row (hn : n ∈ N0) {r : T} (h : r ∈ cp n) : ∃ x y, r = .tup [x, y] ∧ tmN n x = true ∧ tmN n y = true := by
  have := (cp_all n hn).1 r h
  unfold cpN at this
  split at this
  · rw [Bool.and_eq_true] at this
    exact ⟨_, _, rfl, this.1, this.2⟩
  · cases this
theorem cp_cr (hn : n ∈ N0) {r : T} (h : r ∈ cp n) : CR r := by
  obtain ⟨x, y, rfl, hx, hy⟩ := cp_row hn h
  exact ⟨x, y, rfl, tmN_x hn hx, tmN_x hn hy⟩
theorem SN.sr (hn : n ∈ N0) (S : SN n a b d) : SR a b d := ⟨fun r hr => cp_cr hn (S.ra r hr), fun r hr => cp_cr hn (S.rb r hr), fun r hr => (S.rd r hr).fr hn, by have := S.la; have := S.lb; omega, by have := S.ld; omega⟩
theorem SN.thin (hn : n ∈ N0) (S : SN n a b d) : thin (say a b d) = true := by
  have R := S.sr hn
  exact thin3 (thinL_iff.mpr fun r hr => (R.sa r hr).thin) (thinL_iff.mpr fun r hr => (R.sb r hr).thin) (thinL_iff.mpr fun r hr => (R.sd r hr).thin)
theorem SN.terms (hn : n ∈ N0) (S : SN n a b d) : ∀ x ∈ terms a b d, tmN n x = true := by
  have row2 : ∀ r ∈ cp n, ∀ x ∈ trm r, tmN n x = true := fun r hr x hx => by
    obtain ⟨u, v, rfl, hu, hv⟩ := cp_row hn hr
    have hx : x = u ∨ x = v := by simpa [trm] using hx
    rcases hx with rfl | rfl <;> assumption
  intro x hx
  rcases List.mem_append.mp
        hx with hx | hx
  · obtain ⟨r, hr, hx⟩ := List.mem_flatMap.mp hx
    rcases List.mem_append.mp
          hr with hr | hr
    · exact row2 r (S.ra r hr) x hx
    · exact row2 r (S.rb r hr) x hx
  · obtain ⟨r, hr, hx⟩ := List.mem_flatMap.mp hx
    obtain ⟨w, u, v, rfl, hw, hu, hv⟩ := S.rd r hr
    have hx : x = u ∨ x = v := by simpa [trm] using hx
    rcases hx with rfl | rfl <;> assumption
theorem names_in_ok (hn : n ∈ N0) (S : SN n a b d) : ∃ L st', callAt PP 100 (k + 5) 6 [say a b d] [] = .ok (.tup L) st' ∧ Lw.thin (.tup L) = true ∧ (∀ x ∈ L, x ∈ n) ∧ L.length ≤ 14 := by
  have R := S.sr hn
  obtain ⟨L, st', q, nd, hm⟩ := terms_ok (k := k) R (S.thin hn)
  have tL : Lw.thin (.tup L) = true := tmL_thin fun x hx => R.tm x ((hm x).mp hx)
  have ks : Ks L := ⟨nd, fun x hx => R.tm x ((hm x).mp hx)⟩
  refine ⟨L.filter notNon, [], C_rt (P := PP) (f := 6) rfl rfl (S_stop (S_ret (B_bi1 (filt_comp (B_call (B_one (B_var rfl)) (C_iso (resL_one (S.thin hn)) q (thin_res tL))) (by have := ks.len; unfold big; omega) (by show 1 < 2; decide)) rfl))), tmL_thin fun x hx => ks.tm x (List.mem_filter.mp hx).1, fun x hx => ?_, Nat.le_trans (List.length_filter_le _ _) ks.len⟩
  obtain ⟨h1, h2⟩ := List.mem_filter.mp hx
  have := S.terms hn x ((hm x).mp h1)
  simp only [tmN, Bool.or_eq_true, decide_eq_true_eq] at this
  rcases this with rfl | h
  · cases h2
  · exact h
theorem name_in : ∀ n ∈ N0, ∀ x ∈ n, cmpE .isin x (.tup n) [] = some true := by decide +kernel
theorem bools_all : ∀ L : List T, boolsOf (L.map fun _ => T.bl true) = some (L.map fun _ => true)
  | [] => rfl
  | x :: xs => by simp only [List.map_cons, boolsOf, bools_all xs, Option.map_some]
theorem check_saying (hn : n ∈ N0) (S : SN n a b d) : callAt PP 100 (k + 6) 13 [say a b d, .tup n] [] = .ok .non [] := by
  obtain ⟨L, st', q, tL, hm, hl⟩ := names_in_ok (k := k) hn S
  have lp : loopL (fun env st => evE (cfAt PP 100 (k + 5)) (.cmp .isin (.var 2) (.var 1)) env st) (fun env st => evTs (cfAt PP 100 (k + 5)) [] env st) (.name 2) { items := L } .val (wipeT [some (say a b d), some (.tup n), none] [2]) L [] = .ok ((L.filter fun _ => true).map fun _ => T.bl true) [] := by
    refine loopL_pure rfl (fun _ => T.bl true) (fun _ => true) _ fun x hx => ?_
    exact ⟨[some (say a b d), some (.tup n), some x], rfl, B_t0, fun _ => B_cmp (B_var rfl) (B_var rfl) (name_in n hn x (hm x hx))⟩
  rw [List.filter_eq_self.mpr fun _ _ => rfl] at lp
  have al : evE (cfAt PP 100 (k + 5)) (.bi .all [.comp true (.cmp .isin (.var 2) (.var 1)) (.name 2) .val [.call 6 true [.var 0]] [] [2]]) [some (say a b d), some (.tup n), none] [] = .ok (.bl true) [] := by
    refine B_bi1 (B_comp (B_one (B_call (B_one (B_var rfl)) (C_iso (resL_one (S.thin hn)) q (thin_res tL)))) rfl (by show L.length ≤ big; unfold big; omega) lp rfl) ?_
    show Res.of ((boolsOf (L.map fun _ => T.bl true)).map fun bs => T.bl (bs.all id)) [] = _
    rw [bools_all]
    show Res.ok (T.bl ((L.map fun _ => true).all id)) [] = _
    rw [show (L.map fun _ => true).all id = true from List.all_eq_true.mpr fun x hx => by obtain ⟨_, _, rfl⟩ := List.mem_map.mp hx; rfl]
  exact C_nx (P := PP) (f := 13) rfl rfl (S_cons (S_iteF (B_not (k := true) al) S_nil) S_nil)
/-! ### what a row lets -/
def eqC (n : List T) (r : List Int) : T → Bool
  | .tup [x, y] => decide (cv n r x = cv n r y)
  | _ => false
def letB (n a b : List T) (r : List Int) : Bool := a.all (eqC n r) && b.all fun c => !eqC n r c
theorem tm_mem {x : T} (h : tmN n x = true) : x ∈ .non :: n := by
  simp only [tmN, Bool.or_eq_true, decide_eq_true_eq] at h
  rcases h with rfl | h
  · exact List.mem_cons_self
  · exact List.mem_cons_of_mem _ h
theorem cls_call {m i : Nat} {x : T} (hm : m ∈ [59, 58, 57]) (hn : n ∈ N0) (hr : r ∈ rgs n.length) (hx : tmN n x = true) (h1 : env[1]? = some (some (.tup n))) (h2 : env[2]? = some (some (rowT r))) (h3 : env[i]? = some (some x)) : evE (cfAt PP 100 m) (.call 11 true [.var 1, .var 2, .var i]) env st = .ok (.int (cv n r x)) st :=
  B_call (B_cons (B_var h1) (B_two (B_var h2) (B_var h3))) (isO (fa6 m hm n hn r hr x (tm_mem hx)) (thin_cons (all_thin n hn).1 (thin_cons ((all_thin n hn).2 r hr) (thin_cons (tmN_x hn hx).thin rfl))))
theorem cls_law {i : Nat} {x : T} (hn : n ∈ N0) (hr : r ∈ rgs n.length) (hx : tmN n x = true) (h1 : env[1]? = some (some (.tup n))) (h2 : env[2]? = some (some (rowT r))) (h3 : env[i]? = some (some x)) : evE (cfAt PP 100 58) (.call 28 true [.var 1, .var 2, .var i]) env st = .ok (.int (cv n r x)) st :=
  B_call (B_cons (B_var h1) (B_two (B_var h2) (B_var h3))) (isO (fa7 n hn r hr x (tm_mem hx)) (thin_cons (all_thin n hn).1 (thin_cons ((all_thin n hn).2 r hr) (thin_cons (tmN_x hn hx).thin rfl))))
theorem first_all {v : T → Bool} {z : T ⊕ Exc} : ∀ xs : List T, (xs.findSome? fun u => if v u then none else some z) = if xs.all v then none else some z
  | [] => rfl
  | x :: xs => by
    rw [List.findSome?_cons, first_all xs, List.all_cons]
    cases v x <;> rfl
def ENl (s n r x y : Option T) : Env := [s, n, r, x, y]
/-- a loop over couples: the first that is not as asked ends it -/
theorem cpl_loop {cf : Cf} {f : Nat} {o : Cop} {v : T → Bool} {rs : List T} {e3 e4 : Option T} {j : Int} (hn : n ∈ N0) (hs : ∀ c ∈ rs, c ∈ cp n) (ht : idxE (say a b d) (.int j) st = some (.tup rs)) (hv : ∀ x y, v (.tup [x, y]) = v (.tup [x, y]))
    (hc : ∀ (x y : T), tmN n x = true → tmN n y = true → evE cf (.cmp o (.call f true [.var 1, .var 2, .var 3]) (.call f true [.var 1, .var 2, .var 4])) (ENl (some (say a b d)) (some (.tup n)) (some (rowT r)) (some x) (some y)) st = .ok (.bl (!v (.tup [x, y]))) st) :
    ∃ e3' e4', evS cf (.fr (.tup [.name 3, .name 4]) .val [.idx (.var 0) (.lit (.int j))] [.ite (.cmp o (.call f true [.var 1, .var 2, .var 3]) (.call f true [.var 1, .var 2, .var 4])) [.ret (some (.lit (.bl false)))] []]) (ENl (some (say a b d)) (some (.tup n)) (some (rowT r)) e3 e4) st
      = endR (if rs.all v then none else some (.inl (.bl false))) (ENl (some (say a b d)) (some (.tup n)) (some (rowT r)) e3' e4') st := by
  obtain ⟨env2, ⟨e3', e4', rfl⟩, e⟩ := forL_first (st := st) (k := .val) (g := .tup [.name 3, .name 4]) (w := { items := rs }) (body := fun env st => evSs cf [.ite (.cmp o (.call f true [.var 1, .var 2, .var 3]) (.call f true [.var 1, .var 2, .var 4])) [.ret (some (.lit (.bl false)))] []] env st) rfl
    (fun u => if v u then none else some (.inl (.bl false))) (fun env => ∃ e3 e4, env = ENl (some (say a b d)) (some (.tup n)) (some (rowT r)) e3 e4) rs (ENl (some (say a b d)) (some (.tup n)) (some (rowT r)) e3 e4) ⟨_, _, rfl⟩ fun u hu env ⟨e3, e4, he⟩ => by
      obtain ⟨x, y, rfl, hx, hy⟩ := cp_row hn (hs u hu)
      subst he
      refine ⟨ENl (some (say a b d)) (some (.tup n)) (some (rowT r)) (some x) (some y), ENl (some (say a b d)) (some (.tup n)) (some (rowT r)) (some x) (some y), rfl, ⟨_, _, rfl⟩, ?_⟩
      have q := hc x y hx hy
      cases h : v (.tup [x, y]) with
      | true =>
        rw [h] at q
        exact S_cons (S_iteF q S_nil) S_nil
      | false =>
        rw [h] at q
        exact S_stop (S_iteT q (S_stop (S_ret B_lit)))
  rw [first_all] at e
  exact ⟨e3', e4', S_for (B_one (B_idx (B_var rfl) B_lit ht)) (w := { items := rs }) rfl e⟩
theorem is_let_ok (hk : k + 6 ∈ [58, 57]) (hn : n ∈ N0) (S : SN n a b d) (hr : r ∈ rgs n.length) : callAt PP 100 (k + 7) 14 [say a b d, .tup n, rowT r] [] = .ok (.bl (letB n a b r)) [] := by
  have h3 : k + 6 ∈ [59, 58, 57] := List.mem_cons_of_mem _ hk
  have tn := (all_thin n hn).1
  have tr := (all_thin n hn).2 r hr
  have c1 : evS (cfAt PP 100 (k + 6)) (.expr (.call 10 true [.var 1, .var 2])) (ENl (some (say a b d)) (some (.tup n)) (some (rowT r)) none none) [] = .ok .nx (ENl (some (say a b d)) (some (.tup n)) (some (rowT r)) none none) [] :=
    S_expr (B_call (B_two (B_var rfl) (B_var rfl)) (isO (fa3 (k + 6) hk n hn r hr) (thin_cons tn (thin_cons tr rfl))))
  have c2 : evS (cfAt PP 100 (k + 6)) (.expr (.call 13 true [.var 0, .var 1])) (ENl (some (say a b d)) (some (.tup n)) (some (rowT r)) none none) [] = .ok .nx (ENl (some (say a b d)) (some (.tup n)) (some (rowT r)) none none) [] :=
    S_expr (B_call (B_two (B_var rfl) (B_var rfl)) (C_iso (resL_two (S.thin hn) tn) (check_saying (k := k) hn S) rfl))
  obtain ⟨f3, f4, l1⟩ := cpl_loop (st := []) (cf := cfAt PP 100 (k + 6)) (f := 11) (o := .ne) (v := eqC n r) (rs := a) (e3 := none) (e4 := none) (j := 0) (a := a) (b := b) (d := d) (r := r) hn S.ra rfl (fun _ _ => rfl) fun x y hx hy => B_cmp (cls_call h3 hn hr hx rfl rfl rfl) (cls_call h3 hn hr hy rfl rfl rfl) (cmp_ne_int ..)
  obtain ⟨g3, g4, l2⟩ := cpl_loop (st := []) (cf := cfAt PP 100 (k + 6)) (f := 11) (o := .eq) (v := fun c => !eqC n r c) (rs := b) (e3 := f3) (e4 := f4) (j := 1) (a := a) (b := b) (d := d) (r := r) hn S.rb rfl (fun _ _ => rfl) fun x y hx hy => by
    rw [Bool.not_not]
    exact B_cmp (cls_call h3 hn hr hx rfl rfl rfl) (cls_call h3 hn hr hy rfl rfl rfl) (cmp_eq_int ..)
  unfold letB
  cases ha : a.all (eqC n r) with
  | false =>
    rw [ha] at l1
    exact C_rt (P := PP) (f := 14) rfl rfl (S_cons c1 (S_cons c2 (S_stop l1)))
  | true =>
    rw [ha] at l1
    rw [Bool.true_and]
    cases hb : (b.all fun c => !eqC n r c) with
    | false =>
      rw [hb] at l2
      exact C_rt (P := PP) (f := 14) rfl rfl (S_cons c1 (S_cons c2 (S_cons l1 (S_stop l2))))
    | true =>
      rw [hb] at l2
      exact C_rt (P := PP) (f := 14) rfl rfl (S_cons c1 (S_cons c2 (S_cons l1 (S_cons l2 (S_stop (S_ret B_lit))))))
/-- a list is none -/
theorem eq_nil {L : List T} (th : thinL L = true) (hd : depL L ≤ 60) : cmpE .eq (.lst L) (.lst []) st = some L.isEmpty := by
  obtain ⟨ds, e, q⟩ := thinL_py th
  have p1 : pyOf st (.lst L) = some (.list ds) := by
    have t1 : Lw.thin (.lst L) = true := th
    simp only [pyOf, thin_res t1, Option.bind_some, toPy, e, Option.map_some]
  have p2 : pyOf st (.lst []) = some (.list []) := rfl
  have s1 : SeqAt.shaped (.list ds) = true := by
    refine Bool.and_eq_true_iff.mpr ⟨q.cl, decide_eq_true ?_⟩
    have := q.dp
    show PyData.depthAll ds + 1 ≤ 64
    omega
  have e1 : eqT st (.lst L) (.lst []) = some (PyData.eqv (.list ds) (.list [])) := by
    simp only [eqT, p1, p2, s1, show SeqAt.shaped (.list []) = true from rfl, Bool.and_self, if_true]
  show eqT st (.lst L) (.lst []) = _
  rw [e1]
  cases L with
  | nil => cases e; rfl
  | cons x xs =>
    cases ds with
    | nil =>
      simp only [toPyL] at e
      split at e <;> cases e
    | cons y ys => rfl
theorem filt_empty {p : T → Bool} : ∀ b : List T, (b.filter p).isEmpty = b.all fun c => !p c
  | [] => rfl
  | x :: b => by
    rw [List.all_cons, List.filter_cons]
    cases h : p x with
    | true => simp
    | false => simp only [Bool.not_false, Bool.true_and, Bool.false_eq_true, if_false]; exact filt_empty b
def eqP (n : List T) (r : List Int) (c : T) : Bool := eqC n r c
theorem lets_ok (hn : n ∈ N0) (S : SN n a b d) (hr : r ∈ rgs n.length) : callAt PP 100 59 29 [say a b d, .tup n, rowT r] [] = .ok (.bl (letB n a b r)) [] := by
  obtain ⟨f3, f4, l1⟩ := cpl_loop (st := []) (cf := cfAt PP 100 58) (f := 28) (o := .ne) (v := eqC n r) (rs := a) (e3 := none) (e4 := none) (j := 0) (a := a) (b := b) (d := d) (r := r) hn S.ra rfl (fun _ _ => rfl) fun x y hx hy => B_cmp (cls_law hn hr hx rfl rfl rfl) (cls_law hn hr hy rfl rfl rfl) (cmp_ne_int ..)
  have lp : loopL (fun env st => evE (cfAt PP 100 58) (.lit (.int 1)) env st) (fun env st => evTs (cfAt PP 100 58) [.cmp .eq (.call 28 true [.var 1, .var 2, .var 3]) (.call 28 true [.var 1, .var 2, .var 4])] env st) (.tup [.name 3, .name 4]) { items := b } .val (wipeT (ENl (some (say a b d)) (some (.tup n)) (some (rowT r)) f3 f4) [3, 4]) b [] = .ok ((b.filter (eqC n r)).map fun _ => T.int 1) [] := by
    refine loopL_pure rfl (fun _ => T.int 1) (eqC n r) _ fun u hu => ?_
    obtain ⟨x, y, rfl, hx, hy⟩ := cp_row hn (S.rb u hu)
    exact ⟨ENl (some (say a b d)) (some (.tup n)) (some (rowT r)) (some x) (some y), rfl, B_t1 (B_cmp (cls_law hn hr hx rfl rfl rfl) (cls_law hn hr hy rfl rfl rfl) (cmp_eq_int ..)), fun _ => B_lit⟩
  have th : thinL ((b.filter (eqC n r)).map fun _ => T.int 1) = true := thinL_iff.mpr fun t ht => by
    obtain ⟨_, _, rfl⟩ := List.mem_map.mp ht
    rfl
  have dl : depL ((b.filter (eqC n r)).map fun _ => T.int 1) ≤ 60 := Nat.le_trans (depL_le (n := 1) fun t ht => by
    obtain ⟨_, _, rfl⟩ := List.mem_map.mp ht
    exact Nat.le_refl _) (by omega)
  have en : ((b.filter (eqC n r)).map fun _ => T.int 1).isEmpty = b.all fun c => !eqC n r c := by
    rw [List.isEmpty_map]
    exact filt_empty b
  have er := eq_nil (st := []) th dl
  rw [en] at er
  unfold letB
  cases ha : a.all (eqC n r) with
  | false =>
    rw [ha] at l1
    exact C_rt (P := PP) (f := 29) rfl rfl (S_stop l1)
  | true =>
    rw [ha] at l1
    rw [Bool.true_and]
    exact C_rt (P := PP) (f := 29) rfl rfl (S_cons l1 (S_stop (S_ret (B_cmp (B_comp (B_one (B_idx (B_var rfl) B_lit rfl)) rfl (by show b.length ≤ big; have := S.lb; unfold big; omega) lp rfl) (B_lstT B_nil) er))))
/-! ### the rows that are let -/
def letP (n a b : List T) (t : T) : Bool := match t with
  | .tup ts => match intsOf ts with
    | some r => letB n a b r
    | none => false
  | _ => false
theorem letP_row (n a b : List T) (r : List Int) : letP n a b (rowT r) = letB n a b r := by
  show (match intsOf (r.map T.int) with | some r => letB n a b r | none => false) = _
  rw [intsOf_map]
theorem every_row {t : T} (h : t ∈ every n) : ∃ r ∈ rgs n.length, t = rowT r := by
  obtain ⟨r, hr, rfl⟩ := List.mem_map.mp h
  exact ⟨r, hr, rfl⟩
theorem every_all : ∀ n ∈ N0, (every n).length ≤ 52 ∧ thin (.tup (every n)) = true ∧ thin (.lst (every n)) = true := by decide +kernel
theorem classes_let (hn : n ∈ N0) (S : SN n a b d) : callAt PP 100 59 15 [say a b d, .tup n] [] = .ok (.tup ((every n).filter (letP n a b))) [] := by
  have tn := (all_thin n hn).1
  have ea := every_all n hn
  have lp : loopL (fun env st => evE (cfAt PP 100 58) (.var 3) env st) (fun env st => evTs (cfAt PP 100 58) [.call 14 true [.var 0, .var 1, .var 3]] env st) (.name 3) { items := every n } .val (wipeT [some (say a b d), some (.tup n), some (.tup (every n)), none] [3]) (every n) [] = .ok (((every n).filter (letP n a b)).map id) [] := by
    refine loopL_pure rfl id (letP n a b) _ fun t ht => ?_
    obtain ⟨r, hr, rfl⟩ := every_row ht
    refine ⟨[some (say a b d), some (.tup n), some (.tup (every n)), some (rowT r)], rfl, ?_, fun _ => B_var rfl⟩
    rw [letP_row]
    exact B_t1 (B_call (B_cons (B_var rfl) (B_two (B_var rfl) (B_var rfl))) (C_iso (thinL_res (thin_cons (S.thin hn) (thin_cons tn (thin_cons ((all_thin n hn).2 r hr) rfl)))) (is_let_ok (k := 51) (by decide) hn S hr) rfl))
  rw [List.map_id] at lp
  exact C_rt (P := PP) (f := 15) rfl rfl (S_cons (S_set (B_call (B_one (B_var rfl)) (isO (fa2 58 (by decide) n hn) (thin_cons tn rfl))) rfl) (S_cons (S_expr (B_call (B_two (B_var rfl) (B_var rfl)) (C_iso (resL_two (S.thin hn) tn) (check_saying (k := 52) hn S) rfl)))
    (S_stop (S_ret (B_bi1 (B_comp (B_one (B_var rfl)) rfl (by show (every n).length ≤ big; have := ea.1; unfold big; omega) lp rfl) rfl)))))
end
end Lw
set_option Elab.async false
set_option linter.all false
set_option maxRecDepth 100000
/-! H21: rows that are looked for; a list mixed; one row's turn; one thing's turn. -/
namespace Lw
open PySem PySem.Spec PyProof.Rows
section
variable {st : Store} {k : Nat} {c : Cf} {env : Env} {n a b d : List T} {r : List Int}
/-! ### a row among rows -/
theorem eqv_ints : ∀ xs ys : List Int, PyData.eqvAll (xs.map .int) (ys.map .int) = decide (xs = ys)
  | [], [] => rfl
  | [], _ :: _ => rfl
  | _ :: _, [] => rfl
  | x :: xs, y :: ys => by
    show ((x == y) && PyData.eqvAll (xs.map .int) (ys.map .int)) = _
    rw [eqv_ints xs ys]
    by_cases
          h1 : x = y <;> by_cases h2 : xs = ys <;> simp [h1, h2]
def rowD (r : List Int) : PyData := .tuple (r.map .int)
theorem toPyL_int : ∀ r : List Int, toPyL (r.map T.int) = some (r.map PyData.int)
  | [] => rfl
  | x :: r => by simp only [List.map_cons, toPyL, toPy, toPyL_int r]
theorem rowT_py (r : List Int) : toPy (rowT r) = some (rowD r) := by
  show (toPyL (r.map T.int)).map PyData.tuple = _
  rw [toPyL_int]
  rfl
theorem rows_py : ∀ rs : List (List Int), toPyL (rs.map rowT) = some (rs.map rowD)
  | [] => rfl
  | r :: rs => by simp only [List.map_cons, toPyL, rowT_py, rows_py rs]
theorem in_rows {rs : List (List Int)} (tr : thin (rowT r) = true) (ts : thinL (rs.map rowT) = true) (d1 : dep (rowT r) ≤ 50) (d2 : depL (rs.map rowT) ≤ 50) : cmpE .isin (rowT r) (.lst (rs.map rowT)) st = some (decide (r ∈ rs)) := by
  obtain ⟨ds, e, q⟩ := thinL_py ts
  rw [rows_py] at e
  cases e
  obtain ⟨dd, e', q'⟩ := py_thin (st := st) tr
  have e2 : pyOf st (rowT r) = some (rowD r) := by simp only [pyOf, thin_res tr, Option.bind_some, rowT_py]
  rw [e2] at e'
  cases e'
  have p1 : pyL st (rs.map rowT) = some (rs.map rowD) := by simp only [pyL, thinL_res ts, Option.bind_some, rows_py]
  have s1 : SeqAt.shaped (.list (rs.map rowD)) = true := by
    refine Bool.and_eq_true_iff.mpr ⟨q.cl, decide_eq_true ?_⟩
    have := q.dp
    show PyData.depthAll (rs.map rowD) + 1 ≤ 64
    omega
  have s2 : SeqAt.shaped (rowD r) = true := Bool.and_eq_true_iff.mpr ⟨q'.cl, decide_eq_true (Nat.le_trans q'.dp (by omega))⟩
  show inSeq st (rowT r) (rs.map rowT) = _
  simp only [inSeq, p1, e2, s1, s2, Bool.and_self, if_true]
  congr 1
  clear p1 s1 q d2 ts
  induction rs with
  | nil => rfl
  | cons x rs ih =>
    rw [List.map_cons, List.any_cons, ih]
    have e : PyData.eqv (rowD x) (rowD r) = decide (x = r) := eqv_ints x r
    rw [e]
    by_cases h : x = r
    · subst h; simp
    · have h' : ¬ r = x := fun z => h z.symm
      simp [h, h']
/-! ### a list, mixed -/
theorem put_mem {α : Type} {l : List α} {p : Nat} {x y : α} (h : y ∈ l.take p ++ x :: l.drop p) : y = x ∨ y ∈ l := by
  rcases List.mem_append.mp
        h with h | h
  · exact .inr (List.mem_of_mem_take h)
  · rcases List.mem_cons.mp h with h | h
    · exact .inl h
    · exact .inr (List.mem_of_mem_drop h)
def EN4 (a b d e : Option T) : Env := [a, b, d, e]
theorem mix_loop {l m : Nat} {L : List T} {w : Walk} (hw : w.at_ = none) : ∀ (xs : List T) (st : Store) (M ts : List T) (e3 : Option T), st.length = m → st[l]? = some (.lst ts) → Bag ts → M.length + xs.length ≤ 1000 →
    ∃ M' ts' e3', forL (fun env st => evSs (cfAt PP 100 (k + 1)) [.expr (.mt .insert (.var 2) [.call 17 false [.var 0, .bin .add (.bi .len [.var 2]) (.lit (.int 1))], .var 3])] env st) (.name 3) w .val xs (EN4 (some (.loc l)) (some (.lst L)) (some (.loc m)) e3) (st ++ [.lst M])
      = .ok .nx (EN4 (some (.loc l)) (some (.lst L)) (some (.loc m)) e3') (st.set l (.lst ts') ++ [.lst M']) ∧ Bag ts' ∧ ∀ y ∈ M', y ∈ M ∨ y ∈ xs
  | [], st, M, ts, e3, hm, hl, hB, _ => ⟨M, ts, e3, by rw [set_same hl]; simp [forL, same_none hw], hB, fun y hy => .inl hy⟩
  | x :: xs, st, M, ts, e3, hm, hl, hB, hle => by
    simp only [List.length_cons] at hle
    have hlt := (List.getElem?_eq_some_iff.mp hl).1
    obtain ⟨v, t1, q1, b1, v0, v1⟩ := take_ok (P := PP) (lim := 100) (k := k) (f := 17) (m := (M.length : Nat) + 1) (st := st ++ [.lst M]) p_take (l := l) (ts := ts) (by rw [List.getElem?_append_left hlt]; exact hl) hB (by omega) (by omega)
    rw [List.set_append_left _ _ hlt] at q1
    obtain ⟨M', t2, f3, q2, b2, hM⟩ := mix_loop (l := l) (m := m) (L := L) hw xs (st.set l (.lst t1)) (M.take v.toNat ++ x :: M.drop v.toNat) t1 (some x) (by simp [hm]) (set_get hl) b1 (by simp; omega)
    rw [set_set] at q2
    refine ⟨M', t2, f3, ?_, b2, fun y hy => ?_⟩
    · have hg : setG (.name 3) x (EN4 (some (.loc l)) (some (.lst L)) (some (.loc m)) e3) = some (EN4 (some (.loc l)) (some (.lst L)) (some (.loc m)) (some x)) := rfl
      have g1 := last_get (st := st) (c := .lst M)
      rw [hm] at g1
      have g2 := last_get (st := st.set l (Cell.lst t1)) (c := .lst M)
      rw [show (st.set l (Cell.lst t1)).length = m by simp [hm]] at g2
      have g3 := last_set (st := st.set l (Cell.lst t1)) (c := .lst M) (d := .lst (M.take v.toNat ++ x :: M.drop v.toNat))
      rw [show (st.set l (Cell.lst t1)).length = m by simp [hm]] at g3
      have k1 : kindOf (st ++ [Cell.lst M]) (.loc m) = 1 := by simp only [kindOf, g1]
      have k2 : kindOf (st.set l (Cell.lst t1) ++ [Cell.lst M]) (.loc m) = 1 := by simp only [kindOf, g2]
      have ln : biE .len [.loc m] (st ++ [Cell.lst M]) = .ok (.int (M.length : Nat)) (st ++ [Cell.lst M]) := by
        simp only [biE, lenE, g1]
        rfl
      have s1 : evS (cfAt PP 100 (k + 1)) (.expr (.mt .insert (.var 2) [.call 17 false [.var 0, .bin .add (.bi .len [.var 2]) (.lit (.int 1))], .var 3])) (EN4 (some (.loc l)) (some (.lst L)) (some (.loc m)) (some x)) (st ++ [.lst M])
          = .ok .nx (EN4 (some (.loc l)) (some (.lst L)) (some (.loc m)) (some x)) (st.set l (.lst t1) ++ [.lst (M.take v.toNat ++ x :: M.drop v.toNat)]) := by
        refine S_expr (t := .non) (B_mt (B_var rfl) (by rw [k1]; rfl) (B_two (B_call (B_two (B_var rfl) (B_bin (B_bi1 (B_var rfl) ln) B_lit (add_int ..))) (C_own q1)) (B_var rfl)) (by rw [k1, k2]) ?_)
        simp only [mtE, g2, g3]
        rw [if_pos (by unfold big; omega)]
      simp only [forL, same_none hw, if_true, hg, S_cons s1 S_nil]
      exact q2
    · rcases hM y hy with h | h
      · rcases put_mem h with rfl | h
        · exact .inr List.mem_cons_self
        · exact .inl h
      · exact .inr (List.mem_cons_of_mem _ h)
theorem mixed_ok {l : Nat} {ts L : List T} (hl : st[l]? = some (.lst ts)) (hB : Bag ts) (hL : L.length ≤ 1000) :
    ∃ M ts', callAt PP 100 (k + 2) 25 [.loc l, .lst L] st = .ok (.loc st.length) (st.set l (.lst ts') ++ [.lst M]) ∧ Bag ts' ∧ ∀ y ∈ M, y ∈ L := by
  obtain ⟨M, ts', e3, q, b, hM⟩ := mix_loop (k := k) (l := l) (m := st.length) (L := L) (w := { items := L }) rfl L st [] ts none rfl hl hB (by simp; omega)
  exact ⟨M, ts', C_rt (P := PP) (f := 25) rfl rfl (S_cons (S_set (B_lstF B_nil) rfl) (S_cons (S_for (B_one (B_var rfl)) (w := { items := L }) rfl q) (S_stop (S_ret (B_var rfl))))), b, fun y hy => (hM y hy).elim (fun z => nomatch z) id⟩
/-! ### tables of the law, row by row -/
theorem row_facts : ∀ n ∈ N0, ∀ r ∈ rgs n.length, (thin (lots n r) = true ∧ dep (lots n r) ≤ 10 ∧ size (lots n r) ≤ 20) ∧ ((.non :: n).map fun t => T.int (cv n r t)) = .int 0 :: r.map .int ∧ dep (rowT r) ≤ 2 ∧ size (rowT r) ≤ 5 ∧ r.length = n.length ∧ topN r ≤ 4 := by decide +kernel
theorem every_facts : ∀ n ∈ N0, thinL (every n) = true ∧ depL (every n) ≤ 10 ∧ sizeL (every n) ≤ 1000 ∧ thinL n = true ∧ depL n ≤ 10 := by decide +kernel
theorem max_top (r : List Int) : biE .max1 [.lst (.int 0 :: r.map .int)] st = .ok (.int (topN r)) st := by
  have e : (seqI st (.lst (.int 0 :: r.map .int))).bind intsOf = some (0 :: r) := by
    show intsOf ((0 :: r).map T.int) = _
    rw [intsOf_map]
  have e2 : biE .max1 [.lst (.int 0 :: r.map .int)] st = .of (((seqI st (.lst (.int 0 :: r.map .int))).bind intsOf).bind fun ns => (maxL ns).map .int) st := rfl
  rw [e2, e]
  show Res.ok (T.int (r.foldl (fun a b => if a < b then b else a) 0)) st = _
  have f : ∀ (l : List Int) (x : Int), 0 ≤ x → l.foldl (fun a b => if a < b then b else a) x = l.foldl max x ∧ 0 ≤ l.foldl max x := fun l => by
    induction l with
    | nil => intro x hx; exact ⟨rfl, hx⟩
    | cons y l ih =>
      intro x hx
      have e : (if x < y then y else x) = max x y := by
        show _ = (if x ≤ y then y else x)
        split <;> split <;> omega
      rw [List.foldl_cons,
            List.foldl_cons, e]
      exact ih _ (by show 0 ≤ (if x ≤ y then y else x); split <;> omega)
  obtain ⟨f1, f2⟩ := f r 0 (Int.le_refl 0)
  rw [f1]
  unfold topN
  rw [Int.toNat_of_nonneg f2]
theorem zip_map : ∀ (n : List T) (r : List Int), zipT n (r.map .int) = (n.zip r).map fun p => .tup [p.1, .int p.2]
  | [], _ => by simp [zipT]
  | _ :: _, [] => by simp [zipT]
  | x :: n, y :: r => by simp [zipT, zip_map n r]
end
end Lw
set_option Elab.async false
set_option linter.all false
set_option maxRecDepth 100000
/-! L21: the law's lap. -/
namespace Lw
open PySem PySem.Spec PyProof.Rows
def z0 : S := .set 5 (.sli (.tup [.lit (.str "a"), .lit (.str "x"), .lit (.str "y"), .lit (.str "z")]) (some (.call 17 false [.var 1, .lit (.int 2)])) (some (.bin .add (.lit (.int 2)) (.call 17 false [.var 1, .lit (.int 3)]))))
def z1 : S := .set 6 (.call 27 true [.var 5])
def z2 : S := .ite (.not (.call 19 true [.call 8 true [.var 5], .bi .tuple [.var 6]])) [.ret (some (.lit (.bl false)))] []
def z3 : S := .set 7 (.ite (.cmp .ne (.var 5) (.tup [])) (.call 24 false [.var 1, .var 5, .lit (.int 2)]) (.tup [.tup [], .tup [], .tup []]))
def z4 : S := .set 8 (.comp true (.var 9) (.name 9) .val [.var 6] [.call 29 true [.var 7, .var 5, .var 9]] [9])
def z5 : S := .ite (.not (.call 19 true [.call 15 true [.var 7, .var 5], .bi .tuple [.var 8]])) [.ret (some (.lit (.bl false)))] []
def z6 : S := .fr (.name 9) .val [.sli (.call 25 false [.var 1, .var 6]) none (some (.lit (.int 5)))] [.set 12 (.comp true (.bi .tuple [.comp true (.var 19) (.tup [.name 19, .name 20]) .zip2 [.var 5, .var 9] [.cmp .eq (.var 20) (.var 16)] [19, 20]]) (.name 16) .rng1 [.bin .add (.bi .max1 [.bin .add (.lst true [.lit (.int 0)]) (.bi (.list true) [.var 9])]) (.lit (.int 1))] [] [16]), .set 13 (.lst true [.call 12 true [.var 5, .var 9], .call 14 true [.var 7, .var 5, .var 9], .call 9 true [.var 5, .var 9], .comp true (.call 11 true [.var 5, .var 9, .var 17]) (.name 17) .val [.bin .add (.tup [.lit .non]) (.var 5)] [] [17]]), .ite (.not (.call 19 true [.var 13, .lst true [.bi .tuple [.var 12], .cmp .isin (.var 9) (.var 8), .lit (.bl true), .bin .add (.lst true [.lit (.int 0)]) (.bi (.list true) [.var 9])]])) [.ret (some (.lit (.bl false)))] []]
def z7 : S := .set 9 (.call 18 false [.var 1, .var 6])
def z8 : S := .fr (.name 10) .val [.lst true [.lit .non, .bi (.list true) [.var 9], .bin .add (.var 9) (.tup [.lit (.int 0)]), .sli (.var 9) (some (.lit (.int 1))) none, .bin .mul (.tup [.lit (.int 1)]) (.bi .len [.var 5]), .bin .mul (.tup [.lit (.int 2)]) (.bi .len [.var 5]), .bin .mul (.tup [.lit (.bl true)]) (.bi .len [.var 5]), .bin .mul (.tup [.neg (.lit (.int 1))]) (.bi .len [.var 5]), .bi .tupr [.lit (.int 1), .bin .add (.bi .len [.var 5]) (.lit (.int 1))], .bin .mul (.tup [.lit (.int 0)]) (.bi .len [.var 5])]] [.set 14 (.and (.bi (.isi .tuple) [.var 10]) (.and (.cmp .eq (.comp true (.var 18) (.name 18) .val [.var 10] [.not (.call 26 true [.var 18])] [18]) (.lst true [])) (.cmp .isin (.var 10) (.var 6)))), .ite (.not (.call 19 true [.call 9 true [.var 5, .var 10], .var 14])) [.ret (some (.lit (.bl false)))] [], .ite (.and (.not (.var 14)) (.cmp .ne (.hear (.many "told" [([1], [0, 2], "nothing", false), ([2], [0, 1], "too large", true)]) (.call 12 true [.var 5, .var 10])) (.tup [.lit (.str "nothing")]))) [.ret (some (.lit (.bl false)))] []]
def z9 : S := .set 11 (.call 18 false [.var 1, .lst true [.lit .non, .lst true [.lit (.str "x")], .tup [.lit (.str "y"), .lit (.str "x")], .tup [.lit (.str "x"), .lit (.str "x")], .tup [.lit (.str "A")], .tup [.lit (.int 1)]]])
def z10 : S := .set 4 (.lst false [.hear (.many "told" [([1], [0, 2], "nothing", false), ([2], [0, 1], "too large", true)]) (.call 8 true [.var 11])])
def z11 : S := .expr (.mt .append (.var 4) [.hear (.many "told" [([1], [0, 2], "nothing", false), ([2], [0, 1], "too large", true)]) (.call 9 true [.var 11, .tup []])])
def z12 : S := .expr (.mt .append (.var 4) [.hear (.many "told" [([1], [0, 2], "nothing", false), ([2], [0, 1], "too large", true)]) (.call 15 true [.var 7, .var 11])])
def z13 : S := .expr (.mt .append (.var 4) [.hear (.many "told" [([1], [0, 2], "nothing", false), ([2], [0, 1], "too large", true)]) (.call 11 true [.var 5, .var 9, .call 18 false [.var 1, .lst true [.lit (.str "q"), .lit (.int 1), .lit (.str "A")]]])])
def z14 : S := .expr (.mt .append (.var 4) [.hear (.many "told" [([1], [0, 2], "nothing", false), ([2], [0, 1], "too large", true)]) (.call 15 true [.tup [.tup [], .tup [], .tup [.tup [.lit (.str "cell"), .lit (.str "q"), .lit .non]]], .var 5])])
def z15 : S := .expr (.mt .append (.var 4) [.hear (.many "told" [([1], [0, 2], "nothing", false), ([2], [0, 1], "too large", true)]) (.call 14 true [.var 7, .var 5, .bin .add (.var 9) (.tup [.lit (.int 0)])])])
def z16 : S := .ite (.cmp .ne (.var 4) (.bin .mul (.lst true [.tup [.lit (.str "nothing")]]) (.lit (.int 6)))) [.ret (some (.lit (.bl false)))] []
def lapB : List S := [z0, z1, z2, z3, z4, z5, z6, z7, z8, z9, z10, z11, z12, z13, z14, z15, z16]
def y0 : S := .set 1 (.call 16 false [.var 0])
def y2 : S := .set 3 (.bi .tuple [.comp true (.bin .add (.lit (.str "n")) (.bi .str [.var 15])) (.name 15) .rng1 [.lit (.int 9)] [] [15]])
def y3 : S := .set 4 (.lst false [.hear (.many "told" [([1], [0, 2], "nothing", false), ([2], [0, 1], "too large", true)]) (.call 9 true [.var 3, .tup []])])
def y4 : S := .expr (.mt .append (.var 4) [.hear (.many "told" [([1], [0, 2], "nothing", false), ([2], [0, 1], "too large", true)]) (.call 8 true [.var 3])])
def y5 : S := .ret (some (.cmp .eq (.var 4) (.bin .mul (.lst true [.tup [.lit (.str "too large"), .lit (.str "names"), .lit (.int 8)]]) (.lit (.int 2)))))
def restB : List S := [y2, y3, y4, y5]
theorem law_body : PP[30]? = some ⟨1, 21, y0 :: .fr (.name 2) .rng1 [.lit (.int 5)] lapB :: restB⟩ := rfl
abbrev EN (e0 e2 e3 e4 e5 e6 e7 e8 e9 e10 e11 e12 e13 e14 e15 e16 e17 e18 e19 e20 : Option T) : Env := [e0, some (.loc 0), e2, e3, e4, e5, e6, e7, e8, e9, e10, e11, e12, e13, e14, e15, e16, e17, e18, e19, e20]
def HK : Hk := .many "told" [([1], [0, 2], "nothing", false), ([2], [0, 1], "too large", true)]
def N1 : T := .tup [.str "nothing"]
section
variable {st : Store} {k : Nat} {c : Cf} {env : Env} {n a b d : List T} {r : List Int} {e0 e2 e3 e4 e5 e6 e7 e8 e9 e10 e11 e12 e13 e14 e15 e16 e17 e18 e19 e20 : Option T}
theorem filt_test {e te : E} {i : Nat} {L : List T} {p : T → Bool} (he : evE c e env st = .ok (.tup L) st) (hl : L.length ≤ big) (hi : i < env.length) (ht : ∀ x ∈ L, evE c te ((wipeT env [i]).set i (some x)) st = .ok (.bl (p x)) st) : evE c (.comp true (.var i) (.name i) .val [e] [te] [i]) env st = .ok (.lst (L.filter p)) st := by
  have hw : i < (wipeT env [i]).length := by simpa [wipeT] using hi
  have lp : loopL (fun env st => evE c (.var i) env st) (fun env st => evTs c [te] env st) (.name i) { items := L } .val (wipeT env [i]) L st = .ok ((L.filter p).map id) st := by
    refine loopL_pure rfl id p _ fun x hx => ?_
    exact ⟨(wipeT env [i]).set i (some x), if_pos hw, B_t1 (ht x hx), fun _ => B_var (List.getElem?_set_self hw)⟩
  rw [List.map_id] at lp
  exact B_comp (B_one he) rfl hl lp rfl
theorem alike_not {t : T} {x y : E} {n m : Nat} (h : Tn t n m) (hn : n ≤ 60) (hm : m ≤ 150000) (ha : evE (cfAt PP 100 (k + 1)) x env st = .ok t st) (hb : evE (cfAt PP 100 (k + 1)) y env st = .ok t st) :
    evE (cfAt PP 100 (k + 1)) (.not (.call 19 true [x, y])) env st = .ok (.bl false) st :=
  B_not (k := true) (B_call (B_two ha hb) (C_iso (resL_two h.th h.th) (alike_ok (k := k) (st := []) p_alike h.th (Nat.le_trans h.d hn) (Nat.le_trans h.s hm)) rfl))
/-! ### names, rows, the saying, what is let -/
theorem cut_n0 {i j : Int} (i0 : 0 ≤ i) (i1 : i < 2) (j0 : 0 ≤ j) (j1 : j < 3) : ∃ n ∈ N0, cutT [.str "a", .str "x", .str "y", .str "z"] (some i) (some (2 + j)) = n := by
  have hi : i = 0 ∨ i = 1 := by omega
  have hj : j = 0 ∨ j = 1 ∨ j = 2 := by omega
  rcases hi with rfl | rfl <;> rcases hj with rfl | rfl | rfl <;> exact ⟨_, by decide +kernel, rfl⟩
theorem every_tn (hn : n ∈ N0) : Tn (.tup (every n)) 11 1001 := by
  obtain ⟨h1, h2, h3, _⟩ := every_facts n hn
  exact ⟨h1, by simp only [dep]; omega, by simp only [size]; omega⟩
theorem ne_unit (hn : n ∈ N0) : cmpE .ne (.tup n) (.tup []) st = some true := by
  simp only [N0, List.mem_cons, List.not_mem_nil, or_false] at hn
  rcases hn with rfl | rfl | rfl | rfl | rfl | rfl <;> kernel_rfl
theorem let_list (hn : n ∈ N0) (S : SN n a b d) : evE (cfAt PP 100 59) (.comp true (.var 9) (.name 9) .val [.var 6] [.call 29 true [.var 7, .var 5, .var 9]] [9]) (EN e0 e2 e3 e4 (some (.tup n)) (some (.lst (every n))) (some (say a b d)) e8 e9 e10 e11 e12 e13 e14 e15 e16 e17 e18 e19 e20) st
    = .ok (.lst ((every n).filter (letP n a b))) st := by
  have lp : loopL (fun env st => evE (cfAt PP 100 59) (.var 9) env st) (fun env st => evTs (cfAt PP 100 59) [.call 29 true [.var 7, .var 5, .var 9]] env st) (.name 9) { items := every n } .val (wipeT (EN e0 e2 e3 e4 (some (.tup n)) (some (.lst (every n))) (some (say a b d)) e8 e9 e10 e11 e12 e13 e14 e15 e16 e17 e18 e19 e20) [9]) (every n) st = .ok (((every n).filter (letP n a b)).map id) st := by
    refine loopL_pure rfl id (letP n a b) _ fun t ht => ?_
    obtain ⟨r, hr, rfl⟩ := every_row ht
    refine ⟨EN e0 e2 e3 e4 (some (.tup n)) (some (.lst (every n))) (some (say a b d)) e8 (some (rowT r)) e10 e11 e12 e13 e14 e15 e16 e17 e18 e19 e20, rfl, ?_, fun _ => B_var rfl⟩
    rw [letP_row]
    exact B_t1 (B_call (B_cons (B_var rfl) (B_two (B_var rfl) (B_var rfl))) (C_iso (thinL_res (thin_cons (S.thin hn) (thin_cons (all_thin n hn).1 (thin_cons ((all_thin n hn).2 r hr) rfl)))) (lets_ok hn S hr) rfl))
  rw [List.map_id] at lp
  exact B_comp (B_one (B_var rfl)) rfl (by show (every n).length ≤ big; have := (every_all n hn).1; unfold big; omega) lp rfl
theorem filt_tn (hn : n ∈ N0) : Tn (.tup ((every n).filter (letP n a b))) 11 1001 := by
  obtain ⟨h1, h2, h3, _⟩ := every_facts n hn
  have hs : ∀ t ∈ (every n).filter (letP n a b), t ∈ every n := fun t ht => (List.mem_filter.mp ht).1
  have key : ∀ (p : T → Bool) (l : List T), sizeL (l.filter p) ≤ sizeL l ∧ depL (l.filter p) ≤ depL l := fun p l => by
    induction l with
    | nil => exact ⟨Nat.le_refl _, Nat.le_refl _⟩
    | cons x l ih =>
      rw [List.filter_cons]
      split
      · simp only [sizeL, depL]; omega
      · simp only [sizeL, depL]; omega
  have := key (letP n a b) (every n)
  exact ⟨thinL_iff.mpr fun t ht => thinL_iff.mp h1 t (hs t ht), by simp only [dep]; omega, by simp only [size]; omega⟩
/-! ### one row -/
theorem walk_r1 {m : Nat} (h : m ≤ 1000) : walkOf st .rng1 [.int ((m : Int) + 1)] = some { items := (List.range (m + 1)).map fun (i : Nat) => .int (0 + (i : Nat)) } := by
  have e : walkOf st .rng1 [.int ((m : Int) + 1)] = if -(2 ^ 62) ≤ ((m : Int) + 1) ∧ ((m : Int) + 1) < 2 ^ 62 then some { items := (List.range ((m : Int) + 1).toNat).map fun (i : Nat) => .int (0 + (i : Nat)) } else none := by simp only [walkOf]
  have t : ((m : Int) + 1).toNat = m + 1 := by omega
  have c : -(2 ^ 62) ≤ ((m : Int) + 1) ∧ ((m : Int) + 1) < 2 ^ 62 := ⟨by omega, by omega⟩
  rw [e, if_pos c, t]
def fstT : T → T
  | .tup [x, _] => x
  | t => t
def isN (i : Int) : T → Bool
  | .tup [_, .int j] => decide (j = i)
  | _ => false
theorem lots_ok (hn : n ∈ N0) (hr : r ∈ rgs n.length) : ∃ L, lots n r = .tup L ∧ evE c (.comp true (.bi .tuple [.comp true (.var 19) (.tup [.name 19, .name 20]) .zip2 [.var 5, .var 9] [.cmp .eq (.var 20) (.var 16)] [19, 20]]) (.name 16) .rng1 [.bin .add (.bi .max1 [.bin .add (.lst true [.lit (.int 0)]) (.bi (.list true) [.var 9])]) (.lit (.int 1))] [] [16]) (EN e0 e2 e3 e4 (some (.tup n)) e6 e7 e8 (some (rowT r)) e10 e11 e12 e13 e14 e15 e16 e17 e18 e19 e20) st
    = .ok (.lst L) st := by
  obtain ⟨_, _, _, _, len, tp⟩ := row_facts n hn r hr
  have ln := (cp_all n hn).2.2.2.2.1
  have rl : r.length ≤ 4 := by omega
  refine ⟨_, rfl, ?_⟩
  have mx : evE c (.bin .add (.bi .max1 [.bin .add (.lst true [.lit (.int 0)]) (.bi (.list true) [.var 9])]) (.lit (.int 1))) (EN e0 e2 e3 e4 (some (.tup n)) e6 e7 e8 (some (rowT r)) e10 e11 e12 e13 e14 e15 e16 e17 e18 e19 e20) st = .ok (.int (topN r + 1)) st :=
    B_bin (B_bi1 (B_bin (B_lstT (B_one B_lit)) (B_bi1 (B_var rfl) (show biE (.list true) [rowT r] st = .ok (.lst (r.map .int)) st from rfl)) (add_lst (a := [.int 0]) (b := r.map .int) (by simp only [List.length_singleton, List.length_map]; unfold big; omega))) (max_top r)) B_lit (add_int ..)
  have hw := walk_r1 (st := st) (m := topN r) (by omega)
  have lp : loopL (fun env st => evE c (.bi .tuple [.comp true (.var 19) (.tup [.name 19, .name 20]) .zip2 [.var 5, .var 9] [.cmp .eq (.var 20) (.var 16)] [19, 20]]) env st) (fun env st => evTs c [] env st) (.name 16) { items := (List.range (topN r + 1)).map fun (i : Nat) => .int (0 + (i : Nat)) } .rng1 (wipeT (EN e0 e2 e3 e4 (some (.tup n)) e6 e7 e8 (some (rowT r)) e10 e11 e12 e13 e14 e15 e16 e17 e18 e19 e20) [16]) ((List.range (topN r + 1)).map fun (i : Nat) => .int (0 + (i : Nat))) st
      = .ok ((((List.range (topN r + 1)).map fun (i : Nat) => T.int (0 + (i : Nat))).filter fun _ => true).map fun t => match t with | .int i => .tup (((zipT n (r.map .int)).filter (isN i)).map fstT) | t => t) st := by
    refine loopL_pure rfl _ (fun _ => true) _ fun t ht => ?_
    obtain ⟨i, _, rfl⟩ := List.mem_map.mp ht
    refine ⟨EN e0 e2 e3 e4 (some (.tup n)) e6 e7 e8 (some (rowT r)) e10 e11 e12 e13 e14 e15 (some (.int (0 + (i : Nat)))) e17 e18 e19 e20, rfl, B_t0, fun _ => ?_⟩
    have lp2 : loopL (fun env st => evE c (.var 19) env st) (fun env st => evTs c [.cmp .eq (.var 20) (.var 16)] env st) (.tup [.name 19, .name 20]) { items := zipT n (r.map .int) } .zip2 (wipeT (EN e0 e2 e3 e4 (some (.tup n)) e6 e7 e8 (some (rowT r)) e10 e11 e12 e13 e14 e15 (some (.int (0 + (i : Nat)))) e17 e18 e19 e20) [19, 20]) (zipT n (r.map .int)) st = .ok (((zipT n (r.map .int)).filter (isN (0 + (i : Nat)))).map fstT) st := by
      refine loopL_pure rfl fstT (isN (0 + (i : Nat))) _ fun u hu => ?_
      rw [zip_map] at hu
      obtain ⟨⟨x, j⟩, _, rfl⟩ := List.mem_map.mp hu
      exact ⟨EN e0 e2 e3 e4 (some (.tup n)) e6 e7 e8 (some (rowT r)) e10 e11 e12 e13 e14 e15 (some (.int (0 + (i : Nat)))) e17 e18 (some x) (some (.int j)), rfl, B_t1 (B_cmp (B_var rfl) (B_var rfl) (cmp_eq_int ..)), fun _ => B_var rfl⟩
    have zl : (zipT n (r.map .int)).length ≤ big := by
      rw [zip_map, List.length_map, List.length_zip]
      unfold big
      omega
    exact B_bi1 (B_comp (B_two (B_var rfl) (B_var rfl)) rfl zl lp2 rfl) rfl
  have eq : ((((List.range (topN r + 1)).map fun (i : Nat) => T.int (0 + (i : Nat))).filter fun _ => true).map fun t => match t with | .int i => T.tup (((zipT n (r.map .int)).filter (isN i)).map fstT) | t => t) = (List.range (topN r + 1)).map fun (i : Nat) => .tup (((n.zip r).filter fun p => decide (p.2 = (i : Int))).map (·.1)) := by
    rw [List.filter_eq_self.mpr fun _ _ => rfl, List.map_map]
    refine List.map_congr_left
          fun i _ => ?_
    show T.tup (((zipT n (r.map .int)).filter (isN (0 + (i : Nat)))).map fstT) = _
    rw [zip_map, List.filter_map, List.map_map]
    have ef : (isN (0 + (i : Nat)) ∘ fun p : T × Int => T.tup [p.1, .int p.2]) = fun p : T × Int => decide (p.2 = (i : Int)) := funext fun p => by
      show decide (p.2 = 0 + (i : Int)) = decide (p.2 = (i : Int))
      rw [Int.zero_add]
    rw [ef]
    rfl
  rw [eq] at lp
  exact B_comp (B_one mx) hw (by show ((List.range (topN r + 1)).map _).length ≤ big; rw [List.length_map, List.length_range]; unfold big; omega) lp rfl
def rowB : List S := [.set 12 (.comp true (.bi .tuple [.comp true (.var 19) (.tup [.name 19, .name 20]) .zip2 [.var 5, .var 9] [.cmp .eq (.var 20) (.var 16)] [19, 20]]) (.name 16) .rng1 [.bin .add (.bi .max1 [.bin .add (.lst true [.lit (.int 0)]) (.bi (.list true) [.var 9])]) (.lit (.int 1))] [] [16]),
  .set 13 (.lst true [.call 12 true [.var 5, .var 9], .call 14 true [.var 7, .var 5, .var 9], .call 9 true [.var 5, .var 9], .comp true (.call 11 true [.var 5, .var 9, .var 17]) (.name 17) .val [.bin .add (.tup [.lit .non]) (.var 5)] [] [17]]),
  .ite (.not (.call 19 true [.var 13, .lst true [.bi .tuple [.var 12], .cmp .isin (.var 9) (.var 8), .lit (.bl true), .bin .add (.lst true [.lit (.int 0)]) (.bi (.list true) [.var 9])]])) [.ret (some (.lit (.bl false)))] []]
theorem z6_is : z6 = .fr (.name 9) .val [.sli (.call 25 false [.var 1, .var 6]) none (some (.lit (.int 5)))] rowB := rfl
theorem ft_tn (hn : n ∈ N0) (hr : r ∈ rgs n.length) (x : Bool) : Tn (.lst [lots n r, .bl x, .bl true, .lst (.int 0 :: r.map .int)]) 11 101 := by
  obtain ⟨⟨h1, h2, h3⟩, _, h4, h5, _⟩ := row_facts n hn r hr
  have tr := (all_thin n hn).2 r hr
  have tr : thinL (r.map .int) = true := tr
  simp only [rowT, dep, size] at h4 h5
  refine (Tn.lst (n := 10) (m := 25) fun t ht => ?_).mono (by omega) (by simp)
  have ht : t = lots n r ∨ t = .bl x ∨ t = .bl true ∨ t = .lst (.int 0 :: r.map .int) := by simpa using ht
  rcases ht with rfl | rfl | rfl | rfl
  · exact ⟨h1, h2, by omega⟩
  · exact ⟨rfl, (by show 1 ≤ 10; omega), (by show 1 ≤ 25; omega)⟩
  · exact ⟨rfl, (by show 1 ≤ 10; omega), (by show 1 ≤ 25; omega)⟩
  · refine ⟨?_, ?_, ?_⟩
    · show (true && thinL (r.map .int)) = true
      rw [tr]; rfl
    · simp only [dep, depL]; omega
    · simp only [size, sizeL]; omega
theorem every_filter : (every n).filter (letP n a b) = ((rgs n.length).filter (letB n a b)).map rowT := by
  unfold every
  rw [List.filter_map]
  congr 1
  refine congrArg (fun p => List.filter p (rgs n.length)) (funext fun r => ?_)
  exact letP_row n a b r
theorem row_in (hn : n ∈ N0) (hr : r ∈ rgs n.length) : cmpE .isin (rowT r) (.lst ((every n).filter (letP n a b))) st = some (letB n a b r) := by
  have f := filt_tn (a := a) (b := b) hn
  have th : thinL ((every n).filter (letP n a b)) = true := f.th
  have dp : depL ((every n).filter (letP n a b)) ≤ 50 := by have := f.d; simp only [dep] at this; omega
  rw [every_filter] at th dp ⊢
  rw [in_rows ((all_thin n hn).2 r hr) th (by have := (row_facts n hn r hr).2.2.1; omega) dp]
  congr 1
  cases h : letB n a b r with
  | true => exact decide_eq_true (List.mem_filter.mpr ⟨hr, h⟩)
  | false => exact decide_eq_false fun z => by rw [(List.mem_filter.mp z).2] at h; cases h
theorem row_turn (hn : n ∈ N0) (S : SN n a b d) (hr : r ∈ rgs n.length) : ∃ f12 f13, evSs (cfAt PP 100 59) rowB (EN e0 e2 e3 e4 (some (.tup n)) e6 (some (say a b d)) (some (.lst ((every n).filter (letP n a b)))) (some (rowT r)) e10 e11 e12 e13 e14 e15 e16 e17 e18 e19 e20) st
    = .ok .nx (EN e0 e2 e3 e4 (some (.tup n)) e6 (some (say a b d)) (some (.lst ((every n).filter (letP n a b)))) (some (rowT r)) e10 e11 f12 f13 e14 e15 e16 e17 e18 e19 e20) st := by
  obtain ⟨L, eL, q1⟩ := lots_ok (c := cfAt PP 100 59) (st := st) (e0 := e0) (e2 := e2) (e3 := e3) (e4 := e4) (e6 := e6) (e7 := some (say a b d)) (e8 := some (.lst ((every n).filter (letP n a b)))) (e10 := e10) (e11 := e11) (e12 := e12) (e13 := e13) (e14 := e14) (e15 := e15) (e16 := e16) (e17 := e17) (e18 := e18) (e19 := e19) (e20 := e20) hn hr
  have tn := (all_thin n hn).1
  have tr := (all_thin n hn).2 r hr
  obtain ⟨_, cvs, _, _, len, _⟩ := row_facts n hn r hr
  have ln := (cp_all n hn).2.2.2.2.1
  have rl : r.length ≤ 4 := by omega
  have cl : evE (cfAt PP 100 59) (.comp true (.call 11 true [.var 5, .var 9, .var 17]) (.name 17) .val [.bin .add (.tup [.lit .non]) (.var 5)] [] [17]) (EN e0 e2 e3 e4 (some (.tup n)) e6 (some (say a b d)) (some (.lst ((every n).filter (letP n a b)))) (some (rowT r)) e10 e11 (some (.lst L)) e13 e14 e15 e16 e17 e18 e19 e20) st = .ok (.lst (.int 0 :: r.map .int)) st := by
    have lp : loopL (fun env st => evE (cfAt PP 100 59) (.call 11 true [.var 5, .var 9, .var 17]) env st) (fun env st => evTs (cfAt PP 100 59) [] env st) (.name 17) { items := .non :: n } .val (wipeT (EN e0 e2 e3 e4 (some (.tup n)) e6 (some (say a b d)) (some (.lst ((every n).filter (letP n a b)))) (some (rowT r)) e10 e11 (some (.lst L)) e13 e14 e15 e16 e17 e18 e19 e20) [17]) (.non :: n) st = .ok (((.non :: n).filter fun _ => true).map fun t => T.int (cv n r t)) st := by
      refine loopL_pure rfl (fun t => T.int (cv n r t)) (fun _ => true) _ fun t ht => ?_
      refine ⟨EN e0 e2 e3 e4 (some (.tup n)) e6 (some (say a b d)) (some (.lst ((every n).filter (letP n a b)))) (some (rowT r)) e10 e11 (some (.lst L)) e13 e14 e15 e16 (some t) e18 e19 e20, rfl, B_t0, fun _ => ?_⟩
      have tt : thin t = true := by
        rcases List.mem_cons.mp ht with rfl | h
        · rfl
        · exact (tm_all ((cp_all n hn).2.2.1 t h)).thin
      exact B_call (B_cons (B_var rfl) (B_two (B_var rfl) (B_var rfl))) (isO (fa6 59 (by decide) n hn r hr t ht) (thin_cons tn (thin_cons tr (thin_cons tt rfl))))
    rw [List.filter_eq_self.mpr fun _ _ => rfl, cvs] at lp
    exact B_comp (B_one (B_bin (B_tup (B_one B_lit)) (B_var rfl) (add_tup (a := [.non]) (b := n) (by simp only [List.length_singleton]; unfold big; omega)))) rfl (by show (T.non :: n).length ≤ big; simp only [List.length_cons]; unfold big; omega) lp rfl
  have rt : thinL [.tup n, rowT r] = true := thin_cons tn (thin_cons tr rfl)
  have q2 : evE (cfAt PP 100 59) (.lst true [.call 12 true [.var 5, .var 9], .call 14 true [.var 7, .var 5, .var 9], .call 9 true [.var 5, .var 9], .comp true (.call 11 true [.var 5, .var 9, .var 17]) (.name 17) .val [.bin .add (.tup [.lit .non]) (.var 5)] [] [17]]) (EN e0 e2 e3 e4 (some (.tup n)) e6 (some (say a b d)) (some (.lst ((every n).filter (letP n a b)))) (some (rowT r)) e10 e11 (some (.lst L)) e13 e14 e15 e16 e17 e18 e19 e20) st
      = .ok (.lst [lots n r, .bl (letB n a b r), .bl true, .lst (.int 0 :: r.map .int)]) st :=
    B_lstT (B_cons (B_call (B_two (B_var rfl) (B_var rfl)) (isO (fa5 n hn r hr) rt))
      (B_cons (B_call (B_cons (B_var rfl) (B_two (B_var rfl) (B_var rfl))) (C_iso (thinL_res (thin_cons (S.thin hn) rt)) (is_let_ok (k := 52) (by decide) hn S hr) rfl))
      (B_two (B_call (B_two (B_var rfl) (B_var rfl)) (isO (fa4 n hn r hr) rt)) cl)))
  have q3 : evE (cfAt PP 100 59) (.lst true [.bi .tuple [.var 12], .cmp .isin (.var 9) (.var 8), .lit (.bl true), .bin .add (.lst true [.lit (.int 0)]) (.bi (.list true) [.var 9])]) (EN e0 e2 e3 e4 (some (.tup n)) e6 (some (say a b d)) (some (.lst ((every n).filter (letP n a b)))) (some (rowT r)) e10 e11 (some (.lst L)) (some (.lst [lots n r, .bl (letB n a b r), .bl true, .lst (.int 0 :: r.map .int)])) e14 e15 e16 e17 e18 e19 e20) st
      = .ok (.lst [lots n r, .bl (letB n a b r), .bl true, .lst (.int 0 :: r.map .int)]) st := by
    rw [eL]
    exact B_lstT (B_cons (B_bi1 (B_var rfl) rfl) (B_cons (B_cmp (B_var rfl) (B_var rfl) (row_in hn hr)) (B_two B_lit (B_bin (B_lstT (B_one B_lit)) (B_bi1 (B_var rfl) (show biE (.list true) [rowT r] st = .ok (.lst (r.map .int)) st from rfl)) (add_lst (a := [.int 0]) (b := r.map .int) (by simp only [List.length_singleton, List.length_map]; unfold big; omega))))))
  exact ⟨_, _, S_cons (S_set q1 rfl) (S_cons (S_set q2 rfl) (S_cons (S_iteF (alike_not (k := 58) (ft_tn hn hr (letB n a b r)) (by omega) (by omega) (B_var rfl) q3) S_nil) S_nil))⟩
/-! ### the things beside a row -/
theorem size_len : ∀ ts : List T, ts.length ≤ sizeL ts
  | [] => Nat.le_refl _
  | t :: ts => by
    have := size_pos t
    have := size_len ts
    simp only [sizeL, List.length_cons]
    omega
theorem dep_mem : ∀ (l : List T) (u : T), u ∈ l → dep u ≤ depL l
  | [], _, h => nomatch h
  | x :: l, u, h => by
    simp only [depL]
    rcases List.mem_cons.mp
          h with rfl | h
    · omega
    · have := dep_mem l u h; omega
theorem tset_facts : ∀ n ∈ N0, ∀ r ∈ rgs n.length, ∀ t ∈ tset n.length r, thin t = true ∧ dep t ≤ 10 ∧ size t ≤ 10 := by decide +kernel
theorem flat_rp (m : Nat) (t : T) : (List.replicate m [t]).flatten = List.replicate m t := by
  induction m with
  | zero => rfl
  | succ m ih => rw [List.replicate_succ, List.flatten_cons, ih]; rfl
theorem mul_ev {e : E} {x : T} {m : Nat} (he : evE c e env st = .ok x st) (h5 : env[5]? = some (some (.tup n))) (h1 : 1 ≤ n.length) (h2 : n.length ≤ 4) : evE c (.bin .mul (.tup [e]) (.bi .len [.var 5])) env st = .ok (rep n.length x) st := by
  refine B_bin (B_tup (B_one he)) (B_bi1 (B_var h5) (show biE .len [.tup n] st = .ok (.int (n.length : Nat)) st from rfl)) ?_
  show (if [x] ≠ [] ∧ (1 : Int) ≤ (n.length : Nat) ∧ ((n.length : Nat) : Int) ≤ 1000 ∧ [x].length ≤ 1000 then Res.ok (T.tup (List.replicate ((n.length : Nat) : Int).toNat [x]).flatten) st else .no) = _
  rw [if_pos ⟨by simp, by omega, by omega, by simp⟩, Int.toNat_natCast, flat_rp]
  rfl
def thE : E := .lst true [.lit .non, .bi (.list true) [.var 9], .bin .add (.var 9) (.tup [.lit (.int 0)]), .sli (.var 9) (some (.lit (.int 1))) none, .bin .mul (.tup [.lit (.int 1)]) (.bi .len [.var 5]), .bin .mul (.tup [.lit (.int 2)]) (.bi .len [.var 5]), .bin .mul (.tup [.lit (.bl true)]) (.bi .len [.var 5]), .bin .mul (.tup [.neg (.lit (.int 1))]) (.bi .len [.var 5]), .bi .tupr [.lit (.int 1), .bin .add (.bi .len [.var 5]) (.lit (.int 1))], .bin .mul (.tup [.lit (.int 0)]) (.bi .len [.var 5])]
theorem th_ev (hn : n ∈ N0) (hr : r ∈ rgs n.length) (h5 : env[5]? = some (some (.tup n))) (h9 : env[9]? = some (some (rowT r))) : evE c thE env st = .ok (.lst (tset n.length r)) st := by
  obtain ⟨_, _, _, _, len, _⟩ := row_facts n hn r hr
  have h2 := (cp_all n hn).2.2.2.2.1
  have h1 : 1 ≤ n.length := List.length_pos_iff.mpr (cp_all n hn).2.2.2.2.2.1
  have rl : r.length ≤ 4 := by omega
  have lx : evE c (.bi .len [.var 5]) env st = .ok (.int (n.length : Nat)) st := B_bi1 (B_var h5) (show biE .len [.tup n] st = .ok (.int (n.length : Nat)) st from rfl)
  have rg : biE .tupr [.int 1, .int ((n.length : Nat) + 1)] st = .ok (.tup ((List.range n.length).map fun (i : Nat) => .int (1 + (i : Nat)))) st := by
    have e : biE .tupr [.int 1, .int ((n.length : Nat) + 1)] st = .of ((rgE 1 ((n.length : Nat) + 1)).map .tup) st := rfl
    rw [e]
    unfold rgE
    rw [if_pos ⟨by omega, by omega, by omega, by omega⟩]
    have : (((n.length : Nat) : Int) + 1 - 1).toNat = n.length := by omega
    rw [this]
    rfl
  have cu : sliE (rowT r) (some 1) none st = .ok (.tup ((r.map T.int).drop 1)) st := by
    show Res.ok (T.tup (cutT (r.map T.int) (some 1) none)) st = _
    rw [drop_over r 1 (by omega), List.map_drop]
    rfl
  exact B_lstT (B_cons B_lit (B_cons (B_bi1 (B_var h9) (show biE (.list true) [rowT r] st = .ok (.lst (r.map .int)) st from rfl)) (B_cons (B_bin (B_var h9) (B_tup (B_one B_lit)) (add_tup (a := r.map .int) (b := [.int 0]) (by simp only [List.length_singleton, List.length_map]; unfold big; omega)))
    (B_cons (B_sli (B_var h9) (B_oS B_lit) B_oN cu) (B_cons (mul_ev (m := 0) B_lit h5 h1 h2) (B_cons (mul_ev (m := 0) B_lit h5 h1 h2) (B_cons (mul_ev (m := 0) B_lit h5 h1 h2) (B_cons (mul_ev (m := 0) (B_neg B_lit) h5 h1 h2)
    (B_two (B_bi (B_two B_lit (B_bin lx B_lit (add_int ..))) rg) (mul_ev (m := 0) B_lit h5 h1 h2))))))))))
theorem is_int {t : T} (h : thin t = true) : callAt PP 100 (k + 1) 26 [t] [] = .ok (.bl (isI t)) [] := by
  cases t <;> first | rfl | cases h
theorem ints_of : ∀ {ts : List T}, ts.all isI = true → ∃ rs : List Int, ts = rs.map .int
  | [], _ => ⟨[], rfl⟩
  | t :: ts, h => by
    rw [List.all_cons, Bool.and_eq_true]
          at h
    obtain ⟨rs, rfl⟩ := ints_of h.2
    cases t with
    | int i => exact ⟨i :: rs, rfl⟩
    | _ => cases h.1
theorem rowT_inj {x y : List Int} (h : rowT x = rowT y) : x = y := by
  have key : ∀ (x y : List Int), x.map T.int = y.map T.int → x = y := fun x => by
    induction x with
    | nil => intro y h; cases y with | nil => rfl | cons _ _ => cases h
    | cons a x ih =>
      intro y h
      cases y with
      | nil => cases h
      | cons b y =>
        simp only [List.map_cons, List.cons.injEq, T.int.injEq] at h
        rw [h.1, ih y h.2]
  exact key x y (T.tup.inj h)
def fitE : E := .and (.bi (.isi .tuple) [.var 10]) (.and (.cmp .eq (.comp true (.var 18) (.name 18) .val [.var 10] [.not (.call 26 true [.var 18])] [18]) (.lst true [])) (.cmp .isin (.var 10) (.var 6)))
theorem fit_ok {t : T} (hn : n ∈ N0) (th : thin t = true) (hd : dep t ≤ 10) (hz : size t ≤ 10) : evE (cfAt PP 100 (k + 1)) fitE (EN e0 e2 e3 e4 e5 (some (.lst (every n))) e7 e8 e9 (some t) e11 e12 e13 e14 e15 e16 e17 e18 e19 e20) st = .ok (.bl (fitB n t)) st := by
  by_cases ht : ∃ ts, t = .tup ts
  · obtain ⟨ts, rfl⟩ := ht
    have tl : thinL ts = true := th
    have f := filt_test (c := cfAt PP 100 (k + 1)) (st := st) (env := EN e0 e2 e3 e4 e5 (some (.lst (every n))) e7 e8 e9 (some (.tup ts)) e11 e12 e13 e14 e15 e16 e17 e18 e19 e20) (i := 18) (e := .var 10) (te := .not (.call 26 true [.var 18])) (L := ts) (p := fun u => !isI u) (B_var rfl) (by have := size_len ts; simp only [size] at hz; unfold big; omega) (by show 18 < 21; decide) fun u hu => B_not (B_call (B_one (B_var (t := u) rfl)) (C_iso (resL_one (thinL_iff.mp tl u hu)) (is_int (k := k) (thinL_iff.mp tl u hu)) rfl))
    have sub : ∀ u ∈ ts.filter fun u => !isI u, u ∈ ts := fun u hu => (List.mem_filter.mp hu).1
    have en := eq_nil (st := st) (L := ts.filter fun u => !isI u) (thinL_iff.mpr fun u hu => thinL_iff.mp tl u (sub u hu)) (Nat.le_trans (depL_le (n := 10) fun u hu => by
      have := dep_mem ts u (sub u hu)
      simp only [dep] at hd
      omega) (by omega))
    have e2 : (ts.filter fun u => !isI u).isEmpty = ts.all isI := by
      rw [filt_empty]
      congr 1
      exact funext fun u => Bool.not_not _
    rw [e2] at en
    have fe : fitB n (.tup ts) = (ts.all isI && decide (T.tup ts ∈ every n)) := rfl
    rw [fe]
    refine B_andT (B_bi1 (B_var rfl) rfl) (B_and (B_cmp f (B_lstT B_nil) en) fun ha => ?_)
    obtain ⟨rs, rfl⟩ := ints_of ha
    obtain ⟨h1, h2, _⟩ := every_facts n hn
    have q := in_rows (st := st) (r := rs) (rs := rgs n.length) th h1 (Nat.le_trans hd (by omega)) (Nat.le_trans h2 (by omega))
    refine B_cmp (B_var rfl) (B_var rfl) (q.trans ?_)
    congr 1
    by_cases hm : rs ∈ rgs n.length
    · rw [decide_eq_true hm]
      exact (decide_eq_true (List.mem_map.mpr ⟨rs, hm, rfl⟩)).symm
    · rw [decide_eq_false hm]
      refine (decide_eq_false fun z => ?_).symm
      obtain ⟨x, hx, e⟩ := List.mem_map.mp z
      exact hm (rowT_inj e ▸ hx)
  · have e : fitB n t = false := by
      cases t with
      | tup ts => exact absurd ⟨ts, rfl⟩ ht
      | _ => rfl
    rw [e]
    refine B_andF (B_bi1 (B_var rfl) ?_)
    cases t <;> first | rfl | (cases th; done) | exact absurd ⟨_, rfl⟩ ht
theorem dnCf : (cfAt PP 100 59).dn.cf = callAt PP 100 57 := by
  rw [show cfAt PP 100 59 = _ from cfAt_two PP 100 57]
  rfl
theorem top59 : (cfAt PP 100 59).top = true := by
  rw [show cfAt PP 100 59 = _ from cfAt_two PP 100 57]
theorem isXd {f : Nat} {args : List T} (h : exR (callAt PP 100 57 f args []) = true) (ht : thinL args = true) : callE (cfAt PP 100 59).dn f true args st = .exc ⟨1, []⟩ st := by
  obtain ⟨s, e⟩ := exR_of h
  exact C_isoX (thinL_res ht) (by rw [dnCf]; exact e)
theorem hear_x {u : E} {st' : Store} (h : evE (cfAt PP 100 59).dn u env st = .exc ⟨1, []⟩ st') : evE (cfAt PP 100 59) (.hear HK u) env st = .ok N1 st' := by
  refine B_hear top59 ?_
  rw [h]
  rfl
theorem ne_n1 : cmpE .ne N1 N1 st = some false := by kernel_rfl
def thB : List S := [.set 14 fitE, .ite (.not (.call 19 true [.call 9 true [.var 5, .var 10], .var 14])) [.ret (some (.lit (.bl false)))] [], .ite (.and (.not (.var 14)) (.cmp .ne (.hear HK (.call 12 true [.var 5, .var 10])) (.tup [.lit (.str "nothing")]))) [.ret (some (.lit (.bl false)))] []]
theorem z8_is : z8 = .fr (.name 10) .val [thE] thB := rfl
theorem thing_turn (hn : n ∈ N0) (hr : r ∈ rgs n.length) {t : T} (ht : t ∈ tset n.length r) : ∃ f14, evSs (cfAt PP 100 59) thB (EN e0 e2 e3 e4 (some (.tup n)) (some (.lst (every n))) e7 e8 e9 (some t) e11 e12 e13 e14 e15 e16 e17 e18 e19 e20) st
    = .ok .nx (EN e0 e2 e3 e4 (some (.tup n)) (some (.lst (every n))) e7 e8 e9 (some t) e11 e12 e13 f14 e15 e16 e17 e18 e19 e20) st := by
  obtain ⟨th, hd, hz⟩ := tset_facts n hn r hr t ht
  obtain ⟨q1, q2⟩ := fa8 n hn r hr t ht
  have f := fit_ok (k := 58) (st := st) (e0 := e0) (e2 := e2) (e3 := e3) (e4 := e4) (e5 := some (.tup n)) (e7 := e7) (e8 := e8) (e9 := e9) (e11 := e11) (e12 := e12) (e13 := e13) (e14 := e14) (e15 := e15) (e16 := e16) (e17 := e17) (e18 := e18) (e19 := e19) (e20 := e20) hn th hd hz
  have tn := (all_thin n hn).1
  have rt : thinL [.tup n, t] = true := thin_cons tn (thin_cons th rfl)
  have c2 : evE (cfAt PP 100 59) (.and (.not (.var 14)) (.cmp .ne (.hear HK (.call 12 true [.var 5, .var 10])) (.tup [.lit (.str "nothing")]))) (EN e0 e2 e3 e4 (some (.tup n)) (some (.lst (every n))) e7 e8 e9 (some t) e11 e12 e13 (some (.bl (fitB n t))) e15 e16 e17 e18 e19 e20) st = .ok (.bl false) st := by
    cases h : fitB n t with
    | true => exact B_andF (B_not (k := true) (B_var rfl))
    | false => exact B_andT (B_not (k := false) (B_var rfl)) (B_cmp (hear_x (B_call (B_two (B_var rfl) (B_var rfl)) (isXd (q2 h) rt))) (B_tup (B_one B_lit)) ne_n1)
  have bt : Tn (.bl (fitB n t)) 1 1 := ⟨rfl, Nat.le_refl _, Nat.le_refl _⟩
  exact ⟨_, S_cons (S_set f rfl) (S_cons (S_iteF (alike_not (k := 58) bt (by omega) (by omega) (B_call (B_two (B_var rfl) (B_var rfl)) (isO q1 rt)) (B_var rfl)) S_nil) (S_cons (S_iteF c2 S_nil) S_nil))⟩
/-- a loop that leaves the store as it is -/
theorem forL_keep {body : Env → Store → SRes} {g : G} {w : Walk} {ik : Ik} (hw : w.same ik st = true) (I : Env → Prop)
    (h : ∀ x env, x ∈ w.items → I env → ∃ env' env2, setG g x env = some env' ∧ body env' st = .ok .nx env2 st ∧ I env2) :
    ∀ (xs : List T) (env : Env), (∀ x ∈ xs, x ∈ w.items) → I env → ∃ env2, forL body g w ik xs env st = .ok .nx env2 st ∧ I env2
  | [], env, _, i => ⟨env, by simp [forL, hw], i⟩
  | x :: xs, env, hs, i => by
    obtain ⟨env1, env2, e1, e2, i2⟩ := h x env (hs x List.mem_cons_self) i
    obtain ⟨env3, e3, i3⟩ := forL_keep (body := body) (g := g) (ik := ik) hw I h xs env2 (fun z hz => hs z (List.mem_cons_of_mem _ hz)) i2
    exact ⟨env3, by simp [forL, hw, e1, e2, e3], i3⟩
theorem z8_ok (hn : n ∈ N0) (hr : r ∈ rgs n.length) : ∃ f10 f14, evS (cfAt PP 100 59) z8 (EN e0 e2 e3 e4 (some (.tup n)) (some (.lst (every n))) e7 e8 (some (rowT r)) e10 e11 e12 e13 e14 e15 e16 e17 e18 e19 e20) st
    = .ok .nx (EN e0 e2 e3 e4 (some (.tup n)) (some (.lst (every n))) e7 e8 (some (rowT r)) f10 e11 e12 e13 f14 e15 e16 e17 e18 e19 e20) st := by
  rw [z8_is]
  obtain ⟨env2, q, f10, f14, rfl⟩ := forL_keep (st := st) (g := .name 10) (w := { items := tset n.length r }) (ik := .val) (body := fun env st => evSs (cfAt PP 100 59) thB env st) rfl
    (fun env => ∃ f10 f14, env = EN e0 e2 e3 e4 (some (.tup n)) (some (.lst (every n))) e7 e8 (some (rowT r)) f10 e11 e12 e13 f14 e15 e16 e17 e18 e19 e20) (fun t env ht h => by
      obtain ⟨f10, f14, rfl⟩ := h
      obtain ⟨g14, q⟩ := thing_turn (st := st) (e0 := e0) (e2 := e2) (e3 := e3) (e4 := e4) (e7 := e7) (e8 := e8) (e9 := some (rowT r)) (e11 := e11) (e12 := e12) (e13 := e13) (e14 := f14) (e15 := e15) (e16 := e16) (e17 := e17) (e18 := e18) (e19 := e19) (e20 := e20) hn hr ht
      exact ⟨EN e0 e2 e3 e4 (some (.tup n)) (some (.lst (every n))) e7 e8 (some (rowT r)) (some t) e11 e12 e13 f14 e15 e16 e17 e18 e19 e20, _, rfl, q, _, _, rfl⟩) (tset n.length r)
    (EN e0 e2 e3 e4 (some (.tup n)) (some (.lst (every n))) e7 e8 (some (rowT r)) e10 e11 e12 e13 e14 e15 e16 e17 e18 e19 e20) (fun x hx => hx) ⟨_, _, rfl⟩
  exact ⟨f10, f14, S_for (B_one (th_ev hn hr rfl rfl)) rfl q⟩
theorem z6_ok (hn : n ∈ N0) (S : SN n a b d) {ts : List T} (hl : st[0]? = some (.lst ts)) (hB : Bag ts) : ∃ f9 f12 f13 st' ts', evS (cfAt PP 100 59) z6 (EN e0 e2 e3 e4 (some (.tup n)) (some (.lst (every n))) (some (say a b d)) (some (.lst ((every n).filter (letP n a b)))) e9 e10 e11 e12 e13 e14 e15 e16 e17 e18 e19 e20) st
    = .ok .nx (EN e0 e2 e3 e4 (some (.tup n)) (some (.lst (every n))) (some (say a b d)) (some (.lst ((every n).filter (letP n a b)))) f9 e10 e11 f12 f13 e14 e15 e16 e17 e18 e19 e20) st' ∧ st'[0]? = some (.lst ts') ∧ Bag ts' := by
  rw [z6_is]
  obtain ⟨M, t1, q1, b1, hM⟩ := mixed_ok (k := 57) (l := 0) (L := every n) hl hB (by have := (every_all n hn).1; omega)
  have hlt := (List.getElem?_eq_some_iff.mp hl).1
  have gl : (st.set 0 (Cell.lst t1) ++ [Cell.lst M])[st.length]? = some (.lst M) := by
    have := last_get (st := st.set 0 (Cell.lst t1)) (c := .lst M)
    rwa [show (st.set 0 (Cell.lst t1)).length = st.length by simp] at this
  have g0 : (st.set 0 (Cell.lst t1) ++ [Cell.lst M])[0]? = some (.lst t1) := by
    rw [List.getElem?_append_left (by simpa using hlt)]
    exact set_get hl
  generalize st.set 0 (Cell.lst t1) ++ [Cell.lst M] = s1 at q1 gl g0
  have sl : sliE (.loc st.length) none (some 5) s1 = .ok (.lst (cutT M none (some 5))) s1 := by
    simp only [sliE, lstOf, gl]
  have sub : ∀ y ∈ cutT M none (some 5), y ∈ every n := fun y hy => hM y (List.mem_of_mem_drop (List.mem_of_mem_take hy))
  obtain ⟨env2, q, f9, f12, f13, rfl⟩ := forL_keep (st := s1) (g := .name 9) (w := { items := cutT M none (some 5) }) (ik := .val) (body := fun env st => evSs (cfAt PP 100 59) rowB env st) rfl
    (fun env => ∃ f9 f12 f13, env = EN e0 e2 e3 e4 (some (.tup n)) (some (.lst (every n))) (some (say a b d)) (some (.lst ((every n).filter (letP n a b)))) f9 e10 e11 f12 f13 e14 e15 e16 e17 e18 e19 e20) (fun t env ht h => by
      obtain ⟨f9, f12, f13, rfl⟩ := h
      obtain ⟨r, hr, rfl⟩ := every_row (sub t ht)
      obtain ⟨g12, g13, q⟩ := row_turn (st := s1) (e0 := e0) (e2 := e2) (e3 := e3) (e4 := e4) (e6 := some (.lst (every n))) (e10 := e10) (e11 := e11) (e12 := f12) (e13 := f13) (e14 := e14) (e15 := e15) (e16 := e16) (e17 := e17) (e18 := e18) (e19 := e19) (e20 := e20) hn S hr
      exact ⟨EN e0 e2 e3 e4 (some (.tup n)) (some (.lst (every n))) (some (say a b d)) (some (.lst ((every n).filter (letP n a b)))) (some (rowT r)) e10 e11 f12 f13 e14 e15 e16 e17 e18 e19 e20, _, rfl, q, _, _, _, rfl⟩) (cutT M none (some 5))
    (EN e0 e2 e3 e4 (some (.tup n)) (some (.lst (every n))) (some (say a b d)) (some (.lst ((every n).filter (letP n a b)))) e9 e10 e11 e12 e13 e14 e15 e16 e17 e18 e19 e20) (fun x hx => hx) ⟨_, _, _, rfl⟩
  exact ⟨f9, f12, f13, s1, t1, S_for (B_one (B_sli (B_call (B_two (B_var rfl) (B_var rfl)) (C_own q1)) B_oN (B_oS B_lit) sl)) rfl q, g0, b1⟩
end
end Lw
set_option Elab.async false
set_option linter.all false
set_option maxRecDepth 100000
/-! M21: what is heard; the lap whole; the law. -/
namespace Lw
open PySem PySem.Spec PyProof.Rows
section
variable {st : Store} {k : Nat} {c : Cf} {env : Env} {n a b d : List T} {r : List Int} {e0 e2 e3 e4 e5 e6 e7 e8 e9 e10 e11 e12 e13 e14 e15 e16 e17 e18 e19 e20 : Option T}
theorem isXe {f : Nat} {args : List T} (h : ∃ s, callAt PP 100 57 f args [] = .exc ⟨1, []⟩ s) (ht : thinL args = true) : callE (cfAt PP 100 59).dn f true args st = .exc ⟨1, []⟩ st := by
  obtain ⟨s, e⟩ := h
  exact C_isoX (thinL_res ht) (by rw [dnCf]; exact e)
theorem app_ok2 {st' : Store} {e : E} {i : Nat} {ts : List T} {y : T} (hv : env[i]? = some (some (.loc st.length))) (hs : st'.length = st.length) (he : evE c e env (st ++ [.lst ts]) = .ok y (st' ++ [.lst ts])) (hl : ts.length < big) :
    evS c (.expr (.mt .append (.var i) [e])) env (st ++ [.lst ts]) = .ok .nx env (st' ++ [.lst (ts ++ [y])]) := by
  have k1 : kindOf (st ++ [.lst ts]) (.loc st.length) = 1 := by simp only [kindOf, last_get]
  have g := last_get (st := st') (c := .lst ts)
  have g2 := last_set (st := st') (c := .lst ts) (d := .lst (ts ++ [y]))
  rw [hs] at g g2
  have k2 : kindOf (st' ++ [.lst ts]) (.loc st.length) = 1 := by simp only [kindOf, g]
  refine S_expr (t := .non) (B_mt (B_var hv) (by rw [k1]; rfl) (B_one he) (by rw [k1, k2]) ?_)
  simp only [mtE, g, g2]
  rw [if_pos hl]
theorem odds_thin : ∀ o ∈ odds, thin o = true := by decide +kernel
theorem odds_ev : evE c (.lst true [.lit .non, .lst true [.lit (.str "x")], .tup [.lit (.str "y"), .lit (.str "x")], .tup [.lit (.str "x"), .lit (.str "x")], .tup [.lit (.str "A")], .tup [.lit (.int 1)]]) env st = .ok (.lst odds) st := by kernel_rfl
theorem cl_exc {o : T} (ho : o ∈ odds) : ∃ s, callAt PP 100 57 15 [say a b d, o] [] = .exc ⟨1, []⟩ s :=
  ⟨_, C_exc (P := PP) (f := 15) (n := 56) rfl rfl (S_exc (S_setX (B_call (B_one (B_var rfl)) (isX (fa9 o ho).2.1 (thin_cons (odds_thin o ho) rfl)))))⟩
theorem row0_thin (hn : n ∈ N0) (hr : r ∈ rgs n.length) : thin (.tup (r.map .int ++ [.int 0])) = true := (tset_facts n hn r hr _ (by simp [tset])).1
theorem il_exc (hn : n ∈ N0) (hr : r ∈ rgs n.length) : ∃ s, callAt PP 100 57 14 [say a b d, .tup n, .tup (r.map .int ++ [.int 0])] [] = .exc ⟨1, []⟩ s :=
  ⟨_, C_exc (P := PP) (f := 14) (n := 56) rfl rfl (S_exc (S_exprX (B_call (B_two (B_var rfl) (B_var rfl)) (isX (fa10 n hn r hr).2 (thin_cons (all_thin n hn).1 (thin_cons (row0_thin hn hr) rfl))))))⟩
theorem q_thin : ∀ q ∈ ([.str "q", .int 1, .str "A"] : List T), thin q = true := by decide +kernel
theorem same_eq {h : Nat} {us : List T} (hg : st[h]? = some (.lst us)) (th : thin (.lst us) = true) (hd : dep (.lst us) ≤ 64) : eqT st (.loc h) (.lst us) = some true := by
  have n1 : noLocL us = true := thinL_noLoc th
  have p1 : pyOf st (.loc h) = pyOf st (.lst us) := by
    simp only [pyOf, thin_res th]
    simp only [res, hg, n1, if_true]
  have q := eqT_refl (st := st) th hd
  unfold eqT at q ⊢
  rw [p1]
  exact q
theorem six_thin : thin (.lst [N1, N1, N1, N1, N1, N1]) = true ∧ dep (.lst [N1, N1, N1, N1, N1, N1]) ≤ 64 := by decide +kernel
theorem heard_all (hn : n ∈ N0) (S : SN n a b d) (hr : r ∈ rgs n.length) {o : T} (ho : o ∈ odds) {ts : List T} (hl : st[0]? = some (.lst ts)) (hB : Bag ts) :
    ∃ f4 st' ts', evSs (cfAt PP 100 59) [z10, z11, z12, z13, z14, z15, z16] (EN e0 e2 e3 e4 (some (.tup n)) e6 (some (say a b d)) e8 (some (rowT r)) e10 (some o) e12 e13 e14 e15 e16 e17 e18 e19 e20) st
      = .ok .nx (EN e0 e2 e3 f4 (some (.tup n)) e6 (some (say a b d)) e8 (some (rowT r)) e10 (some o) e12 e13 e14 e15 e16 e17 e18 e19 e20) st' ∧ st'[0]? = some (.lst ts') ∧ Bag ts' := by
  have hlt := (List.getElem?_eq_some_iff.mp hl).1
  have tn := (all_thin n hn).1
  have tr := (all_thin n hn).2 r hr
  have to := odds_thin o ho
  have tS := S.thin hn
  obtain ⟨x, hx, t1, q1, b1⟩ := some_ok (P := PP) (lim := 100) (k := 55) (f := 18) (g := 17) (l := 0) (st := st ++ [.lst [N1, N1, N1]]) (things := [.str "q", .int 1, .str "A"]) p_some p_take (by rw [List.getElem?_append_left hlt]; exact hl) hB (by simp) (by simp)
  rw [List.set_append_left _ _ hlt] at q1
  have len : (st.set 0 (Cell.lst t1)).length = st.length := by simp
  have s10 : evS (cfAt PP 100 59) z10 (EN e0 e2 e3 e4 (some (.tup n)) e6 (some (say a b d)) e8 (some (rowT r)) e10 (some o) e12 e13 e14 e15 e16 e17 e18 e19 e20) st = .ok .nx (EN e0 e2 e3 (some (.loc st.length)) (some (.tup n)) e6 (some (say a b d)) e8 (some (rowT r)) e10 (some o) e12 e13 e14 e15 e16 e17 e18 e19 e20) (st ++ [.lst [N1]]) :=
    S_set (B_lstF (B_one (hear_x (B_call (B_one (B_var rfl)) (isXd (fa9 o ho).1 (thin_cons to rfl)))))) rfl
  have s11 : evS (cfAt PP 100 59) z11 (EN e0 e2 e3 (some (.loc st.length)) (some (.tup n)) e6 (some (say a b d)) e8 (some (rowT r)) e10 (some o) e12 e13 e14 e15 e16 e17 e18 e19 e20) (st ++ [.lst [N1]]) = .ok .nx (EN e0 e2 e3 (some (.loc st.length)) (some (.tup n)) e6 (some (say a b d)) e8 (some (rowT r)) e10 (some o) e12 e13 e14 e15 e16 e17 e18 e19 e20) (st ++ [.lst [N1, N1]]) :=
    app_ok (ts := [N1]) rfl (hear_x (B_call (B_two (B_var rfl) (B_tup B_nil)) (isXd (fa9 o ho).2.2 (thin_cons to rfl)))) (by decide)
  have s12 : evS (cfAt PP 100 59) z12 (EN e0 e2 e3 (some (.loc st.length)) (some (.tup n)) e6 (some (say a b d)) e8 (some (rowT r)) e10 (some o) e12 e13 e14 e15 e16 e17 e18 e19 e20) (st ++ [.lst [N1, N1]]) = .ok .nx (EN e0 e2 e3 (some (.loc st.length)) (some (.tup n)) e6 (some (say a b d)) e8 (some (rowT r)) e10 (some o) e12 e13 e14 e15 e16 e17 e18 e19 e20) (st ++ [.lst [N1, N1, N1]]) :=
    app_ok (ts := [N1, N1]) rfl (hear_x (B_call (B_two (B_var rfl) (B_var rfl)) (isXe (cl_exc ho) (thin_cons tS (thin_cons to rfl))))) (by decide)
  have s13 : evS (cfAt PP 100 59) z13 (EN e0 e2 e3 (some (.loc st.length)) (some (.tup n)) e6 (some (say a b d)) e8 (some (rowT r)) e10 (some o) e12 e13 e14 e15 e16 e17 e18 e19 e20) (st ++ [.lst [N1, N1, N1]]) = .ok .nx (EN e0 e2 e3 (some (.loc st.length)) (some (.tup n)) e6 (some (say a b d)) e8 (some (rowT r)) e10 (some o) e12 e13 e14 e15 e16 e17 e18 e19 e20) (st.set 0 (.lst t1) ++ [.lst [N1, N1, N1, N1]]) :=
    app_ok2 (ts := [N1, N1, N1]) rfl len (hear_x (B_call (B_cons (B_var rfl) (B_two (B_var rfl) (B_call (B_two (B_var rfl) (B_lstT (B_cons B_lit (B_two B_lit B_lit)))) (C_own (by rw [dnCf]; exact q1))))) (isXd ((fa10 n hn r hr).1 x hx) (thin_cons tn (thin_cons tr (thin_cons (q_thin x hx) rfl)))))) (by decide)
  have s14 : evS (cfAt PP 100 59) z14 (EN e0 e2 e3 (some (.loc (st.set 0 (Cell.lst t1)).length)) (some (.tup n)) e6 (some (say a b d)) e8 (some (rowT r)) e10 (some o) e12 e13 e14 e15 e16 e17 e18 e19 e20) (st.set 0 (.lst t1) ++ [.lst [N1, N1, N1, N1]]) = .ok .nx (EN e0 e2 e3 (some (.loc (st.set 0 (Cell.lst t1)).length)) (some (.tup n)) e6 (some (say a b d)) e8 (some (rowT r)) e10 (some o) e12 e13 e14 e15 e16 e17 e18 e19 e20) (st.set 0 (.lst t1) ++ [.lst [N1, N1, N1, N1, N1]]) :=
    app_ok (ts := [N1, N1, N1, N1]) rfl (hear_x (B_call (B_two (B_tup (B_cons (B_tup B_nil) (B_two (B_tup B_nil) (B_tup (B_one (B_tup (B_cons B_lit (B_two B_lit B_lit)))))))) (B_var rfl)) (isXd (fa11 n hn) (thin_cons (by decide +kernel) (thin_cons tn rfl))))) (by decide)
  have s15 : evS (cfAt PP 100 59) z15 (EN e0 e2 e3 (some (.loc (st.set 0 (Cell.lst t1)).length)) (some (.tup n)) e6 (some (say a b d)) e8 (some (rowT r)) e10 (some o) e12 e13 e14 e15 e16 e17 e18 e19 e20) (st.set 0 (.lst t1) ++ [.lst [N1, N1, N1, N1, N1]]) = .ok .nx (EN e0 e2 e3 (some (.loc (st.set 0 (Cell.lst t1)).length)) (some (.tup n)) e6 (some (say a b d)) e8 (some (rowT r)) e10 (some o) e12 e13 e14 e15 e16 e17 e18 e19 e20) (st.set 0 (.lst t1) ++ [.lst [N1, N1, N1, N1, N1, N1]]) := by
    have rl : r.length ≤ 4 := by
      have := (row_facts n hn r hr).2.2.2.2.1
      have := (cp_all n hn).2.2.2.2.1
      omega
    exact app_ok (ts := [N1, N1, N1, N1, N1]) rfl (hear_x (B_call (B_cons (B_var rfl) (B_two (B_var rfl) (B_bin (B_var rfl) (B_tup (B_one B_lit)) (add_tup (a := r.map .int) (b := [.int 0]) (by simp only [List.length_singleton, List.length_map]; unfold big; omega))))) (isXe (il_exc hn hr) (thin_cons tS (thin_cons tn (thin_cons (row0_thin hn hr) rfl)))))) (by decide)
  rw [len] at s14 s15
  have gl : (st.set 0 (Cell.lst t1) ++ [Cell.lst [N1, N1, N1, N1, N1, N1]])[st.length]? = some (.lst [N1, N1, N1, N1, N1, N1]) := by
    have := last_get (st := st.set 0 (Cell.lst t1)) (c := .lst [N1, N1, N1, N1, N1, N1])
    rwa [len] at this
  have ne : cmpE .ne (.loc st.length) (.lst [N1, N1, N1, N1, N1, N1]) (st.set 0 (Cell.lst t1) ++ [Cell.lst [N1, N1, N1, N1, N1, N1]]) = some false := by
    show (eqT _ _ _).map not = _
    rw [same_eq gl six_thin.1 six_thin.2]
    rfl
  have s16 : evS (cfAt PP 100 59) z16 (EN e0 e2 e3 (some (.loc st.length)) (some (.tup n)) e6 (some (say a b d)) e8 (some (rowT r)) e10 (some o) e12 e13 e14 e15 e16 e17 e18 e19 e20) (st.set 0 (.lst t1) ++ [.lst [N1, N1, N1, N1, N1, N1]]) = .ok .nx (EN e0 e2 e3 (some (.loc st.length)) (some (.tup n)) e6 (some (say a b d)) e8 (some (rowT r)) e10 (some o) e12 e13 e14 e15 e16 e17 e18 e19 e20) (st.set 0 (.lst t1) ++ [.lst [N1, N1, N1, N1, N1, N1]]) :=
    S_iteF (B_cmp (B_var rfl) (B_bin (B_lstT (B_one (B_tup (B_one B_lit)))) B_lit (show binE .mul (.lst [N1]) (.int 6) _ = .ok (.lst [N1, N1, N1, N1, N1, N1]) _ from rfl)) ne) S_nil
  refine ⟨_, _, t1, S_cons s10 (S_cons s11 (S_cons s12 (S_cons s13 (S_cons s14 (S_cons s15 (S_cons s16 S_nil)))))), ?_, b1⟩
  rw [List.getElem?_append_left (by simpa using hlt)]
  exact set_get hl
theorem every_ne : ∀ n ∈ N0, every n ≠ [] := by decide +kernel
theorem lap_ok {ts : List T} (hl : st[0]? = some (.lst ts)) (hB : Bag ts) : ∃ f4 f5 f6 f7 f8 f9 f10 f11 f12 f13 f14 f15 f16 f17 f18 f19 f20 st', evSs (cfAt PP 100 59) lapB (EN e0 e2 e3 e4 e5 e6 e7 e8 e9 e10 e11 e12 e13 e14 e15 e16 e17 e18 e19 e20) st
    = .ok .nx (EN e0 e2 e3 f4 f5 f6 f7 f8 f9 f10 f11 f12 f13 f14 f15 f16 f17 f18 f19 f20) st' ∧ ∃ ts', st'[0]? = some (.lst ts') ∧ Bag ts' := by
  obtain ⟨i, t1, q1, b1, i0, i1⟩ := take_ok (P := PP) (lim := 100) (k := 58) (f := 17) p_take hl hB (m := 2) (by omega) (by omega)
  obtain ⟨j, t2, q2, b2, j0, j1⟩ := take_ok (P := PP) (lim := 100) (k := 58) (f := 17) p_take (set_get (c := .lst t1) hl) b1 (m := 3) (by omega) (by omega)
  rw [set_set] at q2
  obtain ⟨n, hn, en⟩ := cut_n0 i0 i1 j0 j1
  have g2 : (st.set 0 (Cell.lst t2))[0]? = some (.lst t2) := set_get hl
  have tn := (all_thin n hn).1
  have s0 : evS (cfAt PP 100 59) z0 (EN e0 e2 e3 e4 e5 e6 e7 e8 e9 e10 e11 e12 e13 e14 e15 e16 e17 e18 e19 e20) st = .ok .nx (EN e0 e2 e3 e4 (some (.tup n)) e6 e7 e8 e9 e10 e11 e12 e13 e14 e15 e16 e17 e18 e19 e20) (st.set 0 (.lst t2)) := by
    rw [← en]
    exact S_set (B_sli (B_tup (B_cons B_lit (B_cons B_lit (B_two B_lit B_lit)))) (B_oS (B_call (B_two (B_var rfl) B_lit) (C_own q1))) (B_oS (B_bin B_lit (B_call (B_two (B_var rfl) B_lit) (C_own q2)) (add_int ..))) rfl) rfl
  generalize st.set 0 (Cell.lst t2) = s2 at s0 g2
  have s1 : evS (cfAt PP 100 59) z1 (EN e0 e2 e3 e4 (some (.tup n)) e6 e7 e8 e9 e10 e11 e12 e13 e14 e15 e16 e17 e18 e19 e20) s2 = .ok .nx (EN e0 e2 e3 e4 (some (.tup n)) (some (.lst (every n))) e7 e8 e9 e10 e11 e12 e13 e14 e15 e16 e17 e18 e19 e20) s2 :=
    S_set (B_call (B_one (B_var rfl)) (isO (fa1 n hn) (thin_cons tn rfl))) rfl
  have sA : evS (cfAt PP 100 59) z2 (EN e0 e2 e3 e4 (some (.tup n)) (some (.lst (every n))) e7 e8 e9 e10 e11 e12 e13 e14 e15 e16 e17 e18 e19 e20) s2 = .ok .nx (EN e0 e2 e3 e4 (some (.tup n)) (some (.lst (every n))) e7 e8 e9 e10 e11 e12 e13 e14 e15 e16 e17 e18 e19 e20) s2 :=
    S_iteF (alike_not (k := 58) (every_tn hn) (by omega) (by omega) (B_call (B_one (B_var rfl)) (isO (fa2 59 (by decide) n hn) (thin_cons tn rfl))) (B_bi1 (B_var rfl) rfl)) S_nil
  obtain ⟨a, b, d, s3, t3, q3, g3, b3, ha, hb, hd, la, lb, ld⟩ := saying_ok (k := 55) hn g2 b2
  have S : SN n a b d := ⟨ha, hb, hd, la, lb, ld⟩
  have sB : evS (cfAt PP 100 59) z3 (EN e0 e2 e3 e4 (some (.tup n)) (some (.lst (every n))) e7 e8 e9 e10 e11 e12 e13 e14 e15 e16 e17 e18 e19 e20) s2 = .ok .nx (EN e0 e2 e3 e4 (some (.tup n)) (some (.lst (every n))) (some (say a b d)) e8 e9 e10 e11 e12 e13 e14 e15 e16 e17 e18 e19 e20) s3 :=
    S_set (B_iteT (B_cmp (B_var rfl) (B_tup B_nil) (ne_unit hn)) (B_call (B_cons (B_var rfl) (B_two (B_var rfl) B_lit)) (C_own q3))) rfl
  have sC : evS (cfAt PP 100 59) z4 (EN e0 e2 e3 e4 (some (.tup n)) (some (.lst (every n))) (some (say a b d)) e8 e9 e10 e11 e12 e13 e14 e15 e16 e17 e18 e19 e20) s3 = .ok .nx (EN e0 e2 e3 e4 (some (.tup n)) (some (.lst (every n))) (some (say a b d)) (some (.lst ((every n).filter (letP n a b)))) e9 e10 e11 e12 e13 e14 e15 e16 e17 e18 e19 e20) s3 :=
    S_set (let_list hn S) rfl
  have sD : evS (cfAt PP 100 59) z5 (EN e0 e2 e3 e4 (some (.tup n)) (some (.lst (every n))) (some (say a b d)) (some (.lst ((every n).filter (letP n a b)))) e9 e10 e11 e12 e13 e14 e15 e16 e17 e18 e19 e20) s3 = .ok .nx (EN e0 e2 e3 e4 (some (.tup n)) (some (.lst (every n))) (some (say a b d)) (some (.lst ((every n).filter (letP n a b)))) e9 e10 e11 e12 e13 e14 e15 e16 e17 e18 e19 e20) s3 :=
    S_iteF (alike_not (k := 58) (filt_tn (a := a) (b := b) hn) (by omega) (by omega) (B_call (B_two (B_var rfl) (B_var rfl)) (C_iso (resL_two (S.thin hn) tn) (classes_let hn S) (thin_res (filt_tn (a := a) (b := b) hn).th))) (B_bi1 (B_var rfl) rfl)) S_nil
  obtain ⟨f9, f12, f13, s6, t6, q6, g6, b6⟩ := z6_ok (st := s3) (e0 := e0) (e2 := e2) (e3 := e3) (e4 := e4) (e9 := e9) (e10 := e10) (e11 := e11) (e12 := e12) (e13 := e13) (e14 := e14) (e15 := e15) (e16 := e16) (e17 := e17) (e18 := e18) (e19 := e19) (e20 := e20) hn S g3 b3
  obtain ⟨x, hx, t7, q7, b7⟩ := some_ok (P := PP) (lim := 100) (k := 57) (f := 18) (g := 17) (l := 0) (things := every n) p_some p_take g6 b6 (every_ne n hn) (by have := (every_all n hn).1; omega)
  obtain ⟨r, hr, rfl⟩ := every_row hx
  have g7 : (s6.set 0 (Cell.lst t7))[0]? = some (.lst t7) := set_get g6
  have sE : evS (cfAt PP 100 59) z7 (EN e0 e2 e3 e4 (some (.tup n)) (some (.lst (every n))) (some (say a b d)) (some (.lst ((every n).filter (letP n a b)))) f9 e10 e11 f12 f13 e14 e15 e16 e17 e18 e19 e20) s6 = .ok .nx (EN e0 e2 e3 e4 (some (.tup n)) (some (.lst (every n))) (some (say a b d)) (some (.lst ((every n).filter (letP n a b)))) (some (rowT r)) e10 e11 f12 f13 e14 e15 e16 e17 e18 e19 e20) (s6.set 0 (.lst t7)) :=
    S_set (B_call (B_two (B_var rfl) (B_var rfl)) (C_own q7)) rfl
  generalize s6.set 0 (Cell.lst t7) = s7 at sE g7
  obtain ⟨f10, f14, q8⟩ := z8_ok (st := s7) (e0 := e0) (e2 := e2) (e3 := e3) (e4 := e4) (e7 := some (say a b d)) (e8 := some (.lst ((every n).filter (letP n a b)))) (e10 := e10) (e11 := e11) (e12 := f12) (e13 := f13) (e14 := e14) (e15 := e15) (e16 := e16) (e17 := e17) (e18 := e18) (e19 := e19) (e20 := e20) hn hr
  obtain ⟨o, ho, t9, q9, b9⟩ := some_ok (P := PP) (lim := 100) (k := 57) (f := 18) (g := 17) (l := 0) (things := odds) p_some p_take g7 b7 (by simp [odds]) (by simp [odds])
  have g9 : (s7.set 0 (Cell.lst t9))[0]? = some (.lst t9) := set_get g7
  have sF : evS (cfAt PP 100 59) z9 (EN e0 e2 e3 e4 (some (.tup n)) (some (.lst (every n))) (some (say a b d)) (some (.lst ((every n).filter (letP n a b)))) (some (rowT r)) f10 e11 f12 f13 f14 e15 e16 e17 e18 e19 e20) s7 = .ok .nx (EN e0 e2 e3 e4 (some (.tup n)) (some (.lst (every n))) (some (say a b d)) (some (.lst ((every n).filter (letP n a b)))) (some (rowT r)) f10 (some o) f12 f13 f14 e15 e16 e17 e18 e19 e20) (s7.set 0 (.lst t9)) :=
    S_set (B_call (B_two (B_var rfl) odds_ev) (C_own q9)) rfl
  generalize s7.set 0 (Cell.lst t9) = s9 at sF g9
  obtain ⟨f4, s16, t16, qh, gh, bh⟩ := heard_all (st := s9) (e0 := e0) (e2 := e2) (e3 := e3) (e4 := e4) (e6 := some (.lst (every n))) (e8 := some (.lst ((every n).filter (letP n a b)))) (e10 := f10) (e12 := f12) (e13 := f13) (e14 := f14) (e15 := e15) (e16 := e16) (e17 := e17) (e18 := e18) (e19 := e19) (e20 := e20) hn S hr ho g9 b9
  exact ⟨_, _, _, _, _, _, _, _, _, _, _, _, _, _, _, _, _, _, S_cons s0 (S_cons s1 (S_cons sA (S_cons sB (S_cons sC (S_cons sD (S_cons q6 (S_cons sE (S_cons q8 (S_cons sF qh))))))))), t16, gh, bh⟩
/-! ### the end -/
def nineL : List T := [.str "n0", .str "n1", .str "n2", .str "n3", .str "n4", .str "n5", .str "n6", .str "n7", .str "n8"]
def N2 : T := .tup [.str "too large", .str "names", .int 8]
def exT (r : Res T) : Bool := match r with
  | .exc x _ => decide (x.cls = 2) && decide (x.fs = [.str "names", .int 8])
  | _ => false
theorem exT_of {r : Res T} (h : exT r = true) : ∃ st, r = .exc ⟨2, [.str "names", .int 8]⟩ st := by
  cases r with
  | exc x st =>
    obtain ⟨cl, fs⟩ := x
    simp only [exT, Bool.and_eq_true, decide_eq_true_eq] at h
    obtain ⟨h1, h2⟩ := h
    subst h1 h2
    exact ⟨st, rfl⟩
  | _ => cases h
theorem nine_facts : exT (callAt PP 100 57 9 [.tup nineL, .tup []] []) = true ∧ exT (callAt PP 100 57 8 [.tup nineL] []) = true ∧ thin (.tup nineL) = true ∧ thinL [T.str "names", .int 8] = true ∧ thin (.lst [N2, N2]) = true ∧ dep (.lst [N2, N2]) ≤ 64 := by decide +kernel
theorem isT2 {f : Nat} {args : List T} (h : exT (callAt PP 100 57 f args []) = true) (ht : thinL args = true) : callE (cfAt PP 100 59).dn f true args st = .exc ⟨2, [.str "names", .int 8]⟩ st := by
  obtain ⟨s, e⟩ := exT_of h
  exact C_isoXf (v := ⟨2, [.str "names", .int 8]⟩) (thinL_res ht) (by rw [dnCf]; exact e) (thinL_res nine_facts.2.2.2.1)
theorem hear_t {u : E} {st' : Store} (h : evE (cfAt PP 100 59).dn u env st = .exc ⟨2, [.str "names", .int 8]⟩ st') : evE (cfAt PP 100 59) (.hear HK u) env st = .ok N2 st' := by
  refine B_hear top59 ?_
  rw [h]
  rfl
theorem nine_ok : evE c (.bi .tuple [.comp true (.bin .add (.lit (.str "n")) (.bi .str [.var 15])) (.name 15) .rng1 [.lit (.int 9)] [] [15]]) (EN e0 e2 e3 e4 e5 e6 e7 e8 e9 e10 e11 e12 e13 e14 e15 e16 e17 e18 e19 e20) st = .ok (.tup nineL) st := by kernel_rfl
theorem rest_ok : ∃ env2 st2, evSs (cfAt PP 100 59) restB (EN e0 e2 e3 e4 e5 e6 e7 e8 e9 e10 e11 e12 e13 e14 e15 e16 e17 e18 e19 e20) st = .ok (.rt (.bl true)) env2 st2 := by
  obtain ⟨n1, n2, n3, _, n5, n6⟩ := nine_facts
  exact ⟨_, _, S_cons (S_set nine_ok rfl) (S_cons (S_set (B_lstF (B_one (hear_t (B_call (B_two (B_var rfl) (B_tup B_nil)) (isT2 n1 (thin_cons n3 rfl)))))) rfl)
    (S_cons (app_ok (ts := [N2]) rfl (hear_t (B_call (B_one (B_var rfl)) (isT2 n2 (thin_cons n3 rfl)))) (by decide))
    (S_stop (S_ret (B_cmp (B_var rfl) (B_bin (B_lstT (B_one (B_tup (B_cons B_lit (B_two B_lit B_lit))))) B_lit (show binE .mul (.lst [N2]) (.int 2) _ = .ok (.lst [N2, N2]) _ from rfl)) (same_eq (us := [N2, N2]) last_get n5 n6))))))⟩
end
theorem law_k21 (ns : List Int) (hn : ns.length ≤ 63) : ∃ st, callAt PP 100 60 30 [.scr ns] [] = .ok (.bl true) st := by
  obtain ⟨ts, q1, b1⟩ := bag_ok (P := PP) (lim := 100) (k := 58) (f := 16) (ns := ns) (st := []) p_bag
  obtain ⟨env2, st2, q2, f2, f4, f5, f6, f7, f8, f9, f10, f11, f12, f13, f14, f15, f16, f17, f18, f19, f20, rfl, _⟩ := forL_inv (body := fun env st => evSs (cfAt PP 100 59) lapB env st) (g := .name 2) (w := { items := (List.range 5).map fun i => .int (0 + (i : Nat)) }) (k := .rng1) rfl
    (fun env st => ∃ f2 f4 f5 f6 f7 f8 f9 f10 f11 f12 f13 f14 f15 f16 f17 f18 f19 f20, env = EN (some (.scr ns)) f2 none f4 f5 f6 f7 f8 f9 f10 f11 f12 f13 f14 f15 f16 f17 f18 f19 f20 ∧ ∃ ts, st[0]? = some (.lst ts) ∧ Bag ts)
    (fun x env st _ hi => by
      obtain ⟨f2, f4, f5, f6, f7, f8, f9, f10, f11, f12, f13, f14, f15, f16, f17, f18, f19, f20, rfl, ts, hl, hB⟩ := hi
      obtain ⟨g4, g5, g6, g7, g8, g9, g10, g11, g12, g13, g14, g15, g16, g17, g18, g19, g20, st', q, ts', hl', hB'⟩ := lap_ok (st := st) (e0 := some (.scr ns)) (e2 := some x) (e3 := none) (e4 := f4) (e5 := f5) (e6 := f6) (e7 := f7) (e8 := f8) (e9 := f9) (e10 := f10) (e11 := f11) (e12 := f12) (e13 := f13) (e14 := f14) (e15 := f15) (e16 := f16) (e17 := f17) (e18 := f18) (e19 := f19) (e20 := f20) hl hB
      exact ⟨_, _, _, rfl, q, _, _, _, _, _, _, _, _, _, _, _, _, _, _, _, _, _, _, rfl, ts', hl', hB'⟩)
    ((List.range 5).map fun i => .int (0 + (i : Nat))) (EN (some (.scr ns)) none none none none none none none none none none none none none none none none none none none) [.lst ts] (fun x hx => hx) ⟨none, none, none, none, none, none, none, none, none, none, none, none, none, none, none, none, none, none, rfl, ts, rfl, b1⟩
  obtain ⟨env3, st3, q3⟩ := rest_ok (st := st2) (e0 := some (.scr ns)) (e2 := f2) (e3 := none) (e4 := f4) (e5 := f5) (e6 := f6) (e7 := f7) (e8 := f8) (e9 := f9) (e10 := f10) (e11 := f11) (e12 := f12) (e13 := f13) (e14 := f14) (e15 := f15) (e16 := f16) (e17 := f17) (e18 := f18) (e19 := f19) (e20 := f20)
  exact ⟨st3, C_rt (P := PP) (n := 59) law_body rfl (S_cons (S_set (B_call (B_one (B_var rfl)) (C_own q1)) rfl) (S_cons (S_for (B_one B_lit) rfl q2) q3))⟩
end Lw
open PySem PySem.W PyProof.Rows
set_option Elab.async false
set_option maxRecDepth 100000
set_option maxHeartbeats 0 in
theorem PySem.Challenge.cw_listworlds_k21_whole_classes_of_names_holds : PySem.Challenge.rw_listworlds_k21_whole_classes_of_names.Holds := by
  w_on; o_law; km_head; (case hw => w_witness2)
  k_fill
  refine Lw.walk_law (l := PySem.Challenge.rw_listworlds_k21_whole_classes_of_names) (n := 63) (k := 60) (lim := 100) (L := 30) (D := Lw.DD) (B := Lw.BB) (xs := Lw.XX) (cn := Lw.CN) (HS := Lw.HH) (LM := Lw.LM) (d := Lw.d30) (x := "script") rfl (by decide) rfl ⟨rfl, by decide, by decide⟩ rfl rfl (by decide +kernel) (fun w h Y => PySem.W.km_in_of Y) (fun w h Y p hp => PySem.W.km_tabs_of Y p.2.2 ?T) (fun mg h X p hp => nomatch hp) ?F Lw.chk_k21 Lw.law_k21
  case T =>
    simp only [Lw.LM, List.mem_cons, List.not_mem_nil, or_false] at hp
    rcases hp with rfl | rfl <;> decide
  case F =>
    intro w
    refine' ⟨[21, 82, 89, 94, 101, 106, 111, 116, 121, 126, 133, 140, 145, 150, 157, 162, 167, 174, 181, 188, 193, 200, 205, 212, 217, 224, 231, 236, 243, 248, 260], [38, 51, 72], [255], ?hD, ?hB, ?hX, ?hM, ?hC, ?hH, ?hL, ?hU⟩
    case hL =>
      refine' ⟨⟨Lw.lf_mk ?ln0 ?ll0 ?lc0, ?ld0, ?lp0⟩, ?lr0⟩
      (case ln0 => k_is); (case ll0 => k_is); (case lc0 => rfl); (case ld0 => kernel_rfl); (case lp0 => kernel_rfl)
      refine' ⟨⟨Lw.lf_mk ?ln1 ?ll1 ?lc1, ?ld1, ?lp1⟩, ?lr1⟩
      (case ln1 => k_is); (case ll1 => k_is); (case lc1 => rfl); (case ld1 => kernel_rfl); (case lp1 => kernel_rfl)
      trivial
    case hU =>
      refine' ⟨trivial, ?ur0⟩
      refine' ⟨trivial, ?ur1⟩
      refine' ⟨Lw.sup_mk (C := 72) (fI := 69) (cc := 57) (cda := 68) (sf := "self") ?uq2 ?uhd2 ?usa2 ?uex2 ?uty2 ?ukc2 ?uga2 ?ugg2 ?uve2 ?usl2 ?usu2 ?utp2 ?uns2 ?ufa2 ?ufb2 ?uic2 ?uti2 ?ulk2 ?ucd2 ?ulc2 ?uvs2 ?ufi2 ?ucc2 ?uhb2 ?us12 ?us22 ?us32 ?us42 ?us52 ?us62 ?us72 ?us82 ?us92 ?uhp2 ?uha2 ?ubd2 ?uds2 ?uht2, ?ur2⟩
      case uq2 => kx_is
      case uhd2 => k_is
      case usa2 => k_is
      case uex2 => k_is
      case uty2 => k_is
      case ukc2 => k_is
      case uga2 => k_is
      case ugg2 => k_is
      case uve2 => k_is
      case usl2 => k_is
      case usu2 => kernel_rfl
      case utp2 => k_is
      case uns2 => k_is
      case ufa2 => k_is
      case ufb2 => k_is
      case uic2 => k_is
      case uti2 => k_is
      case ulk2 => k_is
      case ucd2 => k_is
      case ulc2 => k_is
      case uvs2 => rfl
      case ufi2 => kernel_rfl
      case ucc2 => k_is
      case uhb2 => decide +kernel
      case us12 => decide +kernel
      case us22 => decide +kernel
      case us32 => decide +kernel
      case us42 => decide +kernel
      case us52 => decide +kernel
      case us62 => rfl
      case us72 => rfl
      case us82 => rfl
      case us92 => decide
      case uhp2 => rfl
      case uha2 => rfl
      case ubd2 => exact fun u v w => rfl
      case uds2 => decide +kernel
      case uht2 => decide +kernel
      trivial
    case hX =>
      refine' ⟨⟨?xn0, ?xr0⟩, ?xt0⟩
      case xn0 => k_is
      case xr0 => exact fun z => absurd z (by decide)
      refine' ⟨⟨?xn1, ?xr1⟩, ?xt1⟩
      case xn1 => k_is
      case xr1 =>
        refine' fun _ => ⟨?xk1, ?xs1, ?xu1, ?xe1⟩
        (case xk1 => k_is); (case xs1 => k_is); (case xu1 => k_is); (case xe1 => k_exc)
      refine' ⟨⟨?xn2, ?xr2⟩, ?xt2⟩
      case xn2 => k_is
      case xr2 => exact fun z => absurd z (by decide)
      trivial
    case hM =>
      refine' ⟨⟨?m0_0, ?m0_1, ?m0_2, trivial⟩, ?mr0⟩
      case m0_0 => kernel_rfl
      case m0_1 => kernel_rfl
      case m0_2 => kernel_rfl
      refine' ⟨⟨?m1_0, ?m1_1, ?m1_2, trivial⟩, ?mr1⟩
      case m1_0 => kernel_rfl
      case m1_1 => kernel_rfl
      case m1_2 => kernel_rfl
      refine' ⟨⟨?m2_0, ?m2_1, ?m2_2, trivial⟩, ?mr2⟩
      case m2_0 => kernel_rfl
      case m2_1 => kernel_rfl
      case m2_2 => kernel_rfl
      trivial
    case hC =>
      refine' ⟨Lw.cf_mk (v := L2.V.str "abcdefghijklmnopqrstuvwxyz") ?cn0 ?cq0 (fun at_ ρ H => rfl), ?cr0⟩
      case cn0 => k_is
      case cq0 => exact ⟨_, rfl⟩
      refine' ⟨Lw.cf_mk (v := L2.V.str "0123456789") ?cn1 ?cq1 (fun at_ ρ H => rfl), ?cr1⟩
      case cn1 => k_is
      case cq1 => exact ⟨_, rfl⟩
      refine' ⟨Lw.cf_mk (v := L2.V.int 8) ?cn2 ?cq2 (fun at_ ρ H => rfl), ?cr2⟩
      case cn2 => k_is
      case cq2 => exact ⟨_, rfl⟩
      refine' ⟨Lw.cf_mk (u := .ref 75) (v := .ref 75) ?cn3 rfl (Lw.cp_mk (vs := [L2.V.str "and", L2.V.str "apart", L2.V.str "cell", L2.V.str "else", L2.V.str "free", L2.V.str "holds", L2.V.str "if", L2.V.str "is", L2.V.str "list", L2.V.str "new", L2.V.str "next", L2.V.str "none", L2.V.str "not", L2.V.str "of", L2.V.str "or", L2.V.str "row", L2.V.str "same", L2.V.str "step", L2.V.str "then", L2.V.str "to", L2.V.str "unlike", L2.V.str "while", L2.V.str "with", L2.V.str "world"]) ?cl3 ?cs3 ?cv3 ?cp3), ?cr3⟩
      case cn3 => k_is
      case cl3 => k_is
      case cs3 => exact Lw.size_le (by decide)
      case cv3 => exact (.cons ⟨_, rfl⟩ (.cons ⟨_, rfl⟩ (.cons ⟨_, rfl⟩ (.cons ⟨_, rfl⟩ (.cons ⟨_, rfl⟩ (.cons ⟨_, rfl⟩ (.cons ⟨_, rfl⟩ (.cons ⟨_, rfl⟩ (.cons ⟨_, rfl⟩ (.cons ⟨_, rfl⟩ (.cons ⟨_, rfl⟩ (.cons ⟨_, rfl⟩ (.cons ⟨_, rfl⟩ (.cons ⟨_, rfl⟩ (.cons ⟨_, rfl⟩ (.cons ⟨_, rfl⟩ (.cons ⟨_, rfl⟩ (.cons ⟨_, rfl⟩ (.cons ⟨_, rfl⟩ (.cons ⟨_, rfl⟩ (.cons ⟨_, rfl⟩ (.cons ⟨_, rfl⟩ (.cons ⟨_, rfl⟩ (.cons ⟨_, rfl⟩ .nil))))))))))))))))))))))))
      case cp3 => exact fun at_ ρ H => ⟨_, _, rfl, rfl, ⟨_, _, rfl, rfl, ⟨_, _, rfl, rfl, ⟨_, _, rfl, rfl, ⟨_, _, rfl, rfl, ⟨_, _, rfl, rfl, ⟨_, _, rfl, rfl, ⟨_, _, rfl, rfl, ⟨_, _, rfl, rfl, ⟨_, _, rfl, rfl, ⟨_, _, rfl, rfl, ⟨_, _, rfl, rfl, ⟨_, _, rfl, rfl, ⟨_, _, rfl, rfl, ⟨_, _, rfl, rfl, ⟨_, _, rfl, rfl, ⟨_, _, rfl, rfl, ⟨_, _, rfl, rfl, ⟨_, _, rfl, rfl, ⟨_, _, rfl, rfl, ⟨_, _, rfl, rfl, ⟨_, _, rfl, rfl, ⟨_, _, rfl, rfl, ⟨_, _, rfl, rfl, rfl⟩⟩⟩⟩⟩⟩⟩⟩⟩⟩⟩⟩⟩⟩⟩⟩⟩⟩⟩⟩⟩⟩⟩⟩
      refine' ⟨Lw.cf_mk (v := L2.V.int 8) ?cn4 ?cq4 (fun at_ ρ H => rfl), ?cr4⟩
      case cn4 => k_is
      case cq4 => exact ⟨_, rfl⟩
      trivial
    case hB =>
      refine' ⟨?b0, ?br0⟩
      case b0 => k_is
      refine' ⟨?b1, ?br1⟩
      case b1 => k_is
      refine' ⟨?b2, ?br2⟩
      case b2 => k_is
      refine' ⟨?b3, ?br3⟩
      case b3 => k_is
      refine' ⟨?b4, ?br4⟩
      case b4 => k_is
      refine' ⟨?b5, ?br5⟩
      case b5 => k_is
      refine' ⟨?b6, ?br6⟩
      case b6 => k_is
      refine' ⟨?b7, ?br7⟩
      case b7 => k_is
      refine' ⟨?b8, ?br8⟩
      case b8 => k_is
      refine' ⟨?b9, ?br9⟩
      case b9 => k_is
      refine' ⟨?b10, ?br10⟩
      case b10 => k_is
      refine' ⟨?b11, ?br11⟩
      case b11 => k_is
      refine' ⟨?b12, ?br12⟩
      case b12 => k_is
      refine' ⟨?b13, ?br13⟩
      case b13 => k_is
      refine' ⟨?b14, ?br14⟩
      case b14 => k_is
      trivial
    case hH =>
      refine' ⟨⟨?hn0, _, L2.fun_mk ?hl0 ?hk0 ?hp0⟩, ?hr0⟩
      (case hn0 => k_is); (case hl0 => k_is); (case hk0 => k_is); (case hp0 => k_is)
      trivial
    case hD =>
      refine' ⟨⟨?dn0, _, L2.fun_mk ?dl0 ?dk0 ?dp0⟩, ?dr0⟩
      (case dn0 => k_is); (case dl0 => k_is); (case dk0 => k_is); (case dp0 => k_is)
      refine' ⟨⟨?dn1, _, L2.fun_mk ?dl1 ?dk1 ?dp1⟩, ?dr1⟩
      (case dn1 => k_is); (case dl1 => k_is); (case dk1 => k_is); (case dp1 => k_is)
      refine' ⟨⟨?dn2, _, L2.fun_mk ?dl2 ?dk2 ?dp2⟩, ?dr2⟩
      (case dn2 => k_is); (case dl2 => k_is); (case dk2 => k_is); (case dp2 => k_is)
      refine' ⟨⟨?dn3, _, L2.fun_mk ?dl3 ?dk3 ?dp3⟩, ?dr3⟩
      (case dn3 => k_is); (case dl3 => k_is); (case dk3 => k_is); (case dp3 => k_is)
      refine' ⟨⟨?dn4, _, L2.fun_mk ?dl4 ?dk4 ?dp4⟩, ?dr4⟩
      (case dn4 => k_is); (case dl4 => k_is); (case dk4 => k_is); (case dp4 => k_is)
      refine' ⟨⟨?dn5, _, L2.fun_mk ?dl5 ?dk5 ?dp5⟩, ?dr5⟩
      (case dn5 => k_is); (case dl5 => k_is); (case dk5 => k_is); (case dp5 => k_is)
      refine' ⟨⟨?dn6, _, L2.fun_mk ?dl6 ?dk6 ?dp6⟩, ?dr6⟩
      (case dn6 => k_is); (case dl6 => k_is); (case dk6 => k_is); (case dp6 => k_is)
      refine' ⟨⟨?dn7, _, L2.fun_mk ?dl7 ?dk7 ?dp7⟩, ?dr7⟩
      (case dn7 => k_is); (case dl7 => k_is); (case dk7 => k_is); (case dp7 => k_is)
      refine' ⟨⟨?dn8, _, L2.fun_mk ?dl8 ?dk8 ?dp8⟩, ?dr8⟩
      (case dn8 => k_is); (case dl8 => k_is); (case dk8 => k_is); (case dp8 => k_is)
      refine' ⟨⟨?dn9, _, L2.fun_mk ?dl9 ?dk9 ?dp9⟩, ?dr9⟩
      (case dn9 => k_is); (case dl9 => k_is); (case dk9 => k_is); (case dp9 => k_is)
      refine' ⟨⟨?dn10, _, L2.fun_mk ?dl10 ?dk10 ?dp10⟩, ?dr10⟩
      (case dn10 => k_is); (case dl10 => k_is); (case dk10 => k_is); (case dp10 => k_is)
      refine' ⟨⟨?dn11, _, L2.fun_mk ?dl11 ?dk11 ?dp11⟩, ?dr11⟩
      (case dn11 => k_is); (case dl11 => k_is); (case dk11 => k_is); (case dp11 => k_is)
      refine' ⟨⟨?dn12, _, L2.fun_mk ?dl12 ?dk12 ?dp12⟩, ?dr12⟩
      (case dn12 => k_is); (case dl12 => k_is); (case dk12 => k_is); (case dp12 => k_is)
      refine' ⟨⟨?dn13, _, L2.fun_mk ?dl13 ?dk13 ?dp13⟩, ?dr13⟩
      (case dn13 => k_is); (case dl13 => k_is); (case dk13 => k_is); (case dp13 => k_is)
      refine' ⟨⟨?dn14, _, L2.fun_mk ?dl14 ?dk14 ?dp14⟩, ?dr14⟩
      (case dn14 => k_is); (case dl14 => k_is); (case dk14 => k_is); (case dp14 => k_is)
      refine' ⟨⟨?dn15, _, L2.fun_mk ?dl15 ?dk15 ?dp15⟩, ?dr15⟩
      (case dn15 => k_is); (case dl15 => k_is); (case dk15 => k_is); (case dp15 => k_is)
      refine' ⟨⟨?dn16, _, L2.fun_mk ?dl16 ?dk16 ?dp16⟩, ?dr16⟩
      (case dn16 => k_is); (case dl16 => k_is); (case dk16 => k_is); (case dp16 => k_is)
      refine' ⟨⟨?dn17, _, L2.fun_mk ?dl17 ?dk17 ?dp17⟩, ?dr17⟩
      (case dn17 => k_is); (case dl17 => k_is); (case dk17 => k_is); (case dp17 => k_is)
      refine' ⟨⟨?dn18, _, L2.fun_mk ?dl18 ?dk18 ?dp18⟩, ?dr18⟩
      (case dn18 => k_is); (case dl18 => k_is); (case dk18 => k_is); (case dp18 => k_is)
      refine' ⟨⟨?dn19, _, L2.fun_mk ?dl19 ?dk19 ?dp19⟩, ?dr19⟩
      (case dn19 => k_is); (case dl19 => k_is); (case dk19 => k_is); (case dp19 => k_is)
      refine' ⟨⟨?dn20, _, L2.fun_mk ?dl20 ?dk20 ?dp20⟩, ?dr20⟩
      (case dn20 => k_is); (case dl20 => k_is); (case dk20 => k_is); (case dp20 => k_is)
      refine' ⟨⟨?dn21, _, L2.fun_mk ?dl21 ?dk21 ?dp21⟩, ?dr21⟩
      (case dn21 => k_is); (case dl21 => k_is); (case dk21 => k_is); (case dp21 => k_is)
      refine' ⟨⟨?dn22, _, L2.fun_mk ?dl22 ?dk22 ?dp22⟩, ?dr22⟩
      (case dn22 => k_is); (case dl22 => k_is); (case dk22 => k_is); (case dp22 => k_is)
      refine' ⟨⟨?dn23, _, L2.fun_mk ?dl23 ?dk23 ?dp23⟩, ?dr23⟩
      (case dn23 => k_is); (case dl23 => k_is); (case dk23 => k_is); (case dp23 => k_is)
      refine' ⟨⟨?dn24, _, L2.fun_mk ?dl24 ?dk24 ?dp24⟩, ?dr24⟩
      (case dn24 => k_is); (case dl24 => k_is); (case dk24 => k_is); (case dp24 => k_is)
      refine' ⟨⟨?dn25, _, L2.fun_mk ?dl25 ?dk25 ?dp25⟩, ?dr25⟩
      (case dn25 => k_is); (case dl25 => k_is); (case dk25 => k_is); (case dp25 => k_is)
      refine' ⟨⟨?dn26, _, L2.fun_mk ?dl26 ?dk26 ?dp26⟩, ?dr26⟩
      (case dn26 => k_is); (case dl26 => k_is); (case dk26 => k_is); (case dp26 => k_is)
      refine' ⟨⟨?dn27, _, L2.fun_mk ?dl27 ?dk27 ?dp27⟩, ?dr27⟩
      (case dn27 => k_is); (case dl27 => k_is); (case dk27 => k_is); (case dp27 => k_is)
      refine' ⟨⟨?dn28, _, L2.fun_mk ?dl28 ?dk28 ?dp28⟩, ?dr28⟩
      (case dn28 => k_is); (case dl28 => k_is); (case dk28 => k_is); (case dp28 => k_is)
      refine' ⟨⟨?dn29, _, L2.fun_mk ?dl29 ?dk29 ?dp29⟩, ?dr29⟩
      (case dn29 => k_is); (case dl29 => k_is); (case dk29 => k_is); (case dp29 => k_is)
      refine' ⟨⟨?dn30, _, L2.fun_mk ?dl30 ?dk30 ?dp30⟩, ?dr30⟩
      (case dn30 => k_is); (case dl30 => k_is); (case dk30 => k_is); (case dp30 => k_is)
      trivial
