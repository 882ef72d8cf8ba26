import PyProof.Rows.All
import Wide.All
import OpenK.AllK
import Wide.FinOn
import HandS.ForMost
import HandS.TupAny
import HandS.Text
import HandS.Exc
import HandS.TupLe
import HandS.Wide
import HandS.Flow
import HandS.Deep
import HandS.IsInst
import HandS.HeadHook1
import HandS.List
import HandS.Dict
import HandS.DeepEq
import HandS.Call
import HandS.Comp
import HandS.Iter
import HandS.Defaults
import HandS.HeadEnd
import KE.KStateDown
import Lean
import HandS.Base
import HandS.Ends
import HandS.More
import HandS.Words
import HandS.WordsExc
import HandS.Head0
import HandS.Head1
import HandS.Head2
import HandS.HeadHook2
import PySem.Challenge.RW_safeturn_k01_terms
set_option Elab.async false
set_option linter.all false
set_option maxRecDepth 100000
set_option maxHeartbeats 0
/-! Sf, part 1: trees, the small language, its evaluator. No heap in sight. -/
namespace Sf
open PySem

/-- a value, as a tree -/
inductive T where
  | non | bl (b : Bool) | int (i : Int) | str (s : Str) | tup (xs : List T) | lst (xs : List T) | ro (xs : List T)
/-- what a slot may own -/
inductive M where
  | lst (xs : List T) | dct (kvs : List (Str × T))
inductive Slot where
  | un | val (t : T) | own (o : M) | bor (o : M)
/-- what an expression gives: a tree, a new object, or the object of a slot -/
inductive R where
  | val (t : T) | own (o : M) | slot (i : Nat)
inductive Exc where
  | plain (c : Str) | clash (a b : T)
inductive Res (α : Type) where
  | ok (a : α) | exc (x : Exc) | bad
inductive Arg where
  | val (t : T) | io (o : M)

def Res.bind {α β : Type} : Res α → (α → Res β) → Res β
  | .ok a, f => f a
  | .exc x, _ => .exc x
  | .bad, _ => .bad
@[simp] theorem Res.bind_ok {α β : Type} (a : α) (f : α → Res β) : (Res.ok a).bind f = f a := rfl
@[simp] theorem Res.bind_exc {α β : Type} (x : Exc) (f : α → Res β) : (Res.exc x : Res α).bind f = .exc x := rfl
@[simp] theorem Res.bind_bad {α β : Type} (f : α → Res β) : (Res.bad : Res α).bind f = .bad := rfl
def Res.of {α : Type} : Option α → Res α
  | some a => .ok a
  | none => .bad
@[simp] theorem Res.of_some {α : Type} (a : α) : Res.of (some a) = .ok a := rfl
@[simp] theorem Res.of_none {α : Type} : Res.of (none : Option α) = .bad := rfl

abbrev Ev := List Slot
def get : Ev → Nat → Slot
  | [], _ => .un
  | s :: _, 0 => s
  | _ :: r, n + 1 => get r n
@[simp] theorem get_nil (n : Nat) : get [] n = .un := rfl
@[simp] theorem get_zero (s : Slot) (r : Ev) : get (s :: r) 0 = s := rfl
@[simp] theorem get_succ (s : Slot) (r : Ev) (n : Nat) : get (s :: r) (n + 1) = get r n := rfl
def put : Ev → Nat → Slot → Ev
  | [], _, _ => []
  | _ :: r, 0, t => t :: r
  | s :: r, n + 1, t => s :: put r n t
@[simp] theorem put_nil (n : Nat) (t : Slot) : put [] n t = [] := rfl
@[simp] theorem put_zero (s t : Slot) (r : Ev) : put (s :: r) 0 t = t :: r := rfl
@[simp] theorem put_succ (s t : Slot) (r : Ev) (n : Nat) : put (s :: r) (n + 1) t = s :: put r n t := rfl

/-- a result read as a tree -/
def asT (env : Ev) : R → Option T
  | .val t => some t
  | .own (.lst xs) => some (.lst xs)
  | .own (.dct _) => none
  | .slot i => match get env i with
    | .val t => some t
    | .own (.lst xs) => some (.lst xs)
    | .bor (.lst xs) => some (.lst xs)
    | _ => none
/-- .. and kept as one: an owned list is frozen -/
def frz : R → Ev → Res (T × Ev)
  | .val t, env => .ok (t, env)
  | .own (.lst xs), env => .ok (.lst xs, env)
  | .own (.dct _), _ => .bad
  | .slot i, env => match get env i with
    | .val t => .ok (t, env)
    | .own (.lst xs) => .ok (.lst xs, put env i (.val (.lst xs)))
    | _ => .bad
/-- a dict that a slot holds -/
def dctAt (env : Ev) (i : Nat) : Option (List (Str × T)) := match get env i with
  | .own (.dct kvs) => some kvs
  | .bor (.dct kvs) => some kvs
  | _ => none
def lstAt (env : Ev) (i : Nat) : Option (List T) := match get env i with
  | .own (.lst xs) => some xs
  | .bor (.lst xs) => some xs
  | _ => none
def setM (env : Ev) (i : Nat) (o : M) : Ev := match get env i with
  | .own _ => put env i (.own o)
  | .bor _ => put env i (.bor o)
  | _ => env

/-! ### operations on trees -/
mutual
def T.py : T → PyData
  | .non => .none
  | .bl b => .bool b
  | .int i => .int i
  | .str s => .str s
  | .tup xs => .tuple (T.pyAll xs)
  | .lst xs => .list (T.pyAll xs)
  | .ro xs => .list (T.pyAll xs)
def T.pyAll : List T → List PyData
  | [] => []
  | x :: xs => T.py x :: T.pyAll xs
end
def lim : Nat := 16000000
inductive Bop where | add | sub | mul | fdiv | mod | pow
inductive Cop where | eq | ne | lt | le | gt | ge | isin | notin | isN | notN
inductive Bi where | len | list | tuple | sorted | sset | int | all
inductive Ty where | int | bool | str | list | tuple

def T.scal : T → Option L2.V
  | .non => some .non
  | .bl b => some (.bl b)
  | .int i => some (.int i)
  | .str s => some (.str s)
  | _ => none
/-- == -/
def eqT (a b : T) : Option Bool := match a.scal, b.scal with
  | some x, some y => if L2.scal x y = true then some (decide (x = y)) else none
  | _, _ => if SeqAt.shaped a.py = true ∧ SeqAt.shaped b.py = true then some (PyData.eqv a.py b.py) else none
def asFlats : List T → Option (List L2.V)
  | [] => some []
  | x :: xs => match x.scal, asFlats xs with
    | some v, some vs => some (v :: vs)
    | _, _ => none
/-- x in y: flat items, or one sign in a text -/
def inT (x y : T) : Option Bool := match y with
  | .str z => match x with
    | .str y => match y.cps.toList with
      | [c] => some (decide (c ∈ z.cps.toList))
      | _ => none
    | _ => none
  | .tup ys => match x.scal, asFlats ys with
    | some v, some vs => some (L2.inV v vs)
    | _, _ => none
  | .lst ys => match x.scal, asFlats ys with
    | some v, some vs => some (L2.inV v vs)
    | _, _ => none
  | _ => none
def asInts : List T → Option (List Int)
  | [] => some []
  | .int i :: xs => match asInts xs with
    | some is => some (i :: is)
    | none => none
  | _ :: _ => none
/-- tuples of asInts, by their first unlike items -/
def lexLe : List Int → List Int → Bool
  | [], _ => true
  | _ :: _, [] => false
  | x :: xs, y :: ys => if x = y then lexLe xs ys else decide (x < y)
def isNon : T → Bool
  | .non => true
  | _ => false
def cmpT (op : Cop) (a b : T) : Option Bool := match op with
  | .eq => eqT a b
  | .ne => (eqT a b).map (!·)
  | .isin => inT a b
  | .notin => (inT a b).map (!·)
  | .isN => match b with
    | .non => some (isNon a)
    | _ => none
  | .notN => match b with
    | .non => some (!isNon a)
    | _ => none
  | .lt => match a, b with
    | .int i, .int j => some (decide (i < j))
    | _, _ => none
  | .le => match a, b with
    | .int i, .int j => some (decide (i ≤ j))
    | _, _ => none
  | .gt => match a, b with
    | .int i, .int j => some (decide (j < i))
    | .tup xs, .tup ys => match asInts xs, asInts ys with
      | some is, some js => some (!lexLe is js)
      | _, _ => none
    | _, _ => none
  | .ge => match a, b with
    | .int i, .int j => some (decide (j ≤ i))
    | .tup xs, .tup ys => match asInts xs, asInts ys with
      | some is, some js => some (lexLe js is)
      | _, _ => none
    | _, _ => none
def mulOk (i j : Int) : Bool := decide (i.natAbs < 2 ^ 64) || decide (j.natAbs < 2 ^ 64)
def binT (op : Bop) (a b : T) : Option R := match op with
  | .add => match a, b with
    | .int i, .int j => some (.val (.int (i + j)))
    | .str x, .str y => if x.length + y.length ≤ lim then some (.val (.str (x ++ y))) else none
    | .tup xs, .tup ys => if xs.length + ys.length ≤ lim then some (.val (.tup (xs ++ ys))) else none
    | .lst xs, .lst ys => if xs.length + ys.length ≤ lim then some (.own (.lst (xs ++ ys))) else none
    | _, _ => none
  | .sub => match a, b with
    | .int i, .int j => some (.val (.int (i - j)))
    | _, _ => none
  | .mul => match a, b with
    | .int i, .int j => if mulOk i j = true then some (.val (.int (i * j))) else none
    | .str x, .int j => if 1 ≤ j ∧ j ≤ 1000 ∧ x.length ≤ 1000 then some (.val (.str ⟨(List.replicate j.toNat x.cps.toList).flatten.toArray⟩)) else none
    | _, _ => none
  | .fdiv => match a, b with
    | .int i, .int j => if 0 < j ∧ j < 2 ^ 200 then some (.val (.int (i / j))) else none
    | _, _ => none
  | .mod => match a, b with
    | .int i, .int j => if 0 < j then some (.val (.int (i % j))) else none
    | _, _ => none
  | .pow => match a, b with
    | .int i, .int j => if 0 ≤ j ∧ j ≤ 1000 ∧ i.natAbs < 2 ^ 64 then some (.val (.int (i ^ j.toNat))) else none
    | _, _ => none
def idxT (a b : T) : Option T := match b with
  | .int i => match a with
    | .tup xs => L2.atI xs i
    | .lst xs => L2.atI xs i
    | .ro xs => L2.atI xs i
    | .str z => if z.length ≤ lim then (L2.atI z.cps.toList i).map fun c => .str ⟨#[c]⟩ else none
    | _ => none
  | _ => none
def cut {α : Type} (xs : List α) (lo hi : Option Int) : List α := (xs.drop (HT.sIx xs.length 0 lo)).take (HT.sIx xs.length xs.length hi - HT.sIx xs.length 0 lo)
def slcT (a : T) (lo hi : Option Int) : Option R := match a with
  | .tup xs => some (.val (.tup (cut xs lo hi)))
  | .lst xs => some (.own (.lst (cut xs lo hi)))
  | .str z => if z.length ≤ lim then some (.val (.str (L2.cutS z lo hi))) else none
  | _ => none
def truT : T → Option Bool
  | .bl b => some b
  | .lst xs => some (!xs.isEmpty)
  | _ => none
def asStrs : List T → Option (List Str)
  | [] => some []
  | .str x :: xs => match asStrs xs with
    | some ys => some (x :: ys)
    | none => none
  | _ :: _ => none
/-- texts in order -/
def leS (x y : Str) : Bool := !decide (y.cps.toList < x.cps.toList)
def dedup : List Str → List Str
  | [] => []
  | x :: xs => if x ∈ xs then dedup xs else x :: dedup xs
def sortS (xs : List Str) : List Str := xs.mergeSort leS
def asBools : List T → Option (List Bool)
  | [] => some []
  | .bl b :: xs => match asBools xs with
    | some bs => some (b :: bs)
    | none => none
  | _ :: _ => none
def biT (b : Bi) (a : T) : Option R := match b with
  | .len => match a with
    | .tup xs => some (.val (.int xs.length))
    | .lst xs => some (.val (.int xs.length))
    | .ro xs => some (.val (.int xs.length))
    | .str z => if z.length ≤ lim then some (.val (.int z.length)) else none
    | _ => none
  | .list => match a with
    | .tup xs => some (.own (.lst xs))
    | .lst xs => some (.own (.lst xs))
    | _ => none
  | .tuple => match a with
    | .tup xs => some (.val (.tup xs))
    | .lst xs => some (.val (.tup xs))
    | _ => none
  | .sorted => match a with
    | .lst xs => match asStrs xs with
      | some ys => if ys.length < 64 then some (.own (.lst ((sortS ys).map T.str))) else none
      | none => none
    | _ => none
  | .sset => match a with
    | .lst xs => match asStrs xs with
      | some ys => if (dedup ys).length < 64 then some (.own (.lst ((sortS (dedup ys)).map T.str))) else none
      | none => none
    | _ => none
  | .int => match a with
    | .bl b => some (.val (.int (if b then 1 else 0)))
    | _ => none
  | .all => match a with
    | .lst xs => match asBools xs with
      | some bs => some (.val (.bl (bs.all id)))
      | none => none
    | _ => none
def isTy (t : Ty) : T → Bool
  | .non => false
  | .bl _ => match t with | .bool => true | .int => true | _ => false
  | .int _ => match t with | .int => true | _ => false
  | .str _ => match t with | .str => true | _ => false
  | .tup _ => match t with | .tuple => true | _ => false
  | .lst _ => match t with | .list => true | _ => false
  | .ro _ => match t with | .list => true | _ => false
def look (kvs : List (Str × T)) (k : Str) : Option T := kvs.lookup k
def store (kvs : List (Str × T)) (k : Str) (v : T) : List (Str × T) :=
  if (kvs.any fun kv => decide (kv.1 = k)) = true then kvs.map (fun kv => if kv.1 = k then (kv.1, v) else kv) else kvs ++ [(k, v)]
mutual
def T.beq : T → T → Bool
  | .non, .non => true
  | .bl a, .bl b => a == b
  | .int a, .int b => a == b
  | .str a, .str b => a == b
  | .tup a, .tup b => T.beqs a b
  | .lst a, .lst b => T.beqs a b
  | .ro a, .ro b => T.beqs a b
  | _, _ => false
def T.beqs : List T → List T → Bool
  | [], [] => true
  | x :: xs, y :: ys => T.beq x y && T.beqs xs ys
  | _, _ => false
end
mutual
theorem T.beq_eq : ∀ {a b : T}, T.beq a b = true → a = b
  | .non, b, h => by cases b <;> simp [T.beq] at h <;> rfl
  | .bl _, b, h => by cases b <;> simp [T.beq] at h <;> simp [h]
  | .int _, b, h => by cases b <;> simp [T.beq] at h <;> simp [h]
  | .str _, b, h => by cases b <;> simp [T.beq] at h <;> simp [h]
  | .tup xs, b, h => by cases b <;> simp [T.beq] at h <;> simp [T.beqs_eq h]
  | .lst xs, b, h => by cases b <;> simp [T.beq] at h <;> simp [T.beqs_eq h]
  | .ro xs, b, h => by cases b <;> simp [T.beq] at h <;> simp [T.beqs_eq h]
theorem T.beqs_eq : ∀ {a b : List T}, T.beqs a b = true → a = b
  | [], b, h => by cases b <;> simp [T.beqs] at h <;> rfl
  | x :: xs, b, h => by
    cases b with
    | nil => simp [T.beqs] at h
    | cons y ys =>
      simp only [T.beqs, Bool.and_eq_true] at h
      rw [T.beq_eq h.1, T.beqs_eq h.2]
end
mutual
theorem T.beq_refl : ∀ a : T, T.beq a a = true
  | .non => by simp [T.beq]
  | .bl _ => by simp [T.beq]
  | .int _ => by simp [T.beq]
  | .str _ => by simp [T.beq]
  | .tup xs => by simp [T.beq, T.beqs_refl xs]
  | .lst xs => by simp [T.beq, T.beqs_refl xs]
  | .ro xs => by simp [T.beq, T.beqs_refl xs]
theorem T.beqs_refl : ∀ a : List T, T.beqs a a = true
  | [] => by simp [T.beqs]
  | x :: xs => by simp [T.beqs, T.beq_refl x, T.beqs_refl xs]
end

/-- two dicts of flat values, the same pairs in the same order, each key once -/
def eqKv (kvs kws : List (Str × T)) : Bool := T.beqs (kvs.map (·.2)) (kws.map (·.2)) && decide (kvs.map (·.1) = kws.map (·.1)) && decide (kvs.map (·.1)).Nodup && kvs.all fun p => p.2.scal.isSome
/-! ### the language -/
mutual
inductive E where
  | nm (i : Nat)
  | lit (t : T)
  | tup (es : Es)
  | lst (es : Es)
  | bin (op : Bop) (a b : E)
  | neg (a : E)
  | nots (a : E)
  | and (a b : E)
  | or (a b : E)
  | cmp (op : Cop) (a b : E)
  | chain (o1 o2 : Cop) (a b c : E)
  | ife (c a b : E)
  | idx (a b : E)
  | slc (a : E) (lo hi : Oe)
  | call (f : Nat) (as : As)
  | bi (b : Bi) (a : E)
  | max (a b : E)
  | min (a b : E)
  | isin (a : E) (ty : Ty)
  | getd (i : Nat) (k d : E)
  | dsub (i : Nat) (k : E)
  | comp (elt : E) (tg : List Nat) (it : It) (cond : Oe)
  | dnil
  | dlit (k v : E)
  | dcopy (i : Nat)
  | deq (neg : Bool) (i j : Nat)
  | index (a b : E)
inductive Es where
  | nil | cons (e : E) (es : Es)
inductive As where
  | nil | val (e : E) (as : As) | io (i : Nat) (as : As)
inductive Oe where
  | none | some (e : E)
inductive It where
  | seq (e : E) | rng (e : E) | rng2 (a b : E) | enum (e : E) | zip (a b : E)
end
mutual
inductive S where
  | set (i : Nat) (e : E)
  | unp (is : List Nat) (e : E)
  | sto (i : Nat) (k v : E)
  | aug (i : Nat) (e : E)
  | app (i : Nat) (e : E)
  | ext (i : Nat) (e : E)
  | ex (e : E)
  | ite (c : E) (a b : Ss)
  | loop (tg : List Nat) (it : It) (body : Ss)
  | ret (e : E)
  | raise (c : Str)
  | clash (a b : E)
  | tryN (body h : Ss)
inductive Ss where
  | nil | cons (s : S) (ss : Ss)
end
structure Fn where
  /-- the parameters: which are handed in to be changed -/
  io : List Bool
  /-- how many slots -/
  ns : Nat
  body : Ss

/-! ### the evaluator -/
abbrev Call := Nat → List Arg → Res (R × List Arg)
/-- the items that a walk goes over, and the slot that must stay as it is meanwhile -/
structure Walk where
  items : List T
  guard : Option (Nat × List T)
def Walk.still (w : Walk) (env : Ev) : Bool := match w.guard with
  | none => true
  | some (i, xs) => match get env i with
    | .bor (.lst ys) => T.beqs xs ys
    | _ => false
/-- the slot that a walk goes over is neither stored nor handed on meanwhile -/
def lock (w : Walk) (env : Ev) : Ev := match w.guard with
  | none => env
  | some (i, _) => match get env i with
    | .own o => put env i (.bor o)
    | _ => env
def unlock (w : Walk) (env0 env : Ev) : Ev := match w.guard with
  | none => env
  | some (i, _) => match get env0 i with
    | .own _ => match get env i with
      | .bor o => put env i (.own o)
      | _ => env
    | _ => env
/-- over a result -/
def walkOf (env : Ev) (r : R) : Option Walk := match r with
  | .val (.tup xs) => some ⟨xs, none⟩
  | .val (.lst xs) => some ⟨xs, none⟩
  | .val (.str z) => some ⟨z.cps.toList.map fun c => .str ⟨#[c]⟩, none⟩
  | .own (.lst xs) => some ⟨xs, none⟩
  | .slot i => match get env i with
    | .own (.lst xs) => some ⟨xs, some (i, xs)⟩
    | .bor (.lst xs) => some ⟨xs, some (i, xs)⟩
    | _ => none
  | _ => none
def small (j : Int) : Bool := decide (-(2 ^ 62) ≤ j) && decide (j < 2 ^ 62)
def rangeT (lo hi : Int) : List T := (List.range (hi - lo).toNat).map fun (k : Nat) => T.int (lo + (k : Int))
def enumT : Nat → List T → List T
  | _, [] => []
  | n, x :: xs => .tup [.int n, x] :: enumT (n + 1) xs
def zipT : List T → List T → List T
  | x :: xs, y :: ys => .tup [x, y] :: zipT xs ys
  | _, _ => []
/-- the targets of a turn: one name, or several for a tuple's items -/
def bindAll : List Nat → List T → Ev → Res Ev
  | [], [], env => .ok env
  | i :: is, t :: ts, env => match get env i with
    | .bor _ => .bad
    | _ => bindAll is ts (put env i (.val t))
  | _, _, _ => .bad
def bindT (tg : List Nat) (t : T) (env : Ev) : Res Ev := match tg with
  | [i] => bindAll [i] [t] env
  | _ => match t with
    | .tup ts => bindAll tg ts env
    | _ => .bad
/-- the slots of a comprehension's own names: nothing owned there -/
def free1 (env : Ev) (i : Nat) : Bool := match get env i with
  | .un => true
  | .val _ => true
  | _ => false
def wipeE (env : Ev) : List Nat → Ev
  | [] => env
  | i :: is => put (wipeE env is) i .un
/-- back: the own names' slots as they were -/
def backE (env0 env : Ev) : List Nat → Ev
  | [] => env
  | i :: is => put (backE env0 env is) i (get env0 i)
/-- a comprehension's turns: step gives the tree of an item that is kept -/
def compLoop (w : Walk) (step : T → Ev → Res (Option T × Ev)) : List T → List T → Ev → Res (List T × Ev)
  | [], acc, env => if w.still env = true then .ok (acc, env) else .bad
  | t :: ts, acc, env => if w.still env = true then
      (step t env).bind fun (o, env') => match o with
        | some x => if acc.length < lim then compLoop w step ts (acc ++ [x]) env' else .bad
        | none => compLoop w step ts acc env'
    else .bad
def isUn : Slot → Bool
  | .un => true
  | _ => false
/-- no exception out of a comprehension -/
def Res.calm {α : Type} : Res α → Res α
  | .ok a => .ok a
  | _ => .bad
/-- the handed-in objects come back -/
def wb : As → List Arg → Ev → Res Ev
  | .nil, [], env => .ok env
  | .val _ as, .val _ :: xs, env => wb as xs env
  | .io i as, .io o :: xs, env => wb as xs (setM env i o)
  | _, _, _ => .bad

mutual
def evE (call : Call) : E → Ev → Res (R × Ev)
  | .nm i, env => match get env i with
    | .un => .bad
    | .val t => .ok (.val t, env)
    | _ => .ok (.slot i, env)
  | .lit t, env => .ok (.val t, env)
  | .tup es, env => (evEs call es env).bind fun (ts, env) => if ts.length ≤ lim then .ok (.val (.tup ts), env) else .bad
  | .lst es, env => (evEs call es env).bind fun (ts, env) => if ts.length ≤ lim then .ok (.own (.lst ts), env) else .bad
  | .bin op a b, env => (evE call a env).bind fun (r, env) => (evE call b env).bind fun (q, env) =>
      (Res.of (asT env r)).bind fun x => (Res.of (asT env q)).bind fun y => (Res.of (binT op x y)).bind fun z => .ok (z, env)
  | .neg a, env => (evE call a env).bind fun (r, env) => match r with
    | .val (.int i) => .ok (.val (.int (-i)), env)
    | _ => .bad
  | .nots a, env => (evE call a env).bind fun (r, env) => (Res.of (asT env r)).bind fun x => (Res.of (truT x)).bind fun b => .ok (.val (.bl (!b)), env)
  | .and a b, env => (evE call a env).bind fun (r, env) => match r with
    | .val (.bl true) => evE call b env
    | .val (.bl false) => .ok (.val (.bl false), env)
    | _ => .bad
  | .or a b, env => (evE call a env).bind fun (r, env) => match r with
    | .val (.bl false) => evE call b env
    | .val (.bl true) => .ok (.val (.bl true), env)
    | _ => .bad
  | .cmp op a b, env => (evE call a env).bind fun (r, env) => (evE call b env).bind fun (q, env) =>
      (Res.of (asT env r)).bind fun x => (Res.of (asT env q)).bind fun y => (Res.of (cmpT op x y)).bind fun z => .ok (.val (.bl z), env)
  | .chain o1 o2 a b c, env => (evE call a env).bind fun (r, env) => (evE call b env).bind fun (q, env) => match r, q with
    | .val x, .val y => (Res.of (cmpT o1 x y)).bind fun z => if z = true then
        (evE call c env).bind fun (p, env) => match p with
          | .val u => (Res.of (cmpT o2 y u)).bind fun z => .ok (.val (.bl z), env)
          | _ => .bad
      else .ok (.val (.bl false), env)
    | _, _ => .bad
  | .ife c a b, env => (evT call c env).bind fun (k, env) => if k = true then evE call a env else evE call b env
  | .idx a b, env => (evE call a env).bind fun (r, env) => (evE call b env).bind fun (q, env) =>
      (Res.of (asT env r)).bind fun x => (Res.of (asT env q)).bind fun y => (Res.of (idxT x y)).bind fun z => .ok (.val z, env)
  | .slc a lo hi, env => (evE call a env).bind fun (r, env) => (evO call lo env).bind fun (l, env) => (evO call hi env).bind fun (h, env) =>
      (Res.of (asT env r)).bind fun x => (Res.of (slcT x l h)).bind fun z => .ok (z, env)
  | .call f as, env => (evAs call as env).bind fun (args, env) => (call f args).bind fun (r, args') => (wb as args' env).bind fun env => .ok (r, env)
  | .bi b a, env => (evE call a env).bind fun (r, env) => (Res.of (asT env r)).bind fun x => (Res.of (biT b x)).bind fun z => .ok (z, env)
  | .max a b, env => (evE call a env).bind fun (r, env) => (evE call b env).bind fun (q, env) => match r, q with
    | .val (.int i), .val (.int j) => .ok (.val (.int (if j > i then j else i)), env)
    | _, _ => .bad
  | .min a b, env => (evE call a env).bind fun (r, env) => (evE call b env).bind fun (q, env) => match r, q with
    | .val (.int i), .val (.int j) => .ok (.val (.int (if j < i then j else i)), env)
    | _, _ => .bad
  | .isin a ty, env => (evE call a env).bind fun (r, env) => (Res.of (asT env r)).bind fun x => .ok (.val (.bl (isTy ty x)), env)
  | .getd i k d, env => (Res.of (dctAt env i)).bind fun _ => (evE call k env).bind fun (r, env) => (evE call d env).bind fun (q, env) => match r, q with
    | .val (.str k), .val t => (Res.of (dctAt env i)).bind fun kvs => .ok (.val ((look kvs k).getD t), env)
    | _, _ => .bad
  | .dsub i k, env => (Res.of (dctAt env i)).bind fun _ => (evE call k env).bind fun (r, env) => match r with
    | .val (.str k) => (Res.of (dctAt env i)).bind fun kvs => (Res.of (look kvs k)).bind fun t => .ok (.val t, env)
    | _ => .bad
  | .comp elt tg it cond, env => (evI call it env).bind fun (w, env1) => if tg.all (free1 env1) = true then
        ((compLoop w (fun t e => (bindT tg t e).bind fun e => (evC call cond e).bind fun (k, e) => if k = true then (evE call elt e).bind fun (r, e) => (frz r e).bind fun (x, e) => .ok (some x, wipeE e tg) else .ok (none, wipeE e tg)) w.items [] (wipeE (lock w env1) tg)).calm).bind
          fun (acc, env2) => .ok (.own (.lst acc), unlock w env1 (backE env1 env2 tg))
      else .bad
  | .dnil, env => .ok (.own (.dct []), env)
  | .dlit k v, env => (evE call k env).bind fun (r, env) => (evE call v env).bind fun (q, env) => match r, q with
    | .val (.str k), .val t => .ok (.own (.dct [(k, t)]), env)
    | _, _ => .bad
  | .dcopy i, env => (Res.of (dctAt env i)).bind fun kvs => .ok (.own (.dct kvs), env)
  | .deq neg i j, env => (Res.of (dctAt env i)).bind fun kvs => (Res.of (dctAt env j)).bind fun kws => if eqKv kvs kws = true then .ok (.val (.bl (!neg)), env) else .bad
  | .index a b, env => (evE call a env).bind fun (r, env) => (evE call b env).bind fun (q, env) => match q with
    | .val y => (Res.of (asT env r)).bind fun x => match x, y with
      | .lst xs, .str z => match asStrs xs with
        | some ys => if z ∈ ys then .ok (.val (.int (ys.idxOf z)), env) else .bad
        | none => .bad
      | _, _ => .bad
    | _ => .bad
/-- a test -/
def evT (call : Call) : E → Ev → Res (Bool × Ev)
  | .and a b, env => (evT call a env).bind fun (k, env) => if k = true then evT call b env else .ok (false, env)
  | .or a b, env => (evT call a env).bind fun (k, env) => if k = true then .ok (true, env) else evT call b env
  | .nots a, env => (evT call a env).bind fun (k, env) => .ok (!k, env)
  | .cmp op a b, env => (evE call a env).bind fun (r, env) => (evE call b env).bind fun (q, env) =>
      (Res.of (asT env r)).bind fun x => (Res.of (asT env q)).bind fun y => (Res.of (cmpT op x y)).bind fun z => .ok (z, env)
  | .chain o1 o2 a b c, env => (evE call a env).bind fun (r, env) => (evE call b env).bind fun (q, env) => match r, q with
    | .val x, .val y => (Res.of (cmpT o1 x y)).bind fun z => if z = true then
        (evE call c env).bind fun (p, env) => match p with
          | .val u => (Res.of (cmpT o2 y u)).bind fun z => .ok (z, env)
          | _ => .bad
      else .ok (false, env)
    | _, _ => .bad
  | .nm i, env => match get env i with
    | .val (.bl b) => .ok (b, env)
    | _ => .bad
  | .call f as, env => (evAs call as env).bind fun (args, env) => (call f args).bind fun (r, args') => (wb as args' env).bind fun env => match r with
    | .val (.bl b) => .ok (b, env)
    | _ => .bad
  | .bi b a, env => (evE call a env).bind fun (r, env) => (Res.of (asT env r)).bind fun x => (Res.of (biT b x)).bind fun z => match z with
    | .val (.bl b) => .ok (b, env)
    | _ => .bad
  | .isin a ty, env => (evE call a env).bind fun (r, env) => (Res.of (asT env r)).bind fun x => .ok (isTy ty x, env)
  | .idx a b, env => (evE call a env).bind fun (r, env) => (evE call b env).bind fun (q, env) =>
      (Res.of (asT env r)).bind fun x => (Res.of (asT env q)).bind fun y => (Res.of (idxT x y)).bind fun z => match z with
        | .bl b => .ok (b, env)
        | _ => .bad
  | .deq neg i j, env => (Res.of (dctAt env i)).bind fun kvs => (Res.of (dctAt env j)).bind fun kws => if eqKv kvs kws = true then .ok (!neg, env) else .bad
  | _, _ => .bad
def evEs (call : Call) : Es → Ev → Res (List T × Ev)
  | .nil, env => .ok ([], env)
  | .cons e es, env => (evE call e env).bind fun (r, env) => (frz r env).bind fun (t, env) => (evEs call es env).bind fun (ts, env) => .ok (t :: ts, env)
def evAs (call : Call) : As → Ev → Res (List Arg × Ev)
  | .nil, env => .ok ([], env)
  | .val e as, env => (evE call e env).bind fun (r, env) => (frz r env).bind fun (t, env) => (evAs call as env).bind fun (ts, env) => .ok (.val t :: ts, env)
  | .io i as, env => if isUn (get env i) = true then .bad else (evAs call as env).bind fun (ts, env) => match get env i with
    | .own o => .ok (.io o :: ts, env)
    | .bor o => .ok (.io o :: ts, env)
    | _ => .bad
def evC (call : Call) : Oe → Ev → Res (Bool × Ev)
  | .none, env => .ok (true, env)
  | .some c, env => evT call c env
def evO (call : Call) : Oe → Ev → Res (Option Int × Ev)
  | .none, env => .ok (none, env)
  | .some e, env => (evE call e env).bind fun (r, env) => match r with
    | .val (.int i) => .ok (some i, env)
    | _ => .bad
def evI (call : Call) : It → Ev → Res (Walk × Ev)
  | .seq e, env => (evE call e env).bind fun (r, env) => (Res.of (walkOf env r)).bind fun w => .ok (w, env)
  | .rng e, env => (evE call e env).bind fun (r, env) => match r with
    | .val (.int j) => if small j = true then .ok (⟨rangeT 0 j, none⟩, env) else .bad
    | _ => .bad
  | .rng2 a b, env => (evE call a env).bind fun (r, env) => (evE call b env).bind fun (q, env) => match r, q with
    | .val (.int i), .val (.int j) => if small i = true ∧ small j = true then .ok (⟨rangeT i j, none⟩, env) else .bad
    | _, _ => .bad
  | .enum e, env => (evE call e env).bind fun (r, env) => match r with
    | .val (.tup xs) => .ok (⟨enumT 0 xs, none⟩, env)
    | _ => .bad
  | .zip a b, env => (evE call a env).bind fun (r, env) => (evE call b env).bind fun (q, env) => match r, q with
    | .val (.tup xs), .val (.lst ys) => .ok (⟨zipT xs ys, none⟩, env)
    | _, _ => .bad
end

inductive Fl where
  | nx (env : Ev) | rt (r : R) (env : Ev)
def loopS (w : Walk) (step : T → Ev → Res Fl) : List T → Ev → Res Fl
  | [], env => if w.still env = true then .ok (.nx env) else .bad
  | t :: ts, env => if w.still env = true then
      (step t env).bind fun f => match f with
        | .nx env' => loopS w step ts env'
        | .rt r env' => .ok (.rt r env')
    else .bad
/-- a result that a name takes -/
def setR (env : Ev) (i : Nat) (r : R) : Res Ev := match get env i with
  | .bor _ => .bad
  | _ => match r with
    | .val t => .ok (put env i (.val t))
    | .own o => .ok (put env i (.own o))
    | .slot j => (frz (.slot j) env).bind fun (t, env) => .ok (put env i (.val t))
/-- a result that is handed back -/
def retR (env : Ev) : R → Res (R × Ev)
  | .val t => .ok (.val t, env)
  | .own o => .ok (.own o, env)
  | .slot i => match get env i with
    | .val t => .ok (.val t, env)
    | .own o => .ok (.own o, put env i .un)
    | _ => .bad
mutual
def evS (call : Call) : S → Ev → Res Fl
  | .set i e, env => (evE call e env).bind fun (r, env) => (setR env i r).bind fun env => .ok (.nx env)
  | .unp is e, env => (evE call e env).bind fun (r, env) => match r with
    | .val (.tup ts) => (bindAll is ts env).bind fun env => .ok (.nx env)
    | _ => .bad
  | .sto i k v, env => (evE call v env).bind fun (q, env) => (Res.of (dctAt env i)).bind fun _ => (evE call k env).bind fun (r, env) => match r, q with
    | .val (.str k), .val t => (Res.of (dctAt env i)).bind fun kvs => if kvs.length < lim then .ok (.nx (setM env i (.dct (store kvs k t)))) else .bad
    | _, _ => .bad
  | .aug i e, env => match get env i with
    | .val (.int n) => (evE call e env).bind fun (r, env) => match r with
      | .val (.int j) => .ok (.nx (put env i (.val (.int (n + j)))))
      | _ => .bad
    | _ => .bad
  | .app i e, env => (Res.of (lstAt env i)).bind fun _ => (evE call e env).bind fun (r, env) => (frz r env).bind fun (t, env) => (Res.of (lstAt env i)).bind fun xs => if xs.length < lim then .ok (.nx (setM env i (.lst (xs ++ [t])))) else .bad
  | .ext i e, env => (Res.of (lstAt env i)).bind fun _ => (evE call e env).bind fun (r, env) => (frz r env).bind fun (t, env) => (Res.of (lstAt env i)).bind fun xs => match t with
    | .lst ys => if xs.length + ys.length ≤ lim then .ok (.nx (setM env i (.lst (xs ++ ys)))) else .bad
    | _ => .bad
  | .ex e, env => (evE call e env).bind fun (_, env) => .ok (.nx env)
  | .ite c a b, env => (evT call c env).bind fun (k, env) => if k = true then evSs call a env else evSs call b env
  | .loop tg it body, env => (evI call it env).bind fun (w, env1) => (loopS w (fun t e => (bindT tg t e).bind fun e => evSs call body e) w.items (lock w env1)).bind fun f => match f with
    | .nx env2 => .ok (.nx (unlock w env1 env2))
    | .rt r env2 => .ok (.rt r (unlock w env1 env2))
  | .ret e, env => (evE call e env).bind fun (r, env) => (retR env r).bind fun (r, env) => .ok (.rt r env)
  | .raise c, _ => .exc (.plain c)
  | .clash a b, env => (evE call a env).bind fun (r, env) => (frz r env).bind fun (x, env) => (evE call b env).bind fun (q, env) => (frz q env).bind fun (y, _) => .exc (.clash x y)
  | .tryN body h, env => match evSs call body env with
    | .ok f => .ok f
    | .exc _ => evSs call h []
    | .bad => .bad
def evSs (call : Call) : Ss → Ev → Res Fl
  | .nil, env => .ok (.nx env)
  | .cons s ss, env => (evS call s env).bind fun f => match f with
    | .nx env' => evSs call ss env'
    | .rt r env' => .ok (.rt r env')
end

/-- the arguments handed back -/
def outs : List Bool → Nat → Ev → List Arg → Res (List Arg)
  | [], _, _, [] => .ok []
  | false :: fs, k, env, .val t :: as => (outs fs (k + 1) env as).bind fun xs => .ok (.val t :: xs)
  | true :: fs, k, env, .io _ :: as => match get env k with
    | .bor o => (outs fs (k + 1) env as).bind fun xs => .ok (.io o :: xs)
    | _ => .bad
  | _, _, _, _ => .bad
def initE : List Bool → List Arg → Option Ev
  | [], [] => some []
  | false :: fs, .val t :: as => (initE fs as).map fun e => .val t :: e
  | true :: fs, .io o :: as => (initE fs as).map fun e => .bor o :: e
  | _, _ => none
def runFn (call : Call) (fn : Fn) (args : List Arg) : Res (R × List Arg) := match initE fn.io args with
  | none => .bad
  | some e0 => (evSs call fn.body (e0 ++ List.replicate (fn.ns - fn.io.length) .un)).bind fun f => match f with
    | .nx env => (outs fn.io 0 env args).bind fun xs => .ok (.val .non, xs)
    | .rt r env => match r with
      | .slot _ => .bad
      | r => (outs fn.io 0 env args).bind fun xs => .ok (r, xs)
def callN (F : Nat → Option Fn) : Nat → Call
  | 0, _, _ => .bad
  | n + 1, f, args => match F f with
    | none => .bad
    | some fn => runFn (callN F n) fn args
end Sf

/-! Sf, part 2: how trees stand in the abstract heap; frames. -/
namespace Sf
open PySem L2
abbrev Frag := PySem.W.Frag

/-- Z' holds all that Z holds -/
def Le (Z Z' : Hp) : Prop := ∀ a o, Z a = some o → Z' a = some o
theorem Le.refl (Z : Hp) : Le Z Z := fun _ _ h => h
theorem Le.trans {A B C : Hp} (x : Le A B) (y : Le B C) : Le A C := fun a o h => y a o (x a o h)
theorem Le.new {H : Hp} {p : Addr} {o : HO} (h : H p = none) : Le H (upd H p o) := fun a u e => by
  rw [upd_ne (ne_of_none e h)]
  exact e
theorem le_rd {Z Z' : Hp} (l : Le Z Z') {a : Addr} {u : HO} (h : Rd Z a u) : Rd Z' a u := by
  rcases h with h | ⟨o, h⟩
  · exact .inl (l _ _ h)
  · exact .inr ⟨o, l _ _ h⟩
theorem le_sql {K : Frag} {Z Z' : Hp} (l : Le Z Z') {a : Addr} {xs : List V} (h : SqL K Z a xs) : SqL K Z' a xs := by
  rcases h with h | h
  · exact .inl (le_rd l h)
  · exact .inr h

mutual
/-- v stands for the tree, by what Z keeps -/
def Rep (K : Frag) (Z : Hp) : V → T → Prop
  | v, .non => v = .non
  | v, .bl b => v = .bl b
  | v, .int i => v = .int i
  | v, .str s => v = .str s
  | v, .tup xs => ∃ a vs, v = .ref a ∧ Z a = some (.tup vs) ∧ Reps K Z vs xs
  | v, .lst xs => ∃ a vs, v = .ref a ∧ Z a = some (.lst vs) ∧ Reps K Z vs xs
  | v, .ro xs => ∃ a vs, v = .ref a ∧ SqL K Z a vs ∧ Reps K Z vs xs
def Reps (K : Frag) (Z : Hp) : List V → List T → Prop
  | vs, [] => vs = []
  | vs, x :: xs => ∃ v r, vs = v :: r ∧ Rep K Z v x ∧ Reps K Z r xs
end
section
variable {K : Frag} {Z Z' H H' G : Hp}
mutual
theorem Rep.mono (l : Le Z Z') : ∀ {t : T} {v : V}, Rep K Z v t → Rep K Z' v t
  | .non, _, h => by simp only [Rep] at h ⊢; exact h
  | .bl _, _, h => by simp only [Rep] at h ⊢; exact h
  | .int _, _, h => by simp only [Rep] at h ⊢; exact h
  | .str _, _, h => by simp only [Rep] at h ⊢; exact h
  | .tup xs, _, h => by
    simp only [Rep] at h ⊢
    obtain ⟨a, vs, e, h1, h2⟩ := h
    exact ⟨a, vs, e, l _ _ h1, Reps.mono l h2⟩
  | .lst xs, _, h => by
    simp only [Rep] at h ⊢
    obtain ⟨a, vs, e, h1, h2⟩ := h
    exact ⟨a, vs, e, l _ _ h1, Reps.mono l h2⟩
  | .ro xs, _, h => by
    simp only [Rep] at h ⊢
    obtain ⟨a, vs, e, h1, h2⟩ := h
    exact ⟨a, vs, e, le_sql l h1, Reps.mono l h2⟩
theorem Reps.mono (l : Le Z Z') : ∀ {ts : List T} {vs : List V}, Reps K Z vs ts → Reps K Z' vs ts
  | [], _, h => by simp only [Reps] at h ⊢; exact h
  | x :: xs, _, h => by
    simp only [Reps] at h ⊢
    obtain ⟨v, r, e, h1, h2⟩ := h
    exact ⟨v, r, e, Rep.mono l h1, Reps.mono l h2⟩
end
theorem reps_nil {vs : List V} : Reps K Z vs [] ↔ vs = [] := by simp only [Reps]
theorem reps_cons {vs : List V} {x : T} {xs : List T} : Reps K Z vs (x :: xs) ↔ ∃ v r, vs = v :: r ∧ Rep K Z v x ∧ Reps K Z r xs := by simp only [Reps]
theorem Reps.cons' {v : V} {r : List V} {x : T} {xs : List T} (h : Rep K Z v x) (t : Reps K Z r xs) : Reps K Z (v :: r) (x :: xs) := reps_cons.mpr ⟨v, r, rfl, h, t⟩
theorem Reps.len : ∀ {ts : List T} {vs : List V}, Reps K Z vs ts → vs.length = ts.length
  | [], _, h => by rw [reps_nil.mp h]; rfl
  | x :: xs, _, h => by
    obtain ⟨v, r, e, _, h2⟩ := reps_cons.mp h
    rw [e, List.length_cons, List.length_cons, Reps.len h2]
theorem Reps.app : ∀ {ts us : List T} {vs ws : List V}, Reps K Z vs ts → Reps K Z ws us → Reps K Z (vs ++ ws) (ts ++ us)
  | [], _, _, _, h, k => by rw [reps_nil.mp h]; exact k
  | x :: xs, _, _, _, h, k => by
    obtain ⟨v, r, e, h1, h2⟩ := reps_cons.mp h
    rw [e]
    exact .cons' h1 (Reps.app h2 k)
theorem Reps.get : ∀ {ts : List T} {vs : List V} {i : Nat} {t : T}, Reps K Z vs ts → ts[i]? = some t → ∃ v, vs[i]? = some v ∧ Rep K Z v t
  | [], _, _, _, h, k => by simp at k
  | x :: xs, _, 0, t, h, k => by
    obtain ⟨v, r, e, h1, h2⟩ := reps_cons.mp h
    rw [e]
    simp at k
    rw [← k]
    exact ⟨v, rfl, h1⟩
  | x :: xs, _, i + 1, t, h, k => by
    obtain ⟨v, r, e, h1, h2⟩ := reps_cons.mp h
    rw [e]
    obtain ⟨u, k1, k2⟩ := Reps.get (i := i) h2 (by simpa using k)
    exact ⟨u, by simpa using k1, k2⟩
theorem Reps.at : ∀ {ts : List T} {vs : List V} {i : Nat} {v : V}, Reps K Z vs ts → vs[i]? = some v → ∃ t, ts[i]? = some t ∧ Rep K Z v t := fun {ts vs i v} h k => by
  have hl := h.len
  have hi : i < vs.length := (List.getElem?_eq_some_iff.mp k).1
  obtain ⟨w, k1, k2⟩ := h.get (i := i) (t := ts[i]'(by omega)) (List.getElem?_eq_getElem _)
  rw [k] at k1
  cases k1
  exact ⟨_, List.getElem?_eq_getElem _, k2⟩
theorem Reps.drop : ∀ {ts : List T} {vs : List V} (n : Nat), Reps K Z vs ts → Reps K Z (vs.drop n) (ts.drop n)
  | _, _, 0, h => h
  | [], _, n + 1, h => by rw [reps_nil.mp h]; simp [Reps]
  | x :: xs, _, n + 1, h => by
    obtain ⟨v, r, e, h1, h2⟩ := reps_cons.mp h
    rw [e]
    exact Reps.drop n h2
theorem Reps.take : ∀ {ts : List T} {vs : List V} (n : Nat), Reps K Z vs ts → Reps K Z (vs.take n) (ts.take n)
  | _, _, 0, h => by simp [Reps]
  | [], _, n + 1, h => by rw [reps_nil.mp h]; simp [Reps]
  | x :: xs, _, n + 1, h => by
    obtain ⟨v, r, e, h1, h2⟩ := reps_cons.mp h
    rw [e]
    exact .cons' h1 (Reps.take n h2)
theorem Reps.cut {ts : List T} {vs : List V} (lo hi : Option Int) (h : Reps K Z vs ts) : Reps K Z (cutV vs lo hi) (cut ts lo hi) := by
  unfold cutV Sf.cut
  rw [h.len]
  exact (h.drop _).take _
/-- scalars -/
theorem rep_scal {t : T} {x v : V} (e : t.scal = some x) (h : Rep K Z v t) : v = x := by
  cases t <;> simp only [T.scal] at e <;> first | (cases e; done) | (cases e; simpa only [Rep] using h)
theorem Reps.flats : ∀ {ts : List T} {vs ws : List V}, asFlats ts = some ws → Reps K Z vs ts → vs = ws
  | [], _, _, e, h => by
    rw [reps_nil.mp h]
    simpa [asFlats] using e
  | x :: xs, _, _, e, h => by
    obtain ⟨v, r, rfl, h1, h2⟩ := reps_cons.mp h
    simp only [asFlats] at e
    split at e
    · rename_i w ws' e1 e2
      cases e
      rw [rep_scal e1 h1, Reps.flats e2 h2]
    · cases e
theorem flat_scal {t : T} {x : V} (e : t.scal = some x) : flatV x = true := by
  cases t <;> simp only [T.scal] at e <;> cases e <;> rfl
theorem flats_flat : ∀ {ts : List T} {ws : List V}, asFlats ts = some ws → ws.all flatV = true
  | [], _, e => by
    simp only [asFlats] at e
    cases e
    rfl
  | x :: xs, _, e => by
    simp only [asFlats] at e
    split at e
    · rename_i w ws' e1 e2
      cases e
      rw [List.all_cons, flat_scal e1, flats_flat e2]
      rfl
    · cases e
mutual
theorem Rep.dp (l : Le Z H) : ∀ {t : T} {v : V}, Rep K Z v t → Dp K H v t.py
  | .non, _, h => by simp only [Rep] at h; subst h; exact .non
  | .bl b, _, h => by simp only [Rep] at h; subst h; exact .bl b
  | .int b, _, h => by simp only [Rep] at h; subst h; exact .int b
  | .str b, _, h => by simp only [Rep] at h; subst h; exact .str b
  | .tup xs, _, h => by
    simp only [Rep] at h
    obtain ⟨a, vs, rfl, h1, h2⟩ := h
    simp only [T.py]
    exact .tup (SqT.of (l _ _ h1)) (Reps.dp l h2)
  | .lst xs, _, h => by
    simp only [Rep] at h
    obtain ⟨a, vs, rfl, h1, h2⟩ := h
    simp only [T.py]
    exact .lst (SqL.of (l _ _ h1)) (Reps.dp l h2)
  | .ro xs, _, h => by
    simp only [Rep] at h
    obtain ⟨a, vs, rfl, h1, h2⟩ := h
    simp only [T.py]
    exact .lst (le_sql l h1) (Reps.dp l h2)
theorem Reps.dp (l : Le Z H) : ∀ {ts : List T} {vs : List V}, Reps K Z vs ts → DpAll K H vs (T.pyAll ts)
  | [], _, h => by rw [reps_nil.mp h]; simp only [T.pyAll]; exact .nil
  | x :: xs, _, h => by
    obtain ⟨v, r, rfl, h1, h2⟩ := reps_cons.mp h
    simp only [T.pyAll]
    exact .cons (Rep.dp l h1) (Reps.dp l h2)
end
end

/-- the pairs of a dict -/
def RepKv (K : Frag) (Z : Hp) : List (Key × V) → List (Str × T) → Prop
  | ps, [] => ps = []
  | ps, x :: xs => ∃ v r, ps = (Sum.inr x.1, v) :: r ∧ Rep K Z v x.2 ∧ RepKv K Z r xs
theorem RepKv.mono {K : Frag} {Z Z' : Hp} (l : Le Z Z') : ∀ {kvs : List (Str × T)} {ps : List (Key × V)}, RepKv K Z ps kvs → RepKv K Z' ps kvs
  | [], _, h => h
  | x :: xs, _, h => by
    obtain ⟨v, r, e, h1, h2⟩ := h
    exact ⟨v, r, e, h1.mono l, RepKv.mono l h2⟩
theorem RepKv.len {K : Frag} {Z : Hp} : ∀ {kvs : List (Str × T)} {ps : List (Key × V)}, RepKv K Z ps kvs → ps.length = kvs.length
  | [], _, h => by rw [show _ = _ from h]; rfl
  | x :: xs, _, h => by
    obtain ⟨v, r, rfl, h1, h2⟩ := h
    rw [List.length_cons, List.length_cons, RepKv.len h2]
/-- an owned object -/
def RepM (K : Frag) (Z H : Hp) (a : Addr) : M → Prop
  | .lst xs => ∃ vs, H a = some (.lst vs) ∧ Reps K Z vs xs
  | .dct kvs => ∃ ps, H a = some (.dK ps) ∧ RepKv K Z ps kvs
theorem RepM.mono {K : Frag} {Z Z' H H' : Hp} {a : Addr} {o : M} (l : Le Z Z') (e : H' a = H a) (h : RepM K Z H a o) : RepM K Z' H' a o := by
  cases o with
  | lst xs =>
    obtain ⟨vs, h1, h2⟩ := h
    exact ⟨vs, e.trans h1, h2.mono l⟩
  | dct kvs =>
    obtain ⟨vs, h1, h2⟩ := h
    exact ⟨vs, e.trans h1, h2.mono l⟩
theorem RepM.some {K : Frag} {Z H : Hp} {a : Addr} {o : M} (h : RepM K Z H a o) : ∃ u, H a = some u := by
  cases o with
  | lst xs => obtain ⟨vs, h1, h2⟩ := h; exact ⟨_, h1⟩
  | dct kvs => obtain ⟨vs, h1, h2⟩ := h; exact ⟨_, h1⟩

/-- what stays through a def's body: the written part, what must be kept, the borrowed objects' places -/
structure Cn where
  K : Frag
  G : Hp
  bo : Nat → Option Addr
def SlotOk (c : Cn) (Z H : Hp) (σ : St) (i : Nat) : Slot → Prop
  | .un => True
  | .val t => ∃ v, σ[i]? = some (some v) ∧ Rep c.K Z v t
  | .own o => ∃ a, σ[i]? = some (some (.ref a)) ∧ Z a = none ∧ c.G a = none ∧ RepM c.K Z H a o
  | .bor o => ∃ a, σ[i]? = some (some (.ref a)) ∧ Z a = none ∧ c.G a = none ∧ RepM c.K Z H a o ∧ c.bo i = some a
def ownS : Slot → Prop
  | .own _ => True
  | .bor _ => True
  | _ => False
structure Frame (c : Cn) (Z H : Hp) (σ : St) (env : Ev) : Prop where
  zh : Le Z H
  gh : Le c.G H
  zg : ∀ a o, c.G a = some o → Z a = none
  sl : ∀ i, SlotOk c Z H σ i (get env i)
  inj : ∀ i j a, ownS (get env i) → ownS (get env j) → σ[i]? = some (some (.ref a)) → σ[j]? = some (some (.ref a)) → i = j
  len : env.length ≤ σ.length
theorem put_length {i : Nat} {s : Slot} : ∀ {env : Ev}, (put env i s).length = env.length := by
  intro env
  induction env generalizing i with
  | nil => rfl
  | cons t r ih =>
    cases i with
    | zero => rfl
    | succ i => show (put r i s).length + 1 = r.length + 1; rw [ih]
theorem get_put_ne : ∀ {env : Ev} {i j : Nat} {s : Slot}, j ≠ i → get (put env i s) j = get env j
  | [], _, _, _, _ => rfl
  | _ :: _, 0, 0, _, h => absurd rfl h
  | _ :: _, 0, _ + 1, _, _ => rfl
  | _ :: _, _ + 1, 0, _, _ => rfl
  | _ :: r, i + 1, j + 1, s, h => get_put_ne (env := r) (fun e => h (by rw [e]))
theorem get_put_eq : ∀ {env : Ev} {i : Nat} {s : Slot}, get (put env i s) i = s ∨ get (put env i s) i = .un
  | [], _, _ => .inr rfl
  | _ :: _, 0, _ => .inl rfl
  | _ :: r, i + 1, s => get_put_eq (env := r)
theorem get_put {env : Ev} {i j : Nat} {s : Slot} : (j = i ∧ (get (put env i s) j = s ∨ get (put env i s) j = .un)) ∨ (j ≠ i ∧ get (put env i s) j = get env j) := by
  by_cases h : j = i
  · subst h
    exact .inl ⟨rfl, get_put_eq⟩
  · exact .inr ⟨h, get_put_ne h⟩
/-- a result: what v is -/
def RepR (c : Cn) (Z H : Hp) (σ : St) (env : Ev) (v : V) : R → Prop
  | .val t => Rep c.K Z v t
  | .own o => ∃ a, v = .ref a ∧ Z a = none ∧ c.G a = none ∧ RepM c.K Z H a o ∧ ∀ i, ownS (get env i) → σ[i]? ≠ some (some (.ref a))
  | .slot i => σ[i]? = some (some v)
/-- a result that is only read: it stays while Z grows -/
def RepP (c : Cn) (Z : Hp) (σ : St) (v : V) : R → Prop
  | .val t => Rep c.K Z v t
  | .own (.lst xs) => Rep c.K Z v (.lst xs)
  | .own (.dct _) => True
  | .slot i => σ[i]? = some (some v)
/-- v may be read as t -/
def Den (K : Frag) (Z H : Hp) (v : V) (t : T) : Prop := Rep K Z v t ∨ ∃ a vs xs, v = .ref a ∧ t = .lst xs ∧ H a = some (.lst vs) ∧ Reps K Z vs xs
section
variable {c : Cn} {Z Z' H H' : Hp} {σ : St} {env : Ev} {v : V} {r : R}
theorem RepP.mono (l : Le Z Z') (h : RepP c Z σ v r) : RepP c Z' σ v r := by
  cases r with
  | val t => exact Rep.mono l h
  | own o =>
    cases o with
    | lst xs => exact Rep.mono (K := c.K) (t := .lst xs) l h
    | dct _ => trivial
  | slot i => exact h
theorem Frame.slot_at {i : Nat} {s : Slot} (f : Frame c Z H σ env) (e : get env i = s) : SlotOk c Z H σ i s := by
  have h := f.sl i
  rw [e] at h
  exact h
theorem RepP.den {t : T} (f : Frame c Z H σ env) (h : RepP c Z σ v r) (e : asT env r = some t) : Den c.K Z H v t := by
  cases r with
  | val u =>
    simp only [asT, Option.some.injEq] at e
    subst e
    exact .inl h
  | own o =>
    cases o with
    | lst xs =>
      simp only [asT, Option.some.injEq] at e
      subst e
      exact .inl h
    | dct _ => simp [asT] at e
  | slot i =>
    have h' : σ[i]? = some (some v) := h
    simp only [asT] at e
    split at e
    · rename_i u q
      cases e
      obtain ⟨w, h1, h2⟩ := f.slot_at q
      rw [h'] at h1
      cases h1
      exact .inl h2
    · rename_i xs q
      cases e
      obtain ⟨a, h1, _, _, vs, h3, h4⟩ := f.slot_at q
      rw [h'] at h1
      cases h1
      exact .inr ⟨a, vs, xs, rfl, rfl, h3, h4⟩
    · rename_i xs q
      cases e
      obtain ⟨a, h1, _, _, ⟨vs, h3, h4⟩, _⟩ := f.slot_at q
      rw [h'] at h1
      cases h1
      exact .inr ⟨a, vs, xs, rfl, rfl, h3, h4⟩
    · cases e
/-- a new object that is kept from now on -/
theorem Frame.keep {a : Addr} {o : HO} (f : Frame c Z H σ env) (hz : Z a = none) (hg : c.G a = none) (hh : H a = some o) (hs : ∀ i, ownS (get env i) → σ[i]? ≠ some (some (.ref a))) : Frame c (upd Z a o) H σ env where
  zh := fun b u e => by
    by_cases q : b = a
    · subst q
      rw [upd_same] at e
      cases e
      exact hh
    · rw [upd_ne q] at e
      exact f.zh b u e
  gh := f.gh
  zg := fun b u e => by
    rw [upd_ne (fun q => by rw [q, hg] at e; cases e)]
    exact f.zg b u e
  sl := fun i => by
    have h := f.sl i
    have hs' := hs i
    cases e : get env i with
    | un => trivial
    | val t =>
      rw [e] at h
      obtain ⟨w, h1, h2⟩ := h
      exact ⟨w, h1, h2.mono (Le.new hz)⟩
    | own m =>
      rw [e] at h hs'
      obtain ⟨b, h1, h2, h3, h4⟩ := h
      have ne : b ≠ a := fun q => hs' trivial (by rw [h1, q])
      exact ⟨b, h1, by rw [upd_ne ne]; exact h2, h3, h4.mono (Le.new hz) rfl⟩
    | bor m =>
      rw [e] at h hs'
      obtain ⟨b, h1, h2, h3, h4, h5⟩ := h
      have ne : b ≠ a := fun q => hs' trivial (by rw [h1, q])
      exact ⟨b, h1, by rw [upd_ne ne]; exact h2, h3, h4.mono (Le.new hz) rfl, h5⟩
  inj := f.inj
  len := f.len
/-- an expression's result, to be read -/
theorem Frame.peek (f : Frame c Z H σ env) (h : RepR c Z H σ env v r) : ∃ Z', Le Z Z' ∧ Frame c Z' H σ env ∧ RepP c Z' σ v r := by
  cases r with
  | val t => exact ⟨Z, Le.refl Z, f, h⟩
  | slot i => exact ⟨Z, Le.refl Z, f, h⟩
  | own o =>
    obtain ⟨a, e, hz, hg, hm, hs⟩ := h
    cases o with
    | dct _ => exact ⟨Z, Le.refl Z, f, trivial⟩
    | lst xs =>
      obtain ⟨vs, h1, h2⟩ := hm
      refine ⟨upd Z a (.lst vs), Le.new hz, f.keep hz hg h1 hs, ?_⟩
      show Rep c.K _ v (.lst xs)
      simp only [Rep]
      exact ⟨a, vs, e, upd_same, h2.mono (Le.new hz)⟩
/-- a slot's list is kept as it is from now on -/
theorem Frame.keepSlot {i : Nat} {xs : List T} (f : Frame c Z H σ env) (e : get env i = .own (.lst xs)) (hv : σ[i]? = some (some v)) : ∃ Z', Le Z Z' ∧ Frame c Z' H σ (put env i (.val (.lst xs))) ∧ Rep c.K Z' v (.lst xs) := by
  obtain ⟨a, h1, hz, hg, vs, hh, hr⟩ := f.slot_at e
  rw [hv] at h1
  cases h1
  have rp : Rep c.K (upd Z a (.lst vs)) (.ref a) (.lst xs) := by
    simp only [Rep]
    exact ⟨a, vs, rfl, upd_same, hr.mono (Le.new hz)⟩
  refine ⟨upd Z a (.lst vs), Le.new hz, ⟨fun b u q => ?_, f.gh, fun b u q => ?_, fun j => ?_, fun j k b h1 h2 => ?_, by rw [put_length]; exact f.len⟩, rp⟩
  · by_cases z : b = a
    · subst z
      rw [upd_same] at q
      cases q
      exact hh
    · rw [upd_ne z] at q
      exact f.zh b u q
  · rw [upd_ne (fun z => by rw [z, hg] at q; cases q)]
    exact f.zg b u q
  · rcases get_put (env := env) (i := i) (j := j) (s := .val (.lst xs)) with ⟨rfl, q | q⟩ | ⟨ne, q⟩
    · rw [q]
      exact ⟨_, hv, rp⟩
    · rw [q]
      trivial
    · rw [q]
      have h := f.sl j
      cases e2 : get env j with
      | un => trivial
      | val t =>
        rw [e2] at h
        obtain ⟨w, h1, h2⟩ := h
        exact ⟨w, h1, h2.mono (Le.new hz)⟩
      | own m =>
        rw [e2] at h
        obtain ⟨b, h1, h2, h3, h4⟩ := h
        have nb : b ≠ a := fun z => ne (f.inj j i a (by rw [e2]; trivial) (by rw [e]; trivial) (by rw [h1, z]) hv)
        exact ⟨b, h1, by rw [upd_ne nb]; exact h2, h3, h4.mono (Le.new hz) rfl⟩
      | bor m =>
        rw [e2] at h
        obtain ⟨b, h1, h2, h3, h4, h5⟩ := h
        have nb : b ≠ a := fun z => ne (f.inj j i a (by rw [e2]; trivial) (by rw [e]; trivial) (by rw [h1, z]) hv)
        exact ⟨b, h1, by rw [upd_ne nb]; exact h2, h3, h4.mono (Le.new hz) rfl, h5⟩
  · have own' : ∀ j, ownS (get (put env i (.val (.lst xs))) j) → ownS (get env j) := fun j h => by
      rcases get_put (env := env) (i := i) (j := j) (s := .val (.lst xs)) with ⟨rfl, q | q⟩ | ⟨ne, q⟩
      · rw [q] at h; exact h.elim
      · rw [q] at h; exact h.elim
      · rw [q] at h; exact h
    exact f.inj j k b (own' j h1) (own' k h2)
theorem Frame.frz {t : T} {env' : Ev} (f : Frame c Z H σ env) (h : RepR c Z H σ env v r) (e : frz r env = .ok (t, env')) : ∃ Z', Le Z Z' ∧ Frame c Z' H σ env' ∧ Rep c.K Z' v t := by
  cases r with
  | val u =>
    simp only [Sf.frz, Res.ok.injEq, Prod.mk.injEq] at e
    obtain ⟨rfl, rfl⟩ := e
    exact ⟨Z, Le.refl Z, f, h⟩
  | own o =>
    cases o with
    | dct _ => simp [Sf.frz] at e
    | lst xs =>
      simp only [Sf.frz, Res.ok.injEq, Prod.mk.injEq] at e
      obtain ⟨rfl, rfl⟩ := e
      obtain ⟨Z', l, f', p⟩ := f.peek h
      exact ⟨Z', l, f', p⟩
  | slot i =>
    have h' : σ[i]? = some (some v) := h
    simp only [Sf.frz] at e
    split at e
    · rename_i u q
      simp only [Res.ok.injEq, Prod.mk.injEq] at e
      obtain ⟨rfl, rfl⟩ := e
      obtain ⟨w, h1, h2⟩ := f.slot_at q
      rw [h'] at h1
      cases h1
      exact ⟨Z, Le.refl Z, f, h2⟩
    · rename_i xs q
      simp only [Res.ok.injEq, Prod.mk.injEq] at e
      obtain ⟨rfl, rfl⟩ := e
      exact f.keepSlot q h'
    · cases e
/-- the heap grew by a new object -/
theorem Frame.alloc {p : Addr} {o : HO} (f : Frame c Z H σ env) (hp : H p = none) : Frame c Z (upd H p o) σ env where
  zh := f.zh.trans (Le.new hp)
  gh := f.gh.trans (Le.new hp)
  zg := f.zg
  sl := fun i => by
    have h := f.sl i
    cases e : get env i with
    | un => trivial
    | val t =>
      rw [e] at h
      exact h
    | own m =>
      rw [e] at h
      obtain ⟨b, h1, h2, h3, h4⟩ := h
      obtain ⟨u, hu⟩ := h4.some
      exact ⟨b, h1, h2, h3, h4.mono (Le.refl Z) (upd_ne (ne_of_none hu hp))⟩
    | bor m =>
      rw [e] at h
      obtain ⟨b, h1, h2, h3, h4, h5⟩ := h
      obtain ⟨u, hu⟩ := h4.some
      exact ⟨b, h1, h2, h3, h4.mono (Le.refl Z) (upd_ne (ne_of_none hu hp)), h5⟩
  inj := f.inj
  len := f.len
theorem Frame.fresh {p : Addr} (f : Frame c Z H σ env) (hp : H p = none) : Z p = none ∧ c.G p = none ∧ ∀ i, ownS (get env i) → σ[i]? ≠ some (some (.ref p)) := by
  refine ⟨?_, ?_, fun i h e => ?_⟩
  · cases q : Z p with
    | none => rfl
    | some o => rw [f.zh p o q] at hp; cases hp
  · cases q : c.G p with
    | none => rfl
    | some o => rw [f.gh p o q] at hp; cases hp
  · have hs := f.sl i
    cases q : get env i with
    | un => rw [q] at h; exact h
    | val t => rw [q] at h; exact h
    | own m =>
      rw [q] at hs
      obtain ⟨b, h1, _, _, h4⟩ := hs
      rw [e] at h1
      cases h1
      obtain ⟨u, hu⟩ := h4.some
      rw [hp] at hu
      cases hu
    | bor m =>
      rw [q] at hs
      obtain ⟨b, h1, _, _, h4, _⟩ := hs
      rw [e] at h1
      cases h1
      obtain ⟨u, hu⟩ := h4.some
      rw [hp] at hu
      cases hu
/-- a new list of an expression -/
theorem Frame.newL {p : Addr} {vs : List V} {xs : List T} (f : Frame c Z H σ env) (hp : H p = none) (hr : Reps c.K Z vs xs) : Frame c Z (upd H p (.lst vs)) σ env ∧ RepR c Z (upd H p (.lst vs)) σ env (.ref p) (.own (.lst xs)) := by
  obtain ⟨h1, h2, h3⟩ := f.fresh hp
  exact ⟨f.alloc hp, p, rfl, h1, h2, ⟨vs, upd_same, hr⟩, h3⟩
/-- a new tuple -/
theorem Frame.newT {p : Addr} {vs : List V} {xs : List T} (f : Frame c Z H σ env) (hp : H p = none) (hr : Reps c.K Z vs xs) : Le Z (upd Z p (.tup vs)) ∧ Frame c (upd Z p (.tup vs)) (upd H p (.tup vs)) σ env ∧ Rep c.K (upd Z p (.tup vs)) (.ref p) (.tup xs) := by
  obtain ⟨h1, h2, h3⟩ := f.fresh hp
  refine ⟨Le.new h1, (f.alloc hp).keep h1 h2 upd_same h3, ?_⟩
  simp only [Rep]
  exact ⟨p, vs, rfl, upd_same, hr.mono (Le.new h1)⟩
end
end Sf

/-! Sf, part 3: the operations by values. -/
namespace Sf
open PySem L2
section
variable {c : Cn} {K : Frag} {Z Z' H H' : Hp} {σ : St} {env : Ev} {v u : V}
/-! ### reading -/
theorem den_non (d : Den K Z H v .non) : v = .non := by
  rcases d with d | ⟨_, _, _, _, e, _⟩
  · simpa only [Rep] using d
  · cases e
theorem den_bl {b : Bool} (d : Den K Z H v (.bl b)) : v = .bl b := by
  rcases d with d | ⟨_, _, _, _, e, _⟩
  · simpa only [Rep] using d
  · cases e
theorem den_int {i : Int} (d : Den K Z H v (.int i)) : v = .int i := by
  rcases d with d | ⟨_, _, _, _, e, _⟩
  · simpa only [Rep] using d
  · cases e
theorem den_str {x : Str} (d : Den K Z H v (.str x)) : v = .str x := by
  rcases d with d | ⟨_, _, _, _, e, _⟩
  · simpa only [Rep] using d
  · cases e
theorem den_tup (l : Le Z H) {xs : List T} (d : Den K Z H v (.tup xs)) : ∃ a vs, v = .ref a ∧ Z a = some (.tup vs) ∧ H a = some (.tup vs) ∧ Reps K Z vs xs := by
  rcases d with d | ⟨_, _, _, _, e, _⟩
  · simp only [Rep] at d
    obtain ⟨a, vs, e, h1, h2⟩ := d
    exact ⟨a, vs, e, h1, l _ _ h1, h2⟩
  · cases e
theorem den_lst (l : Le Z H) {xs : List T} (d : Den K Z H v (.lst xs)) : ∃ a vs, v = .ref a ∧ H a = some (.lst vs) ∧ Reps K Z vs xs := by
  rcases d with d | ⟨a, vs, ys, e, e2, h1, h2⟩
  · simp only [Rep] at d
    obtain ⟨a, vs, e, h1, h2⟩ := d
    exact ⟨a, vs, e, l _ _ h1, h2⟩
  · cases e2
    exact ⟨a, vs, e, h1, h2⟩
theorem den_ro (l : Le Z H) {xs : List T} (d : Den K Z H v (.ro xs)) : ∃ a vs, v = .ref a ∧ SqL K H a vs ∧ Reps K Z vs xs := by
  rcases d with d | ⟨_, _, _, _, e, _⟩
  · simp only [Rep] at d
    obtain ⟨a, vs, e, h1, h2⟩ := d
    exact ⟨a, vs, e, le_sql l h1, h2⟩
  · cases e
theorem den_scal {t : T} {x : V} (e : t.scal = some x) (d : Den K Z H v t) : v = x := by
  rcases d with d | ⟨_, _, _, _, e2, _⟩
  · exact rep_scal e d
  · subst e2
    cases e
theorem den_dp (l : Le Z H) {t : T} (d : Den K Z H v t) : Dp K H v t.py := by
  rcases d with d | ⟨a, vs, xs, rfl, rfl, h1, h2⟩
  · exact d.dp l
  · simp only [T.py]
    exact .lst (SqL.of h1) (h2.dp l)
end

/-! ### two-place operations -/
/-- what an operation on two trees asks -/
def rB (K : Frag) (op : Bop) : R2 := fun x y H Q => ∃ (c : Cn) (Z : Hp) (σ : St) (env : Ev) (t u : T) (r : R), c.K = K ∧ Frame c Z H σ env ∧ Den K Z H x t ∧ Den K Z H y u ∧ binT op t u = some r ∧
  ∀ v Z' H', Le Z Z' → Frame c Z' H' σ env → RepR c Z' H' σ env v r → Q v H'
def bopOf : Operator → Option Bop
  | .Add => some .add
  | .Sub => some .sub
  | .Mult => some .mul
  | .FloorDiv => some .fdiv
  | .Mod => some .mod
  | .Pow => some .pow
  | _ => none
theorem lim_le : lim ≤ sizeLine := by rw [sizeLine_eq]; decide
section
variable {X : Cx}
theorem rep_int {c : Cn} {Z H : Hp} {σ : St} {env : Ev} {i : Int} : RepR c Z H σ env (.int i) (.val (.int i)) := by
  show Rep c.K Z _ _
  simp only [Rep]
theorem rep_str {c : Cn} {Z H : Hp} {σ : St} {env : Ev} {i : Str} : RepR c Z H σ env (.str i) (.val (.str i)) := by
  show Rep c.K Z _ _
  simp only [Rep]
theorem rep_bl {c : Cn} {Z H : Hp} {σ : St} {env : Ev} {i : Bool} : RepR c Z H σ env (.bl i) (.val (.bl i)) := by
  show Rep c.K Z _ _
  simp only [Rep]
theorem opB_add : OpR X (binaryOp .Add) (rB X.K .add) := by
  intro pins s σ H x y v u Q I rx ry h
  obtain ⟨c, Z, σ', env, t, w, r, hK, f, d1, d2, e, q⟩ := h
  rw [← hK] at d1 d2
  cases t <;> cases w <;> simp only [binT] at e <;> try (cases e; done)
  case int.int i j =>
    cases e
    rw [den_int d1] at rx
    rw [den_int d2] at ry
    exact op_add pins s σ H _ _ v u Q I rx ry ⟨i, j, rfl, rfl, q _ Z H (Le.refl Z) f rep_int⟩
  case str.str i j =>
    split at e
    · rename_i hl
      cases e
      rw [den_str d1] at rx
      rw [den_str d2] at ry
      exact op_add_str pins s σ H _ _ v u Q I rx ry ⟨i, j, rfl, rfl, Nat.le_trans hl lim_le, q _ Z H (Le.refl Z) f rep_str⟩
    · cases e
  case tup.tup i j =>
    split at e
    · rename_i hl
      cases e
      obtain ⟨a, vs, rfl, hz, ha, ra⟩ := den_tup f.zh d1
      obtain ⟨b, ws, rfl, hz2, hb, rb⟩ := den_tup f.zh d2
      refine op_catA pins s σ H _ _ v u Q I rx ry ⟨a, b, vs, ws, rfl, rfl, ?_, ?_, ?_, fun e => ?_, fun _ e => ?_, fun _ _ p hp => ?_⟩
      · exact SqT.of ha
      · exact SqT.of hb
      · rw [ra.len, rb.len]
        exact Nat.le_trans hl lim_le
      · subst e
        have ei : i = [] := List.eq_nil_of_length_eq_zero (by rw [← ra.len]; rfl)
        subst ei
        refine q _ Z H (Le.refl Z) f ?_
        show Rep c.K Z _ (.tup j)
        simp only [Rep]
        exact ⟨b, ws, rfl, hz2, rb⟩
      · subst e
        have ej : j = [] := List.eq_nil_of_length_eq_zero (by rw [← rb.len]; rfl)
        subst ej
        refine q _ Z H (Le.refl Z) f ?_
        rw [List.append_nil]
        show Rep c.K Z _ (.tup i)
        simp only [Rep]
        exact ⟨a, vs, rfl, hz, ra⟩
      · obtain ⟨l, f', rp⟩ := f.newT hp (ra.app rb)
        exact q _ _ _ l f' rp
    · cases e
  case lst.lst i j =>
    split at e
    · rename_i hl
      cases e
      obtain ⟨a, vs, rfl, ha, ra⟩ := den_lst f.zh d1
      obtain ⟨b, ws, rfl, hb, rb⟩ := den_lst f.zh d2
      refine op_cat pins s σ H _ _ v u Q I rx ry ⟨a, b, vs, ws, rfl, rfl, ha, hb, ?_, fun p hp => ?_⟩
      · rw [ra.len, rb.len]
        exact Nat.le_trans hl lim_le
      · obtain ⟨f', rp⟩ := f.newL hp (ra.app rb)
        exact q _ _ _ (Le.refl Z) f' rp
    · cases e
theorem opB_sub : OpR X (binaryOp .Sub) (rB X.K .sub) := by
  intro pins s σ H x y v u Q I rx ry h
  obtain ⟨c, Z, σ', env, t, w, r, hK, f, d1, d2, e, q⟩ := h
  rw [← hK] at d1 d2
  cases t <;> cases w <;> simp only [binT] at e <;> try (cases e; done)
  case int.int i j =>
    cases e
    rw [den_int d1] at rx
    rw [den_int d2] at ry
    exact op_sub pins s σ H _ _ v u Q I rx ry ⟨i, j, rfl, rfl, q _ Z H (Le.refl Z) f rep_int⟩
theorem foldl_app : ∀ (l : List (Array Nat)) (a : Array Nat), (l.foldl (· ++ ·) a).toList = a.toList ++ (l.map Array.toList).flatten
  | [], a => by simp
  | x :: l, a => by rw [List.foldl_cons, foldl_app l]; simp [List.append_assoc]
theorem mul_txt {x : Str} {j : Int} (h1 : 1 ≤ j) : Txt.mul x j = ⟨(List.replicate j.toNat x.cps.toList).flatten.toArray⟩ := by
  unfold Txt.mul
  rw [if_neg (by omega)]
  split
  · rename_i h
    rcases Bool.or_eq_true_iff.mp h with h | h
    · have : j = 1 := by simpa using h
      subst this
      simp
    · have : x.cps.size = 0 := by simpa [Str.length] using h
      have e : x.cps = #[] := Array.eq_empty_of_size_eq_zero this
      obtain ⟨z⟩ := x
      simp only at e
      subst e
      simp
  · congr 1
    apply Array.ext'
    rw [foldl_app]
    simp
theorem opB_mul : OpR X (binaryOp .Mult) (rB X.K .mul) := by
  intro pins s σ H x y v u Q I rx ry h
  obtain ⟨c, Z, σ', env, t, w, r, hK, f, d1, d2, e, q⟩ := h
  rw [← hK] at d1 d2
  cases t <;> cases w <;> simp only [binT] at e <;> try (cases e; done)
  case int.int i j =>
    split at e
    · rename_i hm
      cases e
      rw [den_int d1] at rx
      rw [den_int d2] at ry
      refine op_mul pins s σ H _ _ v u Q I rx ry ⟨i, j, rfl, rfl, ?_, q _ Z H (Le.refl Z) f rep_int⟩
      simp only [mulOk, Bool.or_eq_true, decide_eq_true_eq] at hm
      rcases hm with hm | hm
      · exact .inl (by omega)
      · exact .inr (by omega)
    · cases e
  case str.int i j =>
    split at e
    · rename_i hm
      cases e
      rw [den_str d1] at rx
      rw [den_int d2] at ry
      obtain ⟨t1, rfl⟩ := rx
      obtain ⟨t2, rfl⟩ := ry
      obtain ⟨h1, h2, h3⟩ := hm
      refine SB.mul (x := i) (n := j) ⟨?_, fun _ _ => ?_, fun _ _ => ?_⟩ fun t' k => ?_
      · rw [decide_eq_false (by omega), decide_eq_false (by omega)] <;> rfl
      · have hd : (1000 : Int) ≤ (2 ^ 63 - 1) / j := by
          rw [Int.le_ediv_iff_mul_le (by omega)]
          omega
        omega
      · have hs : i.length * j.toNat ≤ 1000 * 1000 := Nat.mul_le_mul h3 (by omega)
        have z : ¬ sizeLine < i.length * j.toNat := by rw [sizeLine_eq]; omega
        exact decide_eq_false z
      · rw [mul_txt h1]
        exact ⟨.str _, H, I.tok _, ⟨_, rfl⟩, q _ Z H (Le.refl Z) f rep_str⟩
    · cases e
theorem opB_fdiv : OpR X (binaryOp .FloorDiv) (rB X.K .fdiv) := by
  intro pins s σ H x y v u Q I rx ry h
  obtain ⟨c, Z, σ', env, t, w, r, hK, f, d1, d2, e, q⟩ := h
  rw [← hK] at d1 d2
  cases t <;> cases w <;> simp only [binT] at e <;> try (cases e; done)
  case int.int i j =>
    split at e
    · rename_i hm
      cases e
      rw [den_int d1] at rx
      rw [den_int d2] at ry
      refine op_fdivW pins s σ H _ _ v u Q I rx ry ⟨i, j, rfl, rfl, wide_div (b := 200) hm.1 ?_ (by decide) (by decide), q _ Z H (Le.refl Z) f rep_int⟩
      have := hm.1
      have := hm.2
      omega
    · cases e
theorem opB_mod : OpR X (binaryOp .Mod) (rB X.K .mod) := by
  intro pins s σ H x y v u Q I rx ry h
  obtain ⟨c, Z, σ', env, t, w, r, hK, f, d1, d2, e, q⟩ := h
  rw [← hK] at d1 d2
  cases t <;> cases w <;> simp only [binT] at e <;> try (cases e; done)
  case int.int i j =>
    split at e
    · rename_i hm
      cases e
      rw [den_int d1] at rx
      rw [den_int d2] at ry
      exact op_mod pins s σ H _ _ v u Q I rx ry ⟨i, j, rfl, rfl, hm, q _ Z H (Le.refl Z) f rep_int⟩
    · cases e
theorem opB_pow : OpR X (binaryOp .Pow) (rB X.K .pow) := by
  intro pins s σ H x y v u Q I rx ry h
  obtain ⟨c, Z, σ', env, t, w, r, hK, f, d1, d2, e, q⟩ := h
  rw [← hK] at d1 d2
  cases t <;> cases w <;> simp only [binT] at e <;> try (cases e; done)
  case int.int i j =>
    split at e
    · rename_i hm
      cases e
      rw [den_int d1] at rx
      rw [den_int d2] at ry
      exact op_pow pins s σ H _ _ v u Q I rx ry ⟨i, j, rfl, rfl, ⟨hm.1, by omega, hm.2.2⟩, q _ Z H (Le.refl Z) f rep_int⟩
    · cases e
theorem opB_of {o : Operator} {op : Bop} (h : bopOf o = some op) : OpR X (binaryOp o) (rB X.K op) := by
  cases o <;> simp only [bopOf] at h <;> cases h
  · exact opB_add
  · exact opB_sub
  · exact opB_mul
  · exact opB_mod
  · exact opB_pow
  · exact opB_fdiv

/-! ### comparisons -/
def rC (K : Frag) (op : Cop) : R2 := fun x y H Q => ∃ (Z : Hp) (t u : T) (b : Bool), Le Z H ∧ Den K Z H x t ∧ Den K Z H y u ∧ cmpT op t u = some b ∧ Q (.bl b) H
def copOf : CmpOp → Option Cop
  | .Eq => some .eq
  | .NotEq => some .ne
  | .Lt => some .lt
  | .LtE => some .le
  | .Gt => some .gt
  | .GtE => some .ge
  | .In => some .isin
  | .NotIn => some .notin
  | .Is => some .isN
  | .IsNot => some .notN
theorem eqT_cases {t u : T} {b : Bool} (e : eqT t u = some b) : (∃ x y, t.scal = some x ∧ u.scal = some y ∧ L2.scal x y = true ∧ b = decide (x = y)) ∨ (SeqAt.shaped t.py = true ∧ SeqAt.shaped u.py = true ∧ b = PyData.eqv t.py u.py) := by
  unfold eqT at e
  split at e
  · rename_i x y e1 e2
    split at e
    · rename_i h
      cases e
      exact .inl ⟨x, y, e1, e2, h, rfl⟩
    · cases e
  · split at e
    · rename_i h
      cases e
      exact .inr ⟨h.1, h.2, rfl⟩
    · cases e
theorem opC_eq (hu : X.A.units + 64 < cLine) : OpR X (compareOp .Eq) (rC X.K .eq) := by
  intro pins s σ H x y v u Q I rx ry h
  obtain ⟨Z, t, w, b, l, d1, d2, e, q⟩ := h
  rcases eqT_cases e with ⟨x', y', e1, e2, hs, rfl⟩ | ⟨s1, s2, rfl⟩
  · rw [den_scal e1 d1] at rx
    rw [den_scal e2 d2] at ry
    exact op_eq pins s σ H _ _ v u Q I rx ry ⟨hs, q⟩
  · exact op_eqD hu pins s σ H _ _ v u Q I rx ry ⟨_, _, den_dp l d1, den_dp l d2, s1, s2, q⟩
theorem opC_ne (hu : X.A.units + 64 < cLine) : OpR X (compareOp .NotEq) (rC X.K .ne) := by
  intro pins s σ H x y v u Q I rx ry h
  obtain ⟨Z, t, w, b, l, d1, d2, e, q⟩ := h
  simp only [cmpT] at e
  obtain ⟨b', e', rfl⟩ := Option.map_eq_some_iff.mp e
  rcases eqT_cases e' with ⟨x', y', e1, e2, hs, rfl⟩ | ⟨s1, s2, rfl⟩
  · rw [den_scal e1 d1] at rx
    rw [den_scal e2 d2] at ry
    exact op_ne pins s σ H _ _ v u Q I rx ry ⟨hs, q⟩
  · exact op_neD hu pins s σ H _ _ v u Q I rx ry ⟨_, _, den_dp l d1, den_dp l d2, s1, s2, q⟩
theorem opC_lt : OpR X (compareOp .Lt) (rC X.K .lt) := by
  intro pins s σ H x y v u Q I rx ry h
  obtain ⟨Z, t, w, b, l, d1, d2, e, q⟩ := h
  cases t <;> cases w <;> simp only [cmpT] at e <;> try (cases e; done)
  cases e
  rw [den_int d1] at rx
  rw [den_int d2] at ry
  exact op_lt pins s σ H _ _ v u Q I rx ry ⟨_, _, rfl, rfl, q⟩
theorem opC_le : OpR X (compareOp .LtE) (rC X.K .le) := by
  intro pins s σ H x y v u Q I rx ry h
  obtain ⟨Z, t, w, b, l, d1, d2, e, q⟩ := h
  cases t <;> cases w <;> simp only [cmpT] at e <;> try (cases e; done)
  cases e
  rw [den_int d1] at rx
  rw [den_int d2] at ry
  exact op_le pins s σ H _ _ v u Q I rx ry ⟨_, _, rfl, rfl, q⟩
theorem ints_map : ∀ {ts : List T} {ns : List Int}, asInts ts = some ns → asFlats ts = some (ns.map V.int)
  | [], ns, e => by
    simp only [asInts] at e
    cases e
    rfl
  | t :: ts, ns, e => by
    cases t <;> simp only [asInts] at e <;> try (cases e; done)
    split at e
    · rename_i is e2
      cases e
      simp only [asFlats, T.scal, ints_map e2, List.map_cons]
    · cases e
theorem lexLe_cons (x y : Int) (xs ys : List Int) : lexLe (x :: xs) (y :: ys) = if x = y then lexLe xs ys else decide (x < y) := rfl
theorem getD_drop (ns : List Int) (i : Nat) (h : i < ns.length) : ns.drop i = ns.getD i 0 :: ns.drop (i + 1) := by
  rw [List.drop_eq_getElem_cons h, List.getD_eq_getElem?_getD, List.getElem?_eq_getElem h] <;> rfl
theorem lex_ge (ns ms : List Int) : ∀ (k i : Nat), k = min (ns.length - i) (ms.length - i) → i ≤ ns.length → i ≤ ms.length →
    Ob.lexAt (fun j => decide (ns.getD j 0 = ms.getD j 0)) (fun j => decide (ms.getD j 0 ≤ ns.getD j 0)) (decide (ns.length ≥ ms.length)) i k = lexLe (ms.drop i) (ns.drop i)
  | 0, i, hk, hn, hm => by
    rw [Ob.lexAt_zero]
    by_cases h : ns.length ≥ ms.length
    · have e : i = ms.length := by omega
      rw [decide_eq_true h, List.drop_eq_nil_of_le (show ms.length ≤ i by omega)]
      rfl
    · have e : i = ns.length := by omega
      rw [decide_eq_false h, getD_drop ms i (by omega), List.drop_eq_nil_of_le (show ns.length ≤ i by omega)]
      rfl
  | k + 1, i, hk, hn, hm => by
    have h1 : i < ns.length := by omega
    have h2 : i < ms.length := by omega
    rw [Ob.lexAt_succ, lex_ge ns ms k (i + 1) (by omega) (by omega) (by omega), getD_drop ns i h1, getD_drop ms i h2, lexLe_cons]
    by_cases e : ns.getD i 0 = ms.getD i 0
    · rw [if_pos (by simpa using e), if_pos e.symm]
    · rw [if_neg (by simpa using e), if_neg (fun q => e q.symm)]
      congr 1
      exact propext ⟨fun q => by omega, fun q => by omega⟩
theorem lex_gt (ns ms : List Int) : ∀ (k i : Nat), k = min (ns.length - i) (ms.length - i) → i ≤ ns.length → i ≤ ms.length →
    Ob.lexAt (fun j => decide (ns.getD j 0 = ms.getD j 0)) (fun j => decide (ms.getD j 0 < ns.getD j 0)) (decide (ns.length > ms.length)) i k = !lexLe (ns.drop i) (ms.drop i)
  | 0, i, hk, hn, hm => by
    rw [Ob.lexAt_zero]
    by_cases h : ns.length > ms.length
    · have e : i = ms.length := by omega
      rw [decide_eq_true h, getD_drop ns i (by omega), List.drop_eq_nil_of_le (show ms.length ≤ i by omega)]
      rfl
    · have e : i = ns.length := by omega
      rw [decide_eq_false h, List.drop_eq_nil_of_le (show ns.length ≤ i by omega)]
      rfl
  | k + 1, i, hk, hn, hm => by
    have h1 : i < ns.length := by omega
    have h2 : i < ms.length := by omega
    rw [Ob.lexAt_succ, lex_gt ns ms k (i + 1) (by omega) (by omega) (by omega), getD_drop ns i h1, getD_drop ms i h2, lexLe_cons]
    by_cases e : ns.getD i 0 = ms.getD i 0
    · rw [if_pos (by simpa using e), if_pos e]
    · rw [if_neg (by simpa using e), if_neg e]
      by_cases q : ns.getD i 0 < ms.getD i 0
      · rw [decide_eq_true q, decide_eq_false (by omega)]; rfl
      · rw [decide_eq_false q, decide_eq_true (by omega)]; rfl
theorem tup_order {op : CmpOp} (hu : X.A.units < cLine) {pins : List (Addr × Obj)} {s : Shared} {σ : St} {H : Hp} {Q : VK} {a b : Addr} {ns ms : List Int} {r : Int → Int → Bool} {z : Bool} (I : Inv X pins σ H s) (ha : SqT X.K H a (ns.map V.int)) (hb : SqT X.K H b (ms.map V.int))
    (hr : ∀ (A : Around) (i j : Int) (t u : Tok), Ob.RcOp op A s (.int i t) (.int j u) (r i j))
    (rule : ∀ {its its2 : List Value} {e q : Nat → Bool}, PyProof.Rows.IsTup s.heap a its.toArray → PyProof.Rows.IsTup s.heap b its2.toArray → its.length = ns.length → its2.length = ms.length →
      (∀ j (h1 : j < its.toArray.size) (h2 : j < its2.toArray.size), SeqAt.EqAt X.A.in1 s its.toArray[j] its2.toArray[j] (e j)) → (∀ j (h1 : j < its.toArray.size) (h2 : j < its2.toArray.size), e j = false → Ob.RcOp op X.A.in1 s its.toArray[j] its2.toArray[j] (q j)) →
      Ob.RcOp op X.A s (.ref a) (.ref b) (Ob.lexAt e q z 0 (min its.toArray.size its2.toArray.size)))
    (q : Q (.bl (Ob.lexAt (fun j => decide (ns.getD j 0 = ms.getD j 0)) (fun j => r (ns.getD j 0) (ms.getD j 0)) z 0 (min ns.length ms.length))) H) :
    wpAny (model X.prog X.w) X.A (richCompare op (.ref a) (.ref b)) (EP X pins σ Q) X.xe s := by
  obtain ⟨its, r1, p1, _⟩ := I.tuple ha
  obtain ⟨its2, r2, p2, _⟩ := I.tuple hb
  have i1 : PyProof.Rows.IntsAre its ns := Vals.ints r1
  have i2 : PyProof.Rows.IntsAre its2 ms := Vals.ints r2
  have e1 : its.toArray.size = ns.length := by rw [List.size_toArray]; exact i1.length
  have e2 : its2.toArray.size = ms.length := by rw [List.size_toArray]; exact i2.length
  have at1 : ∀ j (h1 : j < its.toArray.size), ∃ t, its.toArray[j] = .int (ns.getD j 0) t := fun j h1 => PyProof.Rows.IntsAre.int_at i1 _ _ (by simp at h1; simp [h1])
  have at2 : ∀ j (h1 : j < its2.toArray.size), ∃ t, its2.toArray[j] = .int (ms.getD j 0) t := fun j h1 => PyProof.Rows.IntsAre.int_at i2 _ _ (by simp at h1; simp [h1])
  have R := rule (e := fun j => decide (ns.getD j 0 = ms.getD j 0)) (q := fun j => r (ns.getD j 0) (ms.getD j 0)) p1 p2 (by simpa using e1) (by simpa using e2) (fun j h1 h2 => by
    obtain ⟨t, et⟩ := at1 j h1
    obtain ⟨t', et'⟩ := at2 j h2
    rw [et, et']
    have z : (ns.getD j 0 == ms.getD j 0) = decide (ns.getD j 0 = ms.getD j 0) := by
      by_cases q : ns.getD j 0 = ms.getD j 0
      · rw [decide_eq_true q]; exact beq_iff_eq.mpr q
      · rw [decide_eq_false q]; exact beq_eq_false_iff_ne.mpr q
    rw [← z]
    exact SeqAt.EqAt.int_int _ _ _ _) (fun j h1 h2 _ => by
    obtain ⟨t, et⟩ := at1 j h1
    obtain ⟨t', et'⟩ := at2 j h2
    rw [et, et']
    exact hr _ _ _ _ _)
  rw [e1, e2] at R
  exact R X.prog X.w X.xe (EP X pins σ Q) ⟨.bl _, H, I, rfl, q⟩
theorem opC_gt (hu : X.A.units < cLine) : OpR X (compareOp .Gt) (rC X.K .gt) := by
  intro pins s σ H x y v u Q I rx ry h
  obtain ⟨Z, t, w, b, l, d1, d2, e, q⟩ := h
  cases t <;> cases w <;> simp only [cmpT] at e <;> try (cases e; done)
  · cases e
    rw [den_int d1] at rx
    rw [den_int d2] at ry
    exact op_gt pins s σ H _ _ v u Q I rx ry ⟨_, _, rfl, rfl, q⟩
  · split at e
    · rename_i is js e1 e2
      cases e
      obtain ⟨a, vs, rfl, hz, ha, ra⟩ := den_tup l d1
      obtain ⟨b, ws, rfl, hz2, hb, rb⟩ := den_tup l d2
      cases rx
      cases ry
      rw [ra.flats (ints_map e1)] at ha
      rw [rb.flats (ints_map e2)] at hb
      show wpAny (model X.prog X.w) X.A (richCompare .Gt (.ref a) (.ref b)) (EP X pins σ Q) X.xe s
      refine tup_order (op := .Gt) hu I (SqT.of ha) (SqT.of hb) (r := fun i j => decide (j < i)) (z := decide (is.length > js.length)) (fun A i j t u => Ob.RcOp.gt_int i j t u) (fun {its its2 e q} p1 p2 l1 l2 h1 h2 => ?_) ?_
      · have R := Ob.RcOp.tuples_gt (A := X.A) (s := s) (e := e) (r := q) p1 p2 hu h1 h2
        rw [List.size_toArray, List.size_toArray, l1, l2] at R ⊢
        exact R
      · rw [lex_gt is js _ 0 (by simp) (Nat.zero_le _) (Nat.zero_le _)]
        exact q
    · cases e
theorem opC_ge (hu : X.A.units < cLine) : OpR X (compareOp .GtE) (rC X.K .ge) := by
  intro pins s σ H x y v u Q I rx ry h
  obtain ⟨Z, t, w, b, l, d1, d2, e, q⟩ := h
  cases t <;> cases w <;> simp only [cmpT] at e <;> try (cases e; done)
  · cases e
    rw [den_int d1] at rx
    rw [den_int d2] at ry
    exact op_ge pins s σ H _ _ v u Q I rx ry ⟨_, _, rfl, rfl, q⟩
  · split at e
    · rename_i is js e1 e2
      cases e
      obtain ⟨a, vs, rfl, hz, ha, ra⟩ := den_tup l d1
      obtain ⟨b, ws, rfl, hz2, hb, rb⟩ := den_tup l d2
      cases rx
      cases ry
      rw [ra.flats (ints_map e1)] at ha
      rw [rb.flats (ints_map e2)] at hb
      show wpAny (model X.prog X.w) X.A (richCompare .GtE (.ref a) (.ref b)) (EP X pins σ Q) X.xe s
      refine tup_order (op := .GtE) hu I (SqT.of ha) (SqT.of hb) (r := fun i j => decide (j ≤ i)) (z := decide (is.length ≥ js.length)) (fun A i j t u => Ob.RcOp.ge_int i j t u) (fun {its its2 e q} p1 p2 l1 l2 h1 h2 => ?_) ?_
      · have R := Ob.RcOp.tuples_ge (A := X.A) (s := s) (e := e) (r := q) p1 p2 hu h1 h2
        rw [List.size_toArray, List.size_toArray, l1, l2] at R ⊢
        exact R
      · rw [lex_ge is js _ 0 (by simp) (Nat.zero_le _) (Nat.zero_le _)]
        exact q
    · cases e
theorem inT_cases {t u : T} {b : Bool} (e : inT t u = some b) : (∃ n z, t = .str ⟨#[n]⟩ ∧ u = .str z ∧ b = decide (n ∈ z.cps.toList)) ∨
    ∃ ys x vs, (u = .tup ys ∨ u = .lst ys) ∧ t.scal = some x ∧ asFlats ys = some vs ∧ b = inV x vs := by
  cases u <;> simp only [inT] at e <;> try (cases e; done)
  · split at e
    · rename_i y
      split at e
      · rename_i n hn
        cases e
        refine .inl ⟨n, _, ?_, rfl, rfl⟩
        obtain ⟨⟨y⟩⟩ := y
        simp only at hn
        rw [hn]
      · cases e
    · cases e
  · split at e
    · rename_i x vs e1 e2
      cases e
      exact .inr ⟨_, x, vs, .inl rfl, e1, e2, rfl⟩
    · cases e
  · split at e
    · rename_i x vs e1 e2
      cases e
      exact .inr ⟨_, x, vs, .inr rfl, e1, e2, rfl⟩
    · cases e
theorem opC_in : OpR X (compareOp .In) (rC X.K .isin) := by
  intro pins s σ H x y v u Q I rx ry h
  obtain ⟨Z, t, w, b, l, d1, d2, e, q⟩ := h
  rcases inT_cases e with ⟨n, z, rfl, rfl, rfl⟩ | ⟨ys, x', vs, hw, e1, e2, rfl⟩
  · rw [den_str d1] at rx
    rw [den_str d2] at ry
    exact op_in_sign pins s σ H _ _ v u Q I rx ry ⟨n, z, rfl, rfl, q⟩
  · rw [den_scal e1 d1] at rx
    rcases hw with rfl | rfl
    · obtain ⟨a, ws, rfl, hz, ha, ra⟩ := den_tup l d2
      rw [ra.flats e2] at ha
      exact op_in_seq pins s σ H _ _ v u Q I rx ry ⟨a, vs, rfl, .inr (SqT.of ha), flat_scal e1, flats_flat e2, q⟩
    · obtain ⟨a, ws, rfl, ha, ra⟩ := den_lst l d2
      rw [ra.flats e2] at ha
      exact op_in_seq pins s σ H _ _ v u Q I rx ry ⟨a, vs, rfl, .inl (SqL.of ha), flat_scal e1, flats_flat e2, q⟩
theorem opC_notin : OpR X (compareOp .NotIn) (rC X.K .notin) := by
  intro pins s σ H x y v u Q I rx ry h
  obtain ⟨Z, t, w, b, l, d1, d2, e, q⟩ := h
  simp only [cmpT] at e
  obtain ⟨b', e', rfl⟩ := Option.map_eq_some_iff.mp e
  rcases inT_cases e' with ⟨n, z, rfl, rfl, rfl⟩ | ⟨ys, x', vs, hw, e1, e2, rfl⟩
  · rw [den_str d1] at rx
    rw [den_str d2] at ry
    exact op_notIn_sign pins s σ H _ _ v u Q I rx ry ⟨n, z, rfl, rfl, q⟩
  · rw [den_scal e1 d1] at rx
    rcases hw with rfl | rfl
    · obtain ⟨a, ws, rfl, hz, ha, ra⟩ := den_tup l d2
      rw [ra.flats e2] at ha
      exact op_notIn_seq pins s σ H _ _ v u Q I rx ry ⟨a, vs, rfl, .inr (SqT.of ha), flat_scal e1, flats_flat e2, q⟩
    · obtain ⟨a, ws, rfl, ha, ra⟩ := den_lst l d2
      rw [ra.flats e2] at ha
      exact op_notIn_seq pins s σ H _ _ v u Q I rx ry ⟨a, vs, rfl, .inl (SqL.of ha), flat_scal e1, flats_flat e2, q⟩
theorem den_isnon {K : Frag} {Z H : Hp} {v : V} {t : T} (d : Den K Z H v t) : decide (v = V.non) = isNon t := by
  rcases d with d | ⟨a, vs, xs, rfl, rfl, _⟩
  · cases t <;> simp only [Rep] at d
    · subst d; rfl
    · subst d; rfl
    · subst d; rfl
    · subst d; rfl
    · obtain ⟨a, vs, rfl, _⟩ := d; rfl
    · obtain ⟨a, vs, rfl, _⟩ := d; rfl
    · obtain ⟨a, vs, rfl, _⟩ := d; rfl
  · rfl
theorem opC_is : OpR X (compareOp .Is) (rC X.K .isN) := by
  intro pins s σ H x y v u Q I rx ry h
  obtain ⟨Z, t, w, b, l, d1, d2, e, q⟩ := h
  cases w <;> simp only [cmpT] at e <;> try (cases e; done)
  cases e
  rw [den_non d2] at ry
  refine op_isN pins s σ H _ _ v u Q I rx ry ⟨rfl, ?_⟩
  rw [den_isnon d1]
  exact q
theorem opC_isnot : OpR X (compareOp .IsNot) (rC X.K .notN) := by
  intro pins s σ H x y v u Q I rx ry h
  obtain ⟨Z, t, w, b, l, d1, d2, e, q⟩ := h
  cases w <;> simp only [cmpT] at e <;> try (cases e; done)
  cases e
  rw [den_non d2] at ry
  refine op_notN pins s σ H _ _ v u Q I rx ry ⟨rfl, ?_⟩
  rw [den_isnon d1]
  exact q
theorem opC_of (hu : X.A.units + 64 < cLine) {o : CmpOp} {op : Cop} (h : copOf o = some op) : OpR X (compareOp o) (rC X.K op) := by
  cases o <;> simp only [copOf] at h <;> cases h
  · exact opC_eq hu
  · exact opC_ne hu
  · exact opC_lt
  · exact opC_le
  · exact opC_gt (by omega)
  · exact opC_ge (by omega)
  · exact opC_is
  · exact opC_isnot
  · exact opC_in
  · exact opC_notin
end
end Sf

/-! Sf, part 4: what an expression's run in the small language says of its reading. -/
namespace Sf
open PySem L2

/-- an exception in the air -/
def RepX (K : Frag) (Z H : Hp) (cls : Value) (d : Option Addr) : Exc → Prop
  | .plain x => cls = .ref (He.ga K x) ∧ d = none
  | .clash a b => cls = .ref (He.ga K "Clash") ∧ ∃ dx v u, d = some dx ∧ H dx = some (.xd [("one", v), ("other", u)]) ∧ Rep K Z v a ∧ Rep K Z u b
def ExcOk (c : Cn) (W : WX) (Z : Hp) (x : Exc) : Prop := ∀ cls d Z' H', Le Z Z' → Le Z' H' → Le c.G H' → RepX c.K Z' H' cls d x → ∀ σ, W cls d σ H'
def Goal {β : Type} (c : Cn) (W : WX) (Z : Hp) (P : β → Ev → Prop) : Res (β × Ev) → Prop
  | .ok (b, env) => P b env
  | .exc x => ExcOk c W Z x
  | .bad => False
section
variable {β γ : Type} {c : Cn} {W : WX} {Z Z1 : Hp} {P : γ → Ev → Prop} {P1 : β → Ev → Prop}
theorem ExcOk.up (l : Le Z Z1) {x : Exc} (h : ExcOk c W Z x) : ExcOk c W Z1 x := fun cls d Z' H' a b e r => h cls d Z' H' (l.trans a) b e r
theorem Goal.next {m : Res (β × Ev)} {f : β × Ev → Res (γ × Ev)} (l : Le Z Z1) (g : Goal c W Z P (m.bind f)) (k : ∀ b env, Goal c W Z P (f (b, env)) → P1 b env) : Goal c W Z1 P1 m := by
  cases m with
  | ok p => exact k p.1 p.2 g
  | exc x => exact ExcOk.up l g
  | bad => exact g
theorem Goal.imp {P P' : γ → Ev → Prop} {m : Res (γ × Ev)} (g : Goal c W Z P m) (l : Le Z Z1) (k : ∀ b env, P b env → P' b env) : Goal c W Z1 P' m := by
  cases m with
  | ok p => exact k p.1 p.2 g
  | exc x => exact ExcOk.up l g
  | bad => exact g
theorem Goal.of {o : Option β} {f : β → Res (γ × Ev)} (g : Goal c W Z P ((Res.of o).bind f)) : ∃ x, o = some x ∧ Goal c W Z P (f x) := by
  cases o with
  | none => exact False.elim g
  | some x => exact ⟨x, rfl, g⟩
end

/-- an expression's reading by its run -/
def tE (K : Frag) (call : Call) (W : WX) (e : E) : TE := fun σ H Q => ∃ (c : Cn) (Z : Hp) (env : Ev), c.K = K ∧ Frame c Z H σ env ∧
  Goal c W Z (fun r env' => ∀ Z' H', Le Z Z' → Frame c Z' H' σ env' → ∀ v, RepR c Z' H' σ env' v r → Q v H') (evE call e env)
def tT (K : Frag) (call : Call) (W : WX) (e : E) : TT := fun σ H Q => ∃ (c : Cn) (Z : Hp) (env : Ev), c.K = K ∧ Frame c Z H σ env ∧
  Goal c W Z (fun b env' => ∀ Z' H', Le Z Z' → Frame c Z' H' σ env' → Q b H') (evT call e env)
def tEs (K : Frag) (call : Call) (W : WX) (es : Es) : TA := fun σ H Q => ∃ (c : Cn) (Z : Hp) (env : Ev), c.K = K ∧ Frame c Z H σ env ∧
  Goal c W Z (fun ts env' => ∀ Z' H', Le Z Z' → Frame c Z' H' σ env' → ∀ vs, Reps c.K Z' vs ts → Q vs H') (evEs call es env)
def tO (K : Frag) (call : Call) (W : WX) (o : Oe) : TO := fun σ H Q => ∃ (c : Cn) (Z : Hp) (env : Ev), c.K = K ∧ Frame c Z H σ env ∧
  Goal c W Z (fun i env' => ∀ Z' H', Le Z Z' → Frame c Z' H' σ env' → Q i H') (evO call o env)

theorem PE_imp {X : Cx} {e : Expr} {t t' : TE} (h : PE X e t) (k : ∀ σ H Q, t' σ H Q → t σ H Q) : PE X e t' := ⟨fun pins s σ H Q I q => h.run pins s σ H Q I (k σ H Q q)⟩
theorem PT_imp {X : Cx} {e : Expr} {t t' : TT} (h : PT X e t) (k : ∀ σ H Q, t' σ H Q → t σ H Q) : PT X e t' := ⟨fun pins s σ H Q I q => h.run pins s σ H Q I (k σ H Q q)⟩
theorem PW_imp {X : Cx} {e : Expr} {t t' : TT} (h : PW X e t) (k : ∀ σ H Q, t' σ H Q → t σ H Q) : PW X e t' := ⟨fun w pins s σ H Q I q => h.run w pins s σ H Q I (k σ H Q q)⟩
theorem PA_imp {X : Cx} {e : List Expr} {t t' : TA} (h : PA X e t) (k : ∀ σ H Q, t' σ H Q → t σ H Q) : PA X e t' := ⟨fun w pins s σ H Q I q => h.run w pins s σ H Q I (k σ H Q q)⟩
theorem PO_imp {X : Cx} {e : Option Expr} {t t' : TO} (h : PO X e t) (k : ∀ σ H Q, t' σ H Q → t σ H Q) : PO X e t' := ⟨fun pins s σ H Q I q => h.run pins s σ H Q I (k σ H Q q)⟩
theorem PS_imp {X : Cx} {e : Stmt} {t t' : TS} (h : PS X e t) (k : ∀ D σ H, t' D σ H → t D σ H) : PS X e t' := ⟨fun pins s σ H D I q => h.run pins s σ H D I (k D σ H q)⟩
theorem PSs_imp {X : Cx} {e : List Stmt} {t t' : TS} (h : PSs X e t) (k : ∀ D σ H, t' D σ H → t D σ H) : PSs X e t' := ⟨fun pins s σ H D I q => h.run pins s σ H D I (k D σ H q)⟩
theorem PI_imp {X : Cx} {tg e : Expr} {t t' : TI} (h : PI X tg e t) (k : ∀ σ H Q, t' σ H Q → t σ H Q) : PI X tg e t' := ⟨fun pins s σ H Q I q => h.run pins s σ H Q I (k σ H Q q)⟩

section
variable {X : Cx} {call : Call} {W : WX} {pos : Pos}
/-! ### names and constants -/
theorem se_nm {i : Nat} {x : Str} (hN : X.N[i]? = some x) (hv : Vis X.env.scope x) (hd : (x == ("__debug__" : Str)) = false) (hcd : (x == ("__classdict__" : Str)) = false) : PE X (.Name x pos) (tE X.K call W (.nm i)) :=
  PE_imp (pe_var hN hv hd hcd) fun σ H Q ⟨c, Z, env, hK, f, g⟩ => by
    simp only [evE] at g
    split at g
    · exact g.elim
    · rename_i t e
      obtain ⟨v, h1, h2⟩ := f.slot_at e
      exact ⟨v, h1, g Z H (Le.refl Z) f v h2⟩
    · rename_i h1 h2
      have hs := f.sl i
      cases e : get env i with
      | un => exact (h1 e).elim
      | val t => exact (h2 t e).elim
      | own o =>
        rw [e] at hs
        obtain ⟨a, h3, _⟩ := hs
        exact ⟨_, h3, g Z H (Le.refl Z) f _ h3⟩
      | bor o =>
        rw [e] at hs
        obtain ⟨a, h3, _⟩ := hs
        exact ⟨_, h3, g Z H (Le.refl Z) f _ h3⟩
theorem lit_of {e : Expr} {v : V} {t : T} (h : PE X e (tC v)) (r : ∀ Z, Rep X.K Z v t) : PE X e (tE X.K call W (.lit t)) :=
  PE_imp h fun σ H Q ⟨c, Z, env, hK, f, g⟩ => g Z H (Le.refl Z) f v (by show Rep c.K Z v t; rw [hK]; exact r Z)
theorem se_int {i : Int} {j : Nat} : PE X (.Constant (.int i) j pos) (tE X.K call W (.lit (.int i))) := lit_of pe_int fun Z => by simp only [Rep]
theorem se_str {x : Str} {j : Nat} : PE X (.Constant (.str x) j pos) (tE X.K call W (.lit (.str x))) := lit_of pe_str fun Z => by simp only [Rep]
theorem se_bool {b : Bool} {j : Nat} : PE X (.Constant (.bool b) j pos) (tE X.K call W (.lit (.bl b))) := lit_of pe_bl fun Z => by simp only [Rep]
theorem se_none {j : Nat} : PE X (.Constant .none j pos) (tE X.K call W (.lit .non)) := lit_of pe_non fun Z => by simp only [Rep]
theorem se_gint {x : Str} {i : Int} {t : Tok} (hg : Gl X x) (hm : X.mg x = some (.int i t)) (hd : (x == ("__debug__" : Str)) = false) : PE X (.Name x pos) (tE X.K call W (.lit (.int i))) :=
  lit_of (pe_glob hg hm (v := .int i) ⟨t, rfl⟩ hd) fun Z => by simp only [Rep]
theorem se_gstr {x z : Str} {t : Tok} (hg : Gl X x) (hm : X.mg x = some (.str z t)) (hd : (x == ("__debug__" : Str)) = false) : PE X (.Name x pos) (tE X.K call W (.lit (.str z))) :=
  lit_of (pe_glob hg hm (v := .str z) ⟨t, rfl⟩ hd) fun Z => by simp only [Rep]

/-! ### displays -/
theorem ses_nil : PA X [] (tEs X.K call W .nil) := PA_imp pa_nil fun σ H Q ⟨c, Z, env, hK, f, g⟩ => by
  simp only [evEs] at g
  exact g Z H (Le.refl Z) f [] (by simp only [Reps])
theorem ses_cons {e : Expr} {es : List Expr} {ce : E} {ces : Es} (ha : PE X e (tE X.K call W ce)) (hr : PA X es (tEs X.K call W ces)) (hs : starEach (e :: es) X.env = (false, eval e X.env) :: starEach es X.env) :
    PA X (e :: es) (tEs X.K call W (.cons ce ces)) := PA_imp (pa_cons ha hr hs) fun σ H Q ⟨c, Z, env, hK, f, g⟩ => by
  simp only [evEs] at g
  refine ⟨c, Z, env, hK, f, g.next (Le.refl Z) fun r env1 g1 Z1 H1 l1 f1 v rv => ?_⟩
  cases e2 : Sf.frz r env1 with
  | exc x =>
    simp only [e2, Res.bind_exc] at g1
    exfalso
    cases r with
    | val t => simp [Sf.frz] at e2
    | own o => cases o <;> simp [Sf.frz] at e2
    | slot i =>
      simp only [Sf.frz] at e2
      split at e2 <;> cases e2
  | bad =>
    simp only [e2, Res.bind_bad] at g1
    exact g1.elim
  | ok p =>
    obtain ⟨t, env2⟩ := p
    simp only [e2, Res.bind_ok] at g1
    obtain ⟨Z2, l2, f2, rt⟩ := f1.frz rv e2
    refine ⟨c, Z2, env2, hK, f2, g1.next (l1.trans l2) fun ts env3 g3 Z3 H3 l3 f3 vs rvs => ?_⟩
    exact g3 Z3 H3 (l1.trans (l2.trans l3)) f3 (v :: vs) (.cons' (rt.mono l3) rvs)
theorem se_tup {es : List Expr} {ces : Es} {k : Nat} (h : PA X es (tEs X.K call W ces)) : PE X (.Tuple es k pos) (tE X.K call W (.tup ces)) := PE_imp (pe_tup h) fun σ H Q ⟨c, Z, env, hK, f, g⟩ => by
  simp only [evE] at g
  refine ⟨c, Z, env, hK, f, g.next (Le.refl Z) fun ts env1 g1 Z1 H1 l1 f1 vs rvs => ?_⟩
  dsimp only at g1
  split at g1
  · rename_i hl
    refine ⟨by rw [rvs.len]; exact Nat.le_trans hl lim_le, fun p hp => ?_⟩
    obtain ⟨l, f', rp⟩ := f1.newT hp rvs
    exact g1 _ _ (l1.trans l) f' _ rp
  · exact g1.elim
theorem se_lst {es : List Expr} {ces : Es} (h : PA X es (tEs X.K call W ces)) : PE X (.List es pos) (tE X.K call W (.lst ces)) := PE_imp (pe_lst h) fun σ H Q ⟨c, Z, env, hK, f, g⟩ => by
  simp only [evE] at g
  refine ⟨c, Z, env, hK, f, g.next (Le.refl Z) fun ts env1 g1 Z1 H1 l1 f1 vs rvs => ?_⟩
  dsimp only at g1
  split at g1
  · rename_i hl
    refine ⟨by rw [rvs.len]; exact Nat.le_trans hl lim_le, fun p hp => ?_⟩
    obtain ⟨f', rp⟩ := f1.newL hp rvs
    exact g1 _ _ l1 f' _ rp
  · exact g1.elim

/-! ### operators -/
variable {a b d : Expr} {ca cb cd : E}
theorem se_bin {o : Operator} {op : Bop} (ho : bopOf o = some op) (ha : PE X a (tE X.K call W ca)) (hb : PE X b (tE X.K call W cb)) : PE X (.BinOp a o b pos) (tE X.K call W (.bin op ca cb)) :=
  PE_imp (pe_op (opB_of ho) ha hb) fun σ H Q ⟨c, Z, env, hK, f, g⟩ => by
    simp only [evE] at g
    refine ⟨c, Z, env, hK, f, g.next (Le.refl Z) fun r env1 g1 Z1 H1 l1 f1 v rv => ?_⟩
    obtain ⟨Z2, l2, f2, p2⟩ := f1.peek rv
    refine ⟨c, Z2, env1, hK, f2, g1.next (l1.trans l2) fun q env2 g2 Z3 H3 l3 f3 u ru => ?_⟩
    obtain ⟨Z4, l4, f4, p4⟩ := f3.peek ru
    obtain ⟨x, ex, g3⟩ := g2.of
    obtain ⟨y, ey, g4⟩ := g3.of
    obtain ⟨z, ez, g5⟩ := g4.of
    refine ⟨c, Z4, σ, env2, x, y, z, hK, f4, ?_, ?_, ez, fun w Z' H' l' f' rw => g5 Z' H' (l1.trans (l2.trans (l3.trans (l4.trans l')))) f' w rw⟩
    · rw [← hK]
      exact (p2.mono (l3.trans l4)).den f4 ex
    · rw [← hK]
      exact p4.den f4 ey
theorem se_neg (ha : PE X a (tE X.K call W ca)) : PE X (.UnaryOp .USub a pos) (tE X.K call W (.neg ca)) :=
  PE_imp (pe_un un_neg ha) fun σ H Q ⟨c, Z, env, hK, f, g⟩ => by
    simp only [evE] at g
    refine ⟨c, Z, env, hK, f, g.next (Le.refl Z) fun r env1 g1 Z1 H1 l1 f1 v rv => ?_⟩
    dsimp only at g1
    split at g1
    · rename_i i
      have ev : v = .int i := by simpa only [RepR, Rep] using rv
      exact ⟨i, ev, g1 Z1 H1 l1 f1 _ rep_int⟩
    · exact g1.elim
/-- truth of what is read -/
theorem den_tru {K : Frag} {Z H : Hp} {v : V} {t : T} {k : Bool} (l : Le Z H) (d : Den K Z H v t) (e : truT t = some k) : TruV K v H k := by
  cases t <;> simp only [truT] at e <;> try (cases e; done)
  · cases e
    rw [den_bl d]
    rfl
  · rename_i xs
    cases e
    obtain ⟨a, vs, rfl, h1, h2⟩ := den_lst l d
    refine .inl ⟨vs, SqL.of h1, ?_⟩
    have hl := h2.len
    cases vs with
    | nil =>
      cases xs with
      | nil => rfl
      | cons _ _ => simp at hl
    | cons _ _ =>
      cases xs with
      | nil => simp at hl
      | cons _ _ => rfl
theorem se_nots (ha : PE X a (tE X.K call W ca)) : PE X (.UnaryOp .Not a pos) (tE X.K call W (.nots ca)) :=
  PE_imp (pe_notT ha) fun σ H Q ⟨c, Z, env, hK, f, g⟩ => by
    simp only [evE] at g
    refine ⟨c, Z, env, hK, f, g.next (Le.refl Z) fun r env1 g1 Z1 H1 l1 f1 v rv => ?_⟩
    obtain ⟨Z2, l2, f2, p2⟩ := f1.peek rv
    obtain ⟨x, ex, g3⟩ := g1.of
    obtain ⟨k, ek, g4⟩ := g3.of
    refine ⟨k, ?_, g4 Z2 H1 (l1.trans l2) f2 _ rep_bl⟩
    rw [← hK]
    exact den_tru f2.zh (p2.den f2 ex) ek
theorem se_and {rest : List Expr} (ha : PE X a (tE X.K call W ca)) (hb : PE X (.BoolOp .And (b :: rest) pos) (tE X.K call W cb)) : PE X (.BoolOp .And (a :: b :: rest) pos) (tE X.K call W (.and ca cb)) :=
  PE_imp (pe_and ha hb) fun σ H Q ⟨c, Z, env, hK, f, g⟩ => by
    simp only [evE] at g
    refine ⟨c, Z, env, hK, f, g.next (Le.refl Z) fun r env1 g1 Z1 H1 l1 f1 v rv => ?_⟩
    dsimp only at g1
    split at g1
    · have ev : v = .bl true := by simpa only [RepR, Rep] using rv
      refine ⟨true, ev, ?_⟩
      show tE X.K call W cb σ H1 Q
      exact ⟨c, Z1, env1, hK, f1, g1.imp l1 fun q env2 g2 Z3 H3 l3 f3 u ru => g2 Z3 H3 (l1.trans l3) f3 u ru⟩
    · have ev : v = .bl false := by simpa only [RepR, Rep] using rv
      refine ⟨false, ev, ?_⟩
      show Q (.bl false) H1
      exact g1 Z1 H1 l1 f1 _ rep_bl
    · exact g1.elim
theorem se_or {rest : List Expr} (ha : PE X a (tE X.K call W ca)) (hb : PE X (.BoolOp .Or (b :: rest) pos) (tE X.K call W cb)) : PE X (.BoolOp .Or (a :: b :: rest) pos) (tE X.K call W (.or ca cb)) :=
  PE_imp (pe_or ha hb) fun σ H Q ⟨c, Z, env, hK, f, g⟩ => by
    simp only [evE] at g
    refine ⟨c, Z, env, hK, f, g.next (Le.refl Z) fun r env1 g1 Z1 H1 l1 f1 v rv => ?_⟩
    dsimp only at g1
    split at g1
    · have ev : v = .bl false := by simpa only [RepR, Rep] using rv
      refine ⟨false, ev, ?_⟩
      show tE X.K call W cb σ H1 Q
      exact ⟨c, Z1, env1, hK, f1, g1.imp l1 fun q env2 g2 Z3 H3 l3 f3 u ru => g2 Z3 H3 (l1.trans l3) f3 u ru⟩
    · have ev : v = .bl true := by simpa only [RepR, Rep] using rv
      refine ⟨true, ev, ?_⟩
      show Q (.bl true) H1
      exact g1 Z1 H1 l1 f1 _ rep_bl
    · exact g1.elim
/-- a comparison's reading -/
theorem cmp_read {op : Cop} {K : Frag} {σ : St} {H : Hp} {Q : VK} (h : ∃ (c : Cn) (Z : Hp) (env : Ev), c.K = K ∧ Frame c Z H σ env ∧
      Goal c W Z (fun z env' => ∀ Z' H', Le Z Z' → Frame c Z' H' σ env' → Q (.bl z) H') ((evE call ca env).bind fun p => (evE call cb p.2).bind fun q =>
        (Res.of (asT q.2 p.1)).bind fun x => (Res.of (asT q.2 q.1)).bind fun y => (Res.of (cmpT op x y)).bind fun z => .ok (z, q.2))) :
    tOp (rC K op) (tE K call W ca) (tE K call W cb) σ H Q := by
  obtain ⟨c, Z, env, hK, f, g⟩ := h
  refine ⟨c, Z, env, hK, f, g.next (Le.refl Z) fun r env1 g1 Z1 H1 l1 f1 v rv => ?_⟩
  obtain ⟨Z2, l2, f2, p2⟩ := f1.peek rv
  refine ⟨c, Z2, env1, hK, f2, g1.next (l1.trans l2) fun q env2 g2 Z3 H3 l3 f3 u ru => ?_⟩
  obtain ⟨Z4, l4, f4, p4⟩ := f3.peek ru
  obtain ⟨x, ex, g3⟩ := g2.of
  obtain ⟨y, ey, g4⟩ := g3.of
  obtain ⟨z, ez, g5⟩ := g4.of
  refine ⟨Z4, x, y, z, f4.zh, ?_, ?_, ez, g5 Z4 H3 (l1.trans (l2.trans (l3.trans l4))) f4⟩
  · rw [← hK]
    exact (p2.mono (l3.trans l4)).den f4 ex
  · rw [← hK]
    exact p4.den f4 ey
theorem Goal.flat {β γ δ : Type} {c : Cn} {Z : Hp} {P : δ → Ev → Prop} {P' : γ → Ev → Prop} {m : Res (β × Ev)} {f : β × Ev → Res (δ × Ev)} {f' : β × Ev → Res (γ × Ev)} (g : Goal c W Z P (m.bind f)) (k : ∀ b env, Goal c W Z P (f (b, env)) → Goal c W Z P' (f' (b, env))) : Goal c W Z P' (m.bind f') := by
  cases m with
  | ok p => exact k p.1 p.2 g
  | exc x => exact g
  | bad => exact g
theorem cmp_goal {op : Cop} {c : Cn} {Z : Hp} {P : R → Ev → Prop} {env : Ev} (g : Goal c W Z P (evE call (.cmp op ca cb) env)) :
    Goal c W Z (fun z env' => P (.val (.bl z)) env') ((evE call ca env).bind fun p => (evE call cb p.2).bind fun q => (Res.of (asT q.2 p.1)).bind fun x => (Res.of (asT q.2 q.1)).bind fun y => (Res.of (cmpT op x y)).bind fun z => .ok (z, q.2)) := by
  simp only [evE] at g
  refine g.flat fun r env1 g1 => g1.flat fun q env2 g2 => ?_
  obtain ⟨x, ex, g3⟩ := g2.of
  obtain ⟨y, ey, g4⟩ := g3.of
  obtain ⟨z, ez, g5⟩ := g4.of
  simp only [ex, ey, ez, Res.of_some, Res.bind_ok]
  exact g5
theorem se_cmp {o : CmpOp} {op : Cop} (hu : X.A.units + 64 < cLine) (ho : copOf o = some op) (ha : PE X a (tE X.K call W ca)) (hb : PE X b (tE X.K call W cb)) (hm : behindInMarks o b = false) : PE X (.Compare a [o] [b] pos) (tE X.K call W (.cmp op ca cb)) :=
  PE_imp (pe_cmpR (opC_of hu ho) ha hb hm) fun σ H Q ⟨c, Z, env, hK, f, g⟩ => cmp_read ⟨c, Z, env, hK, f, (cmp_goal g).imp (Le.refl Z) fun z env' h Z' H' l f' => h Z' H' l f' _ rep_bl⟩
theorem st_cmp {o : CmpOp} {op : Cop} (hu : X.A.units + 64 < cLine) (ho : copOf o = some op) (ha : PE X a (tE X.K call W ca)) (hb : PE X b (tE X.K call W cb)) (hm : behindInMarks o b = false) : PT X (.Compare a [o] [b] pos) (tT X.K call W (.cmp op ca cb)) :=
  PT_imp (pt_cmpR (opC_of hu ho) ha hb hm) fun σ H Q ⟨c, Z, env, hK, f, g⟩ => cmp_read (Q := fun v H' => ∃ k, v = .bl k ∧ Q k H') ⟨c, Z, env, hK, f, by
    simp only [evT] at g
    exact g.imp (Le.refl Z) fun z env' h Z' H' l f' => ⟨z, rfl, h Z' H' l f'⟩⟩
/-- a chain of two -/
theorem chain_read {o1 o2 : Cop} {K : Frag} {σ : St} {H : Hp} {Q : VK} (h : ∃ (c : Cn) (Z : Hp) (env : Ev), c.K = K ∧ Frame c Z H σ env ∧
      Goal c W Z (fun z env' => ∀ Z' H', Le Z Z' → Frame c Z' H' σ env' → Q (.bl z) H') (evT call (.chain o1 o2 ca cb cd) env)) :
    tChain (rC K o1) (rC K o2) (tE K call W ca) (tE K call W cb) (tE K call W cd) σ H Q := by
  obtain ⟨c, Z, env, hK, f, g⟩ := h
  simp only [evT] at g
  refine ⟨c, Z, env, hK, f, g.next (Le.refl Z) fun r env1 g1 Z1 H1 l1 f1 v rv => ?_⟩
  obtain ⟨Z2, l2, f2, p2⟩ := f1.peek rv
  refine ⟨c, Z2, env1, hK, f2, g1.next (l1.trans l2) fun q env2 g2 Z3 H3 l3 f3 u ru => ?_⟩
  obtain ⟨Z4, l4, f4, p4⟩ := f3.peek ru
  dsimp only at g2
  split at g2
  · rename_i x y
    obtain ⟨z, ez, g3⟩ := g2.of
    have d1 : Den K Z4 H3 v x := .inl (by rw [← hK]; exact p2.mono (l3.trans l4))
    have d2 : Den K Z4 H3 u y := .inl (by rw [← hK]; exact p4)
    refine ⟨Z4, x, y, z, f4.zh, d1, d2, ez, z, rfl, ?_⟩
    cases z with
    | false => exact g3 Z4 H3 (l1.trans (l2.trans (l3.trans l4))) f4
    | true =>
      simp only [if_true] at g3 ⊢
      refine ⟨c, Z4, env2, hK, f4, g3.next (l1.trans (l2.trans (l3.trans l4))) fun p env3 g4 Z5 H5 l5 f5 w rw => ?_⟩
      dsimp only at g4
      split at g4
      · rename_i t
        obtain ⟨k, ek, g5⟩ := g4.of
        refine ⟨Z5, y, t, k, f5.zh, .inl ?_, .inl ?_, ek, g5 Z5 H5 (l1.trans (l2.trans (l3.trans (l4.trans l5)))) f5⟩
        · rw [← hK]
          exact p4.mono l5
        · rw [← hK]
          exact rw
      · exact g4.elim
  · exact g2.elim
theorem chain_goal {o1 o2 : Cop} {c : Cn} {Z : Hp} {P : R → Ev → Prop} {env : Ev} (g : Goal c W Z P (evE call (.chain o1 o2 ca cb cd) env)) : Goal c W Z (fun z env' => P (.val (.bl z)) env') (evT call (.chain o1 o2 ca cb cd) env) := by
  simp only [evE] at g
  simp only [evT]
  refine g.flat fun r env1 g1 => g1.flat fun q env2 g2 => ?_
  dsimp only at g2 ⊢
  cases r with
  | slot _ => exact g2.elim
  | own _ => exact g2.elim
  | val x =>
    cases q with
    | slot _ => exact g2.elim
    | own _ => exact g2.elim
    | val y =>
      dsimp only at g2 ⊢
      obtain ⟨z, ez, g3⟩ := g2.of
      simp only [ez, Res.of_some, Res.bind_ok]
      cases z with
      | false => exact g3
      | true =>
        simp only [if_true] at g3 ⊢
        refine g3.flat fun p env3 g4 => ?_
        cases p with
        | slot _ => exact g4.elim
        | own _ => exact g4.elim
        | val w =>
          dsimp only at g4 ⊢
          obtain ⟨k, ek, g5⟩ := g4.of
          simp only [ek, Res.of_some, Res.bind_ok]
          exact g5
theorem se_chain {p1 p2 : CmpOp} {o1 o2 : Cop} (hu : X.A.units + 64 < cLine) (h1 : copOf p1 = some o1) (h2 : copOf p2 = some o2) (ha : PE X a (tE X.K call W ca)) (hb : PE X b (tE X.K call W cb)) (hd : PE X d (tE X.K call W cd))
    (hm : lastMarks [p1, p2] [b, d] = false) : PE X (.Compare a [p1, p2] [b, d] pos) (tE X.K call W (.chain o1 o2 ca cb cd)) :=
  PE_imp (pe_chain (opC_of hu h1) (opC_of hu h2) ha hb hd hm) fun σ H Q ⟨c, Z, env, hK, f, g⟩ => chain_read ⟨c, Z, env, hK, f, (chain_goal g).imp (Le.refl Z) fun z env' h Z' H' l f' => h Z' H' l f' _ rep_bl⟩
theorem st_chain {p1 p2 : CmpOp} {o1 o2 : Cop} (hu : X.A.units + 64 < cLine) (h1 : copOf p1 = some o1) (h2 : copOf p2 = some o2) (ha : PE X a (tE X.K call W ca)) (hb : PE X b (tE X.K call W cb)) (hd : PE X d (tE X.K call W cd))
    (hm : lastMarks [p1, p2] [b, d] = false) : PT X (.Compare a [p1, p2] [b, d] pos) (tT X.K call W (.chain o1 o2 ca cb cd)) :=
  PT_imp (pt_chain (opC_of hu h1) (opC_of hu h2) ha hb hd hm) fun σ H Q ⟨c, Z, env, hK, f, g⟩ => chain_read (Q := fun v H' => ∃ k, v = .bl k ∧ Q k H') ⟨c, Z, env, hK, f, g.imp (Le.refl Z) fun z env' h Z' H' l f' => ⟨z, rfl, h Z' H' l f'⟩⟩
theorem se_ife (hc : PT X d (tT X.K call W cd)) (ha : PE X a (tE X.K call W ca)) (hb : PE X b (tE X.K call W cb)) : PE X (.IfExp d a b pos) (tE X.K call W (.ife cd ca cb)) :=
  PE_imp (pe_ifExp hc ha hb) fun σ H Q ⟨c, Z, env, hK, f, g⟩ => by
    simp only [evE] at g
    refine ⟨c, Z, env, hK, f, g.next (Le.refl Z) fun k env1 g1 Z1 H1 l1 f1 => ?_⟩
    cases k with
    | true =>
      simp only [if_true] at g1 ⊢
      exact ⟨c, Z1, env1, hK, f1, g1.imp l1 fun q env2 g2 Z3 H3 l3 f3 u ru => g2 Z3 H3 (l1.trans l3) f3 u ru⟩
    | false =>
      simp only [Bool.false_eq_true, if_false] at g1 ⊢
      exact ⟨c, Z1, env1, hK, f1, g1.imp l1 fun q env2 g2 Z3 H3 l3 f3 u ru => g2 Z3 H3 (l1.trans l3) f3 u ru⟩

/-! ### tests -/
theorem sw_and1 (ha : PT X a (tT X.K call W ca)) : PW X (.BoolOp .And [a] pos) (tT X.K call W ca) := pw_and1 ha
theorem sw_or1 (ha : PT X a (tT X.K call W ca)) : PW X (.BoolOp .Or [a] pos) (tT X.K call W ca) := pw_or1 ha
theorem sw_and {rest : List Expr} (ha : PT X a (tT X.K call W ca)) (hb : PW X (.BoolOp .And (b :: rest) pos) (tT X.K call W cb)) : PW X (.BoolOp .And (a :: b :: rest) pos) (tT X.K call W (.and ca cb)) :=
  PW_imp (pw_and ha hb) fun σ H Q ⟨c, Z, env, hK, f, g⟩ => by
    simp only [evT] at g
    refine ⟨c, Z, env, hK, f, g.next (Le.refl Z) fun k env1 g1 Z1 H1 l1 f1 => ?_⟩
    cases k with
    | true =>
      simp only [if_true] at g1 ⊢
      exact ⟨c, Z1, env1, hK, f1, g1.imp l1 fun q env2 g2 Z3 H3 l3 f3 => g2 Z3 H3 (l1.trans l3) f3⟩
    | false =>
      simp only [Bool.false_eq_true, if_false] at g1 ⊢
      exact g1 Z1 H1 l1 f1
theorem sw_or {rest : List Expr} (ha : PT X a (tT X.K call W ca)) (hb : PW X (.BoolOp .Or (b :: rest) pos) (tT X.K call W cb)) : PW X (.BoolOp .Or (a :: b :: rest) pos) (tT X.K call W (.or ca cb)) :=
  PW_imp (pw_or ha hb) fun σ H Q ⟨c, Z, env, hK, f, g⟩ => by
    simp only [evT] at g
    refine ⟨c, Z, env, hK, f, g.next (Le.refl Z) fun k env1 g1 Z1 H1 l1 f1 => ?_⟩
    cases k with
    | true =>
      simp only [if_true] at g1 ⊢
      exact g1 Z1 H1 l1 f1
    | false =>
      simp only [Bool.false_eq_true, if_false] at g1 ⊢
      exact ⟨c, Z1, env1, hK, f1, g1.imp l1 fun q env2 g2 Z3 H3 l3 f3 => g2 Z3 H3 (l1.trans l3) f3⟩
theorem st_not (ha : PT X a (tT X.K call W ca)) : PT X (.UnaryOp .Not a pos) (tT X.K call W (.nots ca)) :=
  PT_imp (pt_not ha) fun σ H Q ⟨c, Z, env, hK, f, g⟩ => by
    simp only [evT] at g
    exact ⟨c, Z, env, hK, f, g.next (Le.refl Z) fun k env1 g1 Z1 H1 l1 f1 => g1 Z1 H1 l1 f1⟩
/-- an expression whose value is a bool -/
theorem st_val (ha : PE X a (tE X.K call W ca)) (he : ∀ whole, isTrue a X.env whole = (do let v ← whole; standAt a.pos; holding [v] (truthy v)))
    (h : ∀ (c : Cn) (Z : Hp) (env : Ev) (P : Bool → Ev → Prop), Goal c W Z P (evT call ca env) → Goal c W Z (fun r env' => ∃ b, r = .val (.bl b) ∧ P b env') (evE call ca env)) : PT X a (tT X.K call W ca) :=
  PT_imp (pt_val ha he) fun σ H Q ⟨c, Z, env, hK, f, g⟩ => ⟨c, Z, env, hK, f, (h c Z env _ g).imp (Le.refl Z) fun r env' ⟨b, e, k⟩ Z' H' l f' v rv => by
    subst e
    have ev : v = .bl b := by simpa only [RepR, Rep] using rv
    exact ⟨b, ev, k Z' H' l f'⟩⟩
theorem tv_nm {i : Nat} (c : Cn) (Z : Hp) (env : Ev) (P : Bool → Ev → Prop) (g : Goal c W Z P (evT call (.nm i) env)) : Goal c W Z (fun r env' => ∃ b, r = .val (.bl b) ∧ P b env') (evE call (.nm i) env) := by
  simp only [evT] at g
  simp only [evE]
  split at g
  · rename_i b e
    simp only [e]
    exact ⟨b, rfl, g⟩
  · exact g.elim
theorem tv_call {f : Nat} {as : As} (c : Cn) (Z : Hp) (env : Ev) (P : Bool → Ev → Prop) (g : Goal c W Z P (evT call (.call f as) env)) : Goal c W Z (fun r env' => ∃ b, r = .val (.bl b) ∧ P b env') (evE call (.call f as) env) := by
  simp only [evT] at g
  simp only [evE]
  refine g.flat fun args env1 g1 => ?_
  dsimp only at g1 ⊢
  cases e : call f args with
  | exc x => rw [e] at g1; exact g1
  | bad => rw [e] at g1; exact g1
  | ok p =>
    rw [e] at g1
    simp only [Res.bind_ok] at g1 ⊢
    obtain ⟨r, args'⟩ := p
    dsimp only at g1 ⊢
    cases e2 : wb as args' env1 with
    | exc x => rw [e2] at g1; exact g1
    | bad => rw [e2] at g1; exact g1
    | ok env2 =>
      rw [e2] at g1
      simp only [Res.bind_ok] at g1 ⊢
      split at g1
      · rename_i b
        exact ⟨b, rfl, g1⟩
      · exact g1.elim
theorem tv_bi {bb : Bi} (c : Cn) (Z : Hp) (env : Ev) (P : Bool → Ev → Prop) (g : Goal c W Z P (evT call (.bi bb ca) env)) : Goal c W Z (fun r env' => ∃ b, r = .val (.bl b) ∧ P b env') (evE call (.bi bb ca) env) := by
  simp only [evT] at g
  simp only [evE]
  refine g.flat fun r env1 g1 => ?_
  obtain ⟨x, ex, g2⟩ := g1.of
  obtain ⟨z, ez, g3⟩ := g2.of
  simp only [ex, ez, Res.of_some, Res.bind_ok]
  dsimp only at g3
  split at g3
  · rename_i b
    exact ⟨b, rfl, g3⟩
  · exact g3.elim
theorem tv_isin {ty : Ty} (c : Cn) (Z : Hp) (env : Ev) (P : Bool → Ev → Prop) (g : Goal c W Z P (evT call (.isin ca ty) env)) : Goal c W Z (fun r env' => ∃ b, r = .val (.bl b) ∧ P b env') (evE call (.isin ca ty) env) := by
  simp only [evT] at g
  simp only [evE]
  refine g.flat fun r env1 g1 => ?_
  obtain ⟨x, ex, g2⟩ := g1.of
  simp only [ex, Res.of_some, Res.bind_ok]
  exact ⟨_, rfl, g2⟩
theorem tv_idx (c : Cn) (Z : Hp) (env : Ev) (P : Bool → Ev → Prop) (g : Goal c W Z P (evT call (.idx ca cb) env)) : Goal c W Z (fun r env' => ∃ b, r = .val (.bl b) ∧ P b env') (evE call (.idx ca cb) env) := by
  simp only [evT] at g
  simp only [evE]
  refine g.flat fun r env1 g1 => g1.flat fun q env2 g2 => ?_
  obtain ⟨x, ex, g3⟩ := g2.of
  obtain ⟨y, ey, g4⟩ := g3.of
  obtain ⟨z, ez, g5⟩ := g4.of
  simp only [ex, ey, ez, Res.of_some, Res.bind_ok]
  dsimp only at g5
  split at g5
  · rename_i b
    exact ⟨b, rfl, g5⟩
  · exact g5.elim

/-! ### subscripts -/
theorem ixN_len {n m : Nat} {i : Int} (h : n = m) : ixN n i = ixN m i := by rw [h]
theorem reps_atI {K : Frag} {Z : Hp} {vs : List V} {ts : List T} {i : Int} {t : T} (h : Reps K Z vs ts) (e : atI ts i = some t) : ∃ v, atI vs i = some v ∧ Rep K Z v t := by
  unfold atI at e ⊢
  rw [h.len]
  cases q : ixN ts.length i with
  | none => rw [q] at e; cases e
  | some j =>
    rw [q] at e
    exact h.get (i := j) e
theorem se_idx (ha : PE X a (tE X.K call W ca)) (hb : PE X b (tE X.K call W cb)) (hs : PlainIx b) : PE X (.Subscript a b pos) (tE X.K call W (.idx ca cb)) :=
  PE_imp (pe_ix ix_seq ha hb hs) fun σ H Q ⟨c, Z, env, hK, f, g⟩ => by
    simp only [evE] at g
    refine ⟨c, Z, env, hK, f, g.next (Le.refl Z) fun r env1 g1 Z1 H1 l1 f1 v rv => ?_⟩
    obtain ⟨Z2, l2, f2, p2⟩ := f1.peek rv
    refine ⟨c, Z2, env1, hK, f2, g1.next (l1.trans l2) fun q env2 g2 Z3 H3 l3 f3 u ru => ?_⟩
    obtain ⟨Z4, l4, f4, p4⟩ := f3.peek ru
    obtain ⟨x, ex, g3⟩ := g2.of
    obtain ⟨y, ey, g4⟩ := g3.of
    obtain ⟨z, ez, g5⟩ := g4.of
    have d1 := (p2.mono (l3.trans l4)).den f4 ex
    have d2 := p4.den f4 ey
    have l := l1.trans (l2.trans (l3.trans l4))
    cases y <;> simp only [idxT] at ez <;> try (cases ez; done)
    rename_i i
    have eu := den_int d2
    cases x <;> try (simp at ez; done)
    · rename_i z'
      dsimp only at ez
      split at ez
      · rename_i hl
        obtain ⟨n, en, e'⟩ := Option.map_eq_some_iff.mp ez
        subst e'
        exact .inr (.inr ⟨z', i, n, den_str d1, eu, Nat.le_trans hl lim_le, en, g5 Z4 H3 l f4 _ rep_str⟩)
      · cases ez
    · obtain ⟨p, vs, rfl, _, h1, h2⟩ := den_tup f4.zh d1
      obtain ⟨w, hw, rw⟩ := reps_atI h2 ez
      exact .inr (.inl ⟨p, vs, i, w, rfl, eu, SqT.of h1, hw, g5 Z4 H3 l f4 _ rw⟩)
    · obtain ⟨p, vs, rfl, h1, h2⟩ := den_lst f4.zh d1
      obtain ⟨w, hw, rw⟩ := reps_atI h2 ez
      exact .inl ⟨p, vs, i, w, rfl, eu, SqL.of h1, hw, g5 Z4 H3 l f4 _ rw⟩
    · obtain ⟨p, vs, rfl, h1, h2⟩ := den_ro f4.zh d1
      obtain ⟨w, hw, rw⟩ := reps_atI h2 ez
      exact .inl ⟨p, vs, i, w, rfl, eu, hK ▸ h1, hw, g5 Z4 H3 l f4 _ rw⟩
theorem so_none : PO X none (tO X.K call W .none) := PO_imp po_none fun σ H Q ⟨c, Z, env, hK, f, g⟩ => by
  simp only [evO] at g
  exact g Z H (Le.refl Z) f
theorem so_some (ha : PE X a (tE X.K call W ca)) : PO X (some a) (tO X.K call W (.some ca)) := PO_imp (po_some ha) fun σ H Q ⟨c, Z, env, hK, f, g⟩ => by
  simp only [evO] at g
  refine ⟨c, Z, env, hK, f, g.next (Le.refl Z) fun r env1 g1 Z1 H1 l1 f1 v rv => ?_⟩
  dsimp only at g1
  split at g1
  · rename_i i
    have ev : v = .int i := by simpa only [RepR, Rep] using rv
    exact ⟨i, ev, g1 Z1 H1 l1 f1⟩
  · exact g1.elim
def rSl (K : Frag) : V → Option Int → Option Int → Hp → VK → Prop := fun x lo hi H Q => rSlA K x lo hi H Q ∨ rSlL K x lo hi H Q ∨ rSlS x lo hi H Q
theorem sl_any : SlR X (rSl X.K) := sl_tupA.or (sl_list.or sl_str)
theorem cut_whole {α : Type} {xs : List α} {lo hi : Option Int} (h : HT.sIx xs.length 0 lo = 0 ∧ HT.sIx xs.length xs.length hi = xs.length) : cut xs lo hi = xs := by
  unfold Sf.cut
  rw [h.1, h.2]
  simp
theorem se_slc {lo hi : Option Expr} {cl ch : Oe} {p2 : Pos} (ha : PE X a (tE X.K call W ca)) (hl : PO X lo (tO X.K call W cl)) (hh : PO X hi (tO X.K call W ch)) : PE X (.Subscript a (.Slice lo hi none p2) pos) (tE X.K call W (.slc ca cl ch)) :=
  PE_imp (pe_slice sl_any ha hl hh) fun σ H Q ⟨c, Z, env, hK, f, g⟩ => by
    simp only [evE] at g
    refine ⟨c, Z, env, hK, f, g.next (Le.refl Z) fun r env1 g1 Z1 H1 l1 f1 v rv => ?_⟩
    obtain ⟨Z2, l2, f2, p2⟩ := f1.peek rv
    refine ⟨c, Z2, env1, hK, f2, g1.next (l1.trans l2) fun i env2 g2 Z3 H3 l3 f3 => ?_⟩
    refine ⟨c, Z3, env2, hK, f3, g2.next (l1.trans (l2.trans l3)) fun j env3 g3 Z4 H4 l4 f4 => ?_⟩
    obtain ⟨x, ex, g4⟩ := g3.of
    obtain ⟨z, ez, g5⟩ := g4.of
    have d1 := (p2.mono (l3.trans l4)).den f4 ex
    have l := l1.trans (l2.trans (l3.trans l4))
    cases x <;> simp only [slcT] at ez <;> try (cases ez; done)
    · rename_i z'
      split at ez
      · rename_i hl
        cases ez
        exact .inr (.inr ⟨z', den_str d1, Nat.le_trans hl lim_le, g5 Z4 H4 l f4 _ rep_str⟩)
      · cases ez
    · rename_i xs
      cases ez
      obtain ⟨p, vs, rfl, h0, h1, h2⟩ := den_tup f4.zh d1
      refine .inl ⟨p, vs, rfl, SqT.of h1, fun hw => ?_, fun _ q hq => ?_⟩
      · rw [h2.len] at hw
        rw [cut_whole hw] at g5
        refine g5 Z4 H4 l f4 _ ?_
        show Rep c.K Z4 _ (.tup xs)
        simp only [Rep]
        exact ⟨p, vs, rfl, h0, h2⟩
      · obtain ⟨l', f', rp⟩ := f4.newT hq (h2.cut i j)
        exact g5 _ _ (l.trans l') f' _ rp
    · cases ez
      obtain ⟨p, vs, rfl, h1, h2⟩ := den_lst f4.zh d1
      refine .inr (.inl ⟨p, vs, rfl, SqL.of h1, fun q hq => ?_⟩)
      obtain ⟨f', rp⟩ := f4.newL hq (h2.cut i j)
      exact g5 _ _ l f' _ rp
end
end Sf

/-! Sf, part 5: built-in functions, dicts. -/
namespace Sf
open PySem L2

/-! ### sorted texts -/
theorem leS_trans {a b c : Str} (h1 : leS a b = true) (h2 : leS b c = true) : leS a c = true := by
  unfold leS at h1 h2 ⊢
  simp only [Bool.not_eq_true', decide_eq_false_iff_not, List.not_lt] at h1 h2 ⊢
  exact List.le_trans h1 h2
theorem leS_total (a b : Str) : (leS a b || leS b a) = true := by
  unfold leS
  by_cases h : b.cps.toList < a.cps.toList
  · have q : ¬ a.cps.toList < b.cps.toList := List.not_lt.mpr (List.le_of_lt h)
    simp [h, q]
  · simp [h]
theorem leS_anti {a b : Str} (h1 : leS a b = true) (h2 : leS b a = true) : a = b := by
  unfold leS at h1 h2
  simp only [Bool.not_eq_true', decide_eq_false_iff_not, List.not_lt] at h1 h2
  have e := List.le_antisymm h1 h2
  obtain ⟨⟨a⟩⟩ := a
  obtain ⟨⟨b⟩⟩ := b
  simp only at e
  rw [e]
theorem rising_leS : ∀ (p : Str) (l : List Str), PyProof.Rows.risingS p l = true → (p :: l).Pairwise (fun a b => leS a b = true)
  | p, [], _ => by simp
  | p, x :: r, h => by
    have h' : (!PySem.Spec.ltCps x.cps.toList p.cps.toList && PyProof.Rows.risingS x r) = true := h
    rw [Bool.and_eq_true] at h'
    have ih := rising_leS x r h'.2
    have l1 : leS p x = true := by
      unfold leS
      have q := h'.1
      rw [PyProof.Rows.ltCps_eq] at q
      exact q
    refine List.pairwise_cons.mpr ⟨fun y hy => ?_, ih⟩
    rcases List.mem_cons.mp hy with e | hy
    · rw [e]; exact l1
    · exact leS_trans l1 ((List.pairwise_cons.mp ih).1 y hy)
theorem sorted_leS : ∀ (l : List Str), PyProof.Rows.sortedS l = true → l.Pairwise (fun a b => leS a b = true)
  | [], _ => .nil
  | x :: r, h => rising_leS x r h
theorem eq_of_leS {l m : List Str} (p : l.Perm m) (h1 : l.Pairwise (fun a b => leS a b = true)) (h2 : m.Pairwise (fun a b => leS a b = true)) : l = m :=
  p.eq_of_pairwise (fun a b _ _ x y => leS_anti x y) h1 h2
theorem sortS_perm (l : List Str) : (sortS l).Perm l := List.mergeSort_perm l leS
theorem sortS_leS (l : List Str) : (sortS l).Pairwise (fun a b => leS a b = true) := List.pairwise_mergeSort (le := leS) (fun _ _ _ => leS_trans) leS_total l
theorem sorted_is {ys xs : List Str} (p : ys.Perm xs) (h : PyProof.Rows.sortedS ys = true) : ys = sortS xs := eq_of_leS (p.trans (sortS_perm xs).symm) (sorted_leS ys h) (sortS_leS xs)

/-! ### one-argument built-ins -/
def rBi (K : Frag) (b : Bi) : List V → Hp → VK → Prop := fun vs H Q => ∃ (c : Cn) (Z : Hp) (σ : St) (env : Ev) (v : V) (t : T) (r : R), vs = [v] ∧ c.K = K ∧ Frame c Z H σ env ∧ Den K Z H v t ∧ biT b t = some r ∧
  ∀ u Z' H', Le Z Z' → Frame c Z' H' σ env → RepR c Z' H' σ env u r → Q u H'
def biV : Bi → Value
  | .len => .builtin "len"
  | .list => .type "list"
  | .tuple => .type "tuple"
  | .sorted => .builtin "sorted"
  | .sset => .none
  | .int => .type "int"
  | .all => .builtin "all"
def biN : Bi → Str
  | .len => "len"
  | .list => "list"
  | .tuple => "tuple"
  | .sorted => "sorted"
  | .sset => ""
  | .int => "int"
  | .all => "all"
theorem reps_strs {K : Frag} {Z : Hp} : ∀ {ts : List T} {vs : List V} {ys : List Str}, asStrs ts = some ys → Reps K Z vs ts → vs = ys.map V.str
  | [], _, _, e, h => by
    simp only [asStrs, Option.some.injEq] at e
    subst e
    exact reps_nil.mp h
  | t :: ts, _, ys, e, h => by
    obtain ⟨v, r, rfl, h1, h2⟩ := reps_cons.mp h
    cases t <;> simp only [asStrs] at e <;> try (cases e; done)
    split at e
    · rename_i x zs e2
      cases e
      simp only [Rep] at h1
      rw [h1, reps_strs e2 h2]
      rfl
    · cases e
theorem reps_of_strs {K : Frag} {Z : Hp} : ∀ ys : List Str, Reps K Z (ys.map V.str) (ys.map T.str)
  | [] => by simp [Reps]
  | y :: ys => by
    simp only [List.map_cons]
    exact .cons' (by simp only [Rep]) (reps_of_strs ys)
theorem reps_bools {K : Frag} {Z : Hp} : ∀ {ts : List T} {vs : List V} {ys : List Bool}, asBools ts = some ys → Reps K Z vs ts → vs = ys.map V.bl
  | [], _, _, e, h => by
    simp only [asBools, Option.some.injEq] at e
    subst e
    exact reps_nil.mp h
  | t :: ts, _, ys, e, h => by
    obtain ⟨v, r, rfl, h1, h2⟩ := reps_cons.mp h
    cases t <;> simp only [asBools] at e <;> try (cases e; done)
    split at e
    · rename_i x zs e2
      cases e
      simp only [Rep] at h1
      rw [h1, reps_bools e2 h2]
      rfl
    · cases e
section
variable {X : Cx} {call : Call} {W : WX} {pos p p2 : Pos} {a b d : Expr} {ca cb cd : E}
theorem cr_len : CallR X (.builtin "len") (rBi X.K .len) := by
  intro pins s σ H xs us Q I r h
  obtain ⟨c, Z, σ', env, v, t, res, rfl, hK, f, dn, e, q⟩ := h
  refine call_len pins s σ H _ us Q I r ?_
  cases t <;> simp only [biT] at e <;> try (cases e; done)
  · rename_i z
    split at e
    · rename_i hl
      cases e
      exact ⟨v, _, rfl, by rw [den_str dn]; exact ⟨Nat.le_trans hl lim_le, rfl⟩, q _ Z H (Le.refl Z) f rep_int⟩
    · cases e
  · cases e
    obtain ⟨a, vs, rfl, _, h1, h2⟩ := den_tup f.zh dn
    exact ⟨_, _, rfl, .inr ⟨vs, SqT.of h1, rfl⟩, by rw [h2.len]; exact q _ Z H (Le.refl Z) f rep_int⟩
  · cases e
    obtain ⟨a, vs, rfl, h1, h2⟩ := den_lst f.zh dn
    exact ⟨_, _, rfl, .inl ⟨vs, SqL.of h1, rfl⟩, by rw [h2.len]; exact q _ Z H (Le.refl Z) f rep_int⟩
  · cases e
    obtain ⟨a, vs, rfl, h1, h2⟩ := den_ro f.zh dn
    exact ⟨_, _, rfl, .inl ⟨vs, h1, rfl⟩, by rw [h2.len]; exact q _ Z H (Le.refl Z) f rep_int⟩
theorem cr_list : CallR X (.type "list") (rBi X.K .list) := by
  intro pins s σ H xs us Q I r h
  obtain ⟨c, Z, σ', env, v, t, res, rfl, hK, f, dn, e, q⟩ := h
  refine call_list_of pins s σ H _ us Q I r ?_
  cases t <;> simp only [biT] at e <;> try (cases e; done)
  · cases e
    obtain ⟨a, vs, rfl, _, h1, h2⟩ := den_tup f.zh dn
    refine ⟨a, vs, rfl, .inr (SqT.of h1), fun l hl => ?_⟩
    obtain ⟨f', rp⟩ := f.newL hl (by rw [hK]; exact h2)
    exact q _ _ _ (Le.refl Z) f' rp
  · cases e
    obtain ⟨a, vs, rfl, h1, h2⟩ := den_lst f.zh dn
    refine ⟨a, vs, rfl, .inl (SqL.of h1), fun l hl => ?_⟩
    obtain ⟨f', rp⟩ := f.newL hl (by rw [hK]; exact h2)
    exact q _ _ _ (Le.refl Z) f' rp
theorem cr_tuple : CallR X (.type "tuple") (rBi X.K .tuple) := by
  intro pins s σ H xs us Q I r h
  obtain ⟨c, Z, σ', env, v, t, res, rfl, hK, f, dn, e, q⟩ := h
  refine call_tuple_of pins s σ H _ us Q I r ?_
  cases t <;> simp only [biT] at e <;> try (cases e; done)
  · rename_i xs
    cases e
    obtain ⟨a, vs, rfl, h0, h1, h2⟩ := den_tup f.zh dn
    refine ⟨a, vs, rfl, .inr ⟨SqT.of h1, q _ Z H (Le.refl Z) f ?_⟩⟩
    show Rep c.K Z _ (.tup xs)
    simp only [Rep]
    exact ⟨a, vs, rfl, h0, by rw [hK]; exact h2⟩
  · cases e
    obtain ⟨a, vs, rfl, h1, h2⟩ := den_lst f.zh dn
    refine ⟨a, vs, rfl, .inl ⟨SqL.of h1, fun l hl => ?_⟩⟩
    obtain ⟨l', f', rp⟩ := f.newT hl (by rw [hK]; exact h2)
    exact q _ _ _ l' f' rp
theorem cr_sorted : CallR X (.builtin "sorted") (rBi X.K .sorted) := by
  intro pins s σ H xs us Q I r h
  obtain ⟨c, Z, σ', env, v, t, res, rfl, hK, f, dn, e, q⟩ := h
  refine cr_sortedS pins s σ H _ us Q I r ?_
  cases t <;> simp only [biT] at e <;> try (cases e; done)
  split at e
  · rename_i ys es
    split at e
    · rename_i h64
      cases e
      obtain ⟨a, vs, rfl, h1, h2⟩ := den_lst f.zh dn
      have ev := reps_strs es h2
      subst ev
      refine ⟨a, ys, rfl, SqL.of h1, h64, fun zs l pm so hl => ?_⟩
      rw [sorted_is pm so]
      obtain ⟨f', rp⟩ := f.newL hl (reps_of_strs (K := c.K) (Z := Z) (sortS ys))
      exact q _ _ _ (Le.refl Z) f' rp
    · cases e
  · cases e
theorem cr_int : CallR X (.type "int") (rBi X.K .int) := by
  intro pins s σ H xs us Q I r h
  obtain ⟨c, Z, σ', env, v, t, res, rfl, hK, f, dn, e, q⟩ := h
  refine call_int1 pins s σ H _ us Q I r ?_
  cases t <;> simp only [biT] at e <;> try (cases e; done)
  rename_i b
  cases e
  exact .inr ⟨b, by rw [den_bl dn], q _ Z H (Le.refl Z) f rep_int⟩
theorem cr_all' (hc : X.calm = true) : CallR X (.builtin "all") (rBi X.K .all) := by
  intro pins s σ H xs us Q I r h
  obtain ⟨c, Z, σ', env, v, t, res, rfl, hK, f, dn, e, q⟩ := h
  refine cr_all hc pins s σ H _ us Q I r ?_
  cases t <;> simp only [biT] at e <;> try (cases e; done)
  split at e
  · rename_i ys es
    cases e
    obtain ⟨a, vs, rfl, h1, h2⟩ := den_lst f.zh dn
    have ev := reps_bools es h2
    subst ev
    exact ⟨a, ys, rfl, SqL.of h1, q _ Z H (Le.refl Z) f rep_bl⟩
  · cases e
theorem cr_bi {b : Bi} (hc : X.calm = true) (hb : b ≠ .sset) : CallR X (biV b) (rBi X.K b) := by
  cases b with
  | len => exact cr_len
  | list => exact cr_list
  | tuple => exact cr_tuple
  | sorted => exact cr_sorted
  | sset => exact absurd rfl hb
  | int => exact cr_int
  | all => exact cr_all' hc
/-- one argument, by its reading -/
theorem bi_read {b : Bi} {σ : St} {H : Hp} {Q : VK} (h : tE X.K call W (.bi b ca) σ H Q) : tCB (rBi X.K b) (tCons (tE X.K call W ca) tNil) σ H Q := by
  obtain ⟨c, Z, env, hK, f, g⟩ := h
  simp only [evE] at g
  refine ⟨c, Z, env, hK, f, g.next (Le.refl Z) fun r env1 g1 Z1 H1 l1 f1 v rv => ?_⟩
  obtain ⟨Z2, l2, f2, p2⟩ := f1.peek rv
  obtain ⟨x, ex, g2⟩ := g1.of
  obtain ⟨z, ez, g3⟩ := g2.of
  exact ⟨c, Z2, σ, env1, v, x, z, rfl, hK, f2, by rw [← hK]; exact p2.den f2 ex, ez, fun u Z' H' l' f' ru => g3 Z' H' (l1.trans (l2.trans l')) f' u ru⟩
theorem se_bi {b : Bi} (hc : X.calm = true) (hb : b ≠ .sset) (hg : Gl X (biN b)) (hm : X.mg (biN b) = none) (ha : PE X a (tE X.K call W ca)) (he : starEach [a] X.env = (false, eval a X.env) :: starEach [] X.env) :
    PE X (.Call (.Name (biN b) p) [a] [] pos) (tE X.K call W (.bi b ca)) := by
  have pa := pa_cons ha pa_nil he
  refine PE_imp ?_ fun σ H Q h => bi_read h
  cases b with
  | sset => exact absurd rfl hb
  | len => exact pe_callB (cr_bi hc hb) hg hm (by decide +kernel) pa (by decide) (by decide) he
  | sorted => exact pe_callB (cr_bi hc hb) hg hm (by decide +kernel) pa (by decide) (by decide) he
  | all => exact pe_callB (cr_bi hc hb) hg hm (by decide +kernel) pa (by decide) (by decide) he
  | list => exact pe_callTy (cr_bi hc hb) hg hm (by decide +kernel) pa (by decide) (by decide) he
  | tuple => exact pe_callTy (cr_bi hc hb) hg hm (by decide +kernel) pa (by decide) (by decide) he
  | int => exact pe_callTy (cr_bi hc hb) hg hm (by decide +kernel) pa (by decide) (by decide) he

/-! ### max, min -/
theorem se_max (hc : X.calm = true) (hg : Gl X "max") (hm : X.mg "max" = none) (ha : PE X a (tE X.K call W ca)) (hb : PE X b (tE X.K call W cb)) (he : starEach [a, b] X.env = (false, eval a X.env) :: starEach [b] X.env)
    (he2 : starEach [b] X.env = (false, eval b X.env) :: starEach [] X.env) : PE X (.Call (.Name "max" p) [a, b] [] pos) (tE X.K call W (.max ca cb)) :=
  PE_imp (pe_callB (call_max2 hc) hg hm (by decide +kernel) (pa_cons ha (pa_cons hb pa_nil he2) he) (by decide) (by decide) he (by rw [he2]; rfl)) fun σ H Q ⟨c, Z, env, hK, f, g⟩ => by
    simp only [evE] at g
    refine ⟨c, Z, env, hK, f, g.next (Le.refl Z) fun r env1 g1 Z1 H1 l1 f1 v rv => ?_⟩
    refine ⟨c, Z1, env1, hK, f1, g1.next l1 fun q env2 g2 Z2 H2 l2 f2 u ru => ?_⟩
    dsimp only at g2
    split at g2
    · rename_i i j
      have ev : v = .int i := by simpa only [RepR, Rep] using rv
      have eu : u = .int j := by simpa only [RepR, Rep] using ru
      exact ⟨i, j, by rw [ev, eu], g2 Z2 H2 (l1.trans l2) f2 _ rep_int⟩
    · exact g2.elim
theorem se_min (hc : X.calm = true) (hg : Gl X "min") (hm : X.mg "min" = none) (ha : PE X a (tE X.K call W ca)) (hb : PE X b (tE X.K call W cb)) (he : starEach [a, b] X.env = (false, eval a X.env) :: starEach [b] X.env)
    (he2 : starEach [b] X.env = (false, eval b X.env) :: starEach [] X.env) : PE X (.Call (.Name "min" p) [a, b] [] pos) (tE X.K call W (.min ca cb)) :=
  PE_imp (pe_callB (call_min2 hc) hg hm (by decide +kernel) (pa_cons ha (pa_cons hb pa_nil he2) he) (by decide) (by decide) he (by rw [he2]; rfl)) fun σ H Q ⟨c, Z, env, hK, f, g⟩ => by
    simp only [evE] at g
    refine ⟨c, Z, env, hK, f, g.next (Le.refl Z) fun r env1 g1 Z1 H1 l1 f1 v rv => ?_⟩
    refine ⟨c, Z1, env1, hK, f1, g1.next l1 fun q env2 g2 Z2 H2 l2 f2 u ru => ?_⟩
    dsimp only at g2
    split at g2
    · rename_i i j
      have ev : v = .int i := by simpa only [RepR, Rep] using rv
      have eu : u = .int j := by simpa only [RepR, Rep] using ru
      exact ⟨i, j, by rw [ev, eu], g2 Z2 H2 (l1.trans l2) f2 _ rep_int⟩
    · exact g2.elim

/-! ### isinstance -/
def tyS : Ty → String
  | .int => "int"
  | .bool => "bool"
  | .str => "str"
  | .list => "list"
  | .tuple => "tuple"
def tyN : Ty → Str
  | .int => "int"
  | .bool => "bool"
  | .str => "str"
  | .list => "list"
  | .tuple => "tuple"
theorem den_ty {K : Frag} {Z H : Hp} {v : V} {t : T} (l : Le Z H) (dn : Den K Z H v t) (ty : Ty) : ∃ n, TyX K H v (.type n) ∧ PySem.W.kitOne K (.type n) (.type (tyS ty)) = some (isTy ty t) := by
  cases t with
  | non =>
    rw [den_non dn]
    refine ⟨_, .base .non, ?_⟩
    cases ty <;> (simp only [isTy, tyS]; exact kit_ty (by decide +kernel))
  | bl b =>
    rw [den_bl dn]
    refine ⟨_, .base (.bl b), ?_⟩
    cases ty <;> (simp only [isTy, tyS]; exact kit_ty (by decide +kernel))
  | int b =>
    rw [den_int dn]
    refine ⟨_, .base (.int b), ?_⟩
    cases ty <;> (simp only [isTy, tyS]; exact kit_ty (by decide +kernel))
  | str b =>
    rw [den_str dn]
    refine ⟨_, .base (.str b), ?_⟩
    cases ty <;> (simp only [isTy, tyS]; exact kit_ty (by decide +kernel))
  | tup xs =>
    obtain ⟨a, vs, rfl, _, h1, _⟩ := den_tup l dn
    refine ⟨_, .base (.tup h1), ?_⟩
    cases ty <;> (simp only [isTy, tyS]; exact kit_ty (by decide +kernel))
  | lst xs =>
    obtain ⟨a, vs, rfl, h1, _⟩ := den_lst l dn
    refine ⟨_, .base (.lst h1), ?_⟩
    cases ty <;> (simp only [isTy, tyS]; exact kit_ty (by decide +kernel))
  | ro xs =>
    obtain ⟨a, vs, rfl, h1, _⟩ := den_ro l dn
    rcases h1 with (h1 | ⟨o, h1⟩) | ⟨o, its, n, h1, h2, _⟩
    · refine ⟨_, .base (.lst h1), ?_⟩
      cases ty <;> (simp only [isTy, tyS]; exact kit_ty (by decide +kernel))
    · refine ⟨_, .base (.frz h1), ?_⟩
      cases ty <;> (simp only [isTy, tyS]; exact kit_ty (by decide +kernel))
    · refine ⟨_, .kList h1 h2, ?_⟩
      cases ty <;> (simp only [isTy, tyS]; exact kit_ty (by decide +kernel))
theorem se_isin {ty : Ty} (hg : Gl X "isinstance") (hm : X.mg "isinstance" = none) (hg2 : Gl X (tyN ty)) (hm2 : X.mg (tyN ty) = none) (ha : PE X a (tE X.K call W ca))
    (he : starEach [a, .Name (tyN ty) p2] X.env = (false, eval a X.env) :: starEach [.Name (tyN ty) p2] X.env) : PE X (.Call (.Name "isinstance" p) [a, .Name (tyN ty) p2] [] pos) (tE X.K call W (.isin ca ty)) := by
  have pt : PE X (.Name (tyN ty) p2) (tC (.ty (tyS ty))) := by
    cases ty
    · exact pe_bltn hg2 hm2 (u := .type "int") (by decide +kernel) rfl (by decide) (by decide)
    · exact pe_bltn hg2 hm2 (u := .type "bool") (by decide +kernel) rfl (by decide) (by decide)
    · exact pe_bltn hg2 hm2 (u := .type "str") (by decide +kernel) rfl (by decide) (by decide)
    · exact pe_bltn hg2 hm2 (u := .type "list") (by decide +kernel) rfl (by decide) (by decide)
    · exact pe_bltn hg2 hm2 (u := .type "tuple") (by decide +kernel) rfl (by decide) (by decide)
  refine PE_imp (pe_callB call_isi hg hm (by decide +kernel) (pa_cons ha (pa_cons pt pa_nil) he) (by decide) (by decide) he) fun σ H Q ⟨c, Z, env, hK, f, g⟩ => ?_
  simp only [evE] at g
  refine ⟨c, Z, env, hK, f, g.next (Le.refl Z) fun r env1 g1 Z1 H1 l1 f1 v rv => ?_⟩
  obtain ⟨Z2, l2, f2, p2⟩ := f1.peek rv
  obtain ⟨x, ex, g2⟩ := g1.of
  obtain ⟨n, h1, h2⟩ := den_ty f2.zh (p2.den f2 ex) ty
  exact ⟨v, .ty (tyS ty), _, _, _, rfl, .ty _, hK ▸ h1, hK ▸ h2, g2 Z2 H1 (l1.trans l2) f2 _ rep_bl⟩
end

/-! ### dicts -/
theorem dct_at {c : Cn} {Z H : Hp} {σ : St} {env : Ev} {i : Nat} {kvs : List (Str × T)} (f : Frame c Z H σ env) (e : dctAt env i = some kvs) : ∃ a ps, σ[i]? = some (some (.ref a)) ∧ Z a = none ∧ c.G a = none ∧ H a = some (.dK ps) ∧ RepKv c.K Z ps kvs ∧ ownS (get env i) := by
  unfold dctAt at e
  split at e
  · rename_i ks q
    cases e
    obtain ⟨a, h1, h2, h3, ps, h4, h5⟩ := f.slot_at q
    exact ⟨a, ps, h1, h2, h3, h4, h5, by rw [q]; trivial⟩
  · rename_i ks q
    cases e
    obtain ⟨a, h1, h2, h3, ⟨ps, h4, h5⟩, _⟩ := f.slot_at q
    exact ⟨a, ps, h1, h2, h3, h4, h5, by rw [q]; trivial⟩
  · cases e
theorem look_cons (p : Str × T) (r : List (Str × T)) (k : Str) : look (p :: r) k = if p.1 = k then some p.2 else look r k := by
  unfold look
  rw [List.lookup_cons]
  by_cases h : p.1 = k
  · subst h; simp
  · have h' : (k == p.1) = false := by simpa using fun e => h e.symm
    simp [h', h]
theorem kv_look {K : Frag} {Z : Hp} {k : Str} : ∀ {kvs : List (Str × T)} {ps : List (Key × V)}, RepKv K Z ps kvs →
    (∀ t, look kvs k = some t → ∃ v, valV ps (.inr k) = some v ∧ Rep K Z v t) ∧ (look kvs k = none → valV ps (.inr k) = none)
  | [], ps, h => by
    have e : ps = [] := h
    subst e
    exact ⟨fun t e => by simp [look] at e, fun _ => valV_nil⟩
  | p :: r, ps, h => by
    obtain ⟨v, qs, rfl, h1, h2⟩ := h
    have ih := kv_look (k := k) h2
    rw [look_cons]
    by_cases e : p.1 = k
    · rw [if_pos e]
      rw [valV_pos (by rw [e])]
      exact ⟨fun t z => by cases z; exact ⟨v, rfl, h1⟩, fun z => by cases z⟩
    · rw [if_neg e]
      rw [valV_neg (by intro z; exact e (Sum.inr.inj z))]
      exact ih
theorem kv_keys {K : Frag} {Z : Hp} : ∀ {kvs : List (Str × T)} {ps : List (Key × V)}, RepKv K Z ps kvs → ps.map (·.1) = kvs.map fun p => Sum.inr p.1
  | [], ps, h => by
    have e : ps = [] := h
    subst e
    rfl
  | p :: r, ps, h => by
    obtain ⟨v, qs, rfl, h1, h2⟩ := h
    simp [kv_keys h2]
theorem kv_any {K : Frag} {Z : Hp} {k : Str} : ∀ {kvs : List (Str × T)} {ps : List (Key × V)}, RepKv K Z ps kvs → (ps.any fun kv => decide (kv.1 = .inr k)) = kvs.any fun kv => decide (kv.1 = k)
  | [], ps, h => by
    have e : ps = [] := h
    subst e
    rfl
  | p :: r, ps, h => by
    obtain ⟨v, qs, rfl, h1, h2⟩ := h
    simp only [List.any_cons, kv_any h2, Sum.inr.injEq]
theorem kv_map {K : Frag} {Z : Hp} {k : Str} {v : V} {t : T} (rv : Rep K Z v t) : ∀ {kvs : List (Str × T)} {ps : List (Key × V)}, RepKv K Z ps kvs →
    RepKv K Z (ps.map fun kv => if kv.1 = .inr k then (kv.1, v) else kv) (kvs.map fun kv => if kv.1 = k then (kv.1, t) else kv)
  | [], ps, h => by
    have e : ps = [] := h
    subst e
    exact rfl
  | p :: r, ps, h => by
    obtain ⟨u, qs, rfl, h1, h2⟩ := h
    have ih := kv_map (k := k) rv h2
    simp only [List.map_cons, Sum.inr.injEq]
    by_cases e : p.1 = k
    · rw [if_pos e, if_pos e]
      exact ⟨v, _, rfl, rv, ih⟩
    · rw [if_neg e, if_neg e]
      exact ⟨u, _, rfl, h1, ih⟩
theorem kv_app {K : Frag} {Z : Hp} {k : Str} {v : V} {t : T} (rv : Rep K Z v t) : ∀ {kvs : List (Str × T)} {ps : List (Key × V)}, RepKv K Z ps kvs → RepKv K Z (ps ++ [(.inr k, v)]) (kvs ++ [(k, t)])
  | [], ps, h => by
    have e : ps = [] := h
    subst e
    exact ⟨v, [], rfl, rv, rfl⟩
  | p :: r, ps, h => by
    obtain ⟨u, qs, rfl, h1, h2⟩ := h
    exact ⟨u, _, rfl, h1, kv_app rv h2⟩
theorem kv_put {K : Frag} {Z : Hp} {k : Str} {v : V} {t : T} (rv : Rep K Z v t) {kvs : List (Str × T)} {ps : List (Key × V)} (h : RepKv K Z ps kvs) : RepKv K Z (putK ps (.inr k) v) (store kvs k t) := by
  unfold putK store
  rw [kv_any h]
  split
  · exact kv_map rv h
  · exact kv_app rv h
/-- an owned object is rewritten -/
theorem Frame.write {c : Cn} {Z H : Hp} {σ : St} {env : Ev} {i : Nat} {a : Addr} {o : M} {u : HO} (f : Frame c Z H σ env) (hs : σ[i]? = some (some (.ref a))) (ho : ownS (get env i)) (hz : Z a = none) (hg : c.G a = none)
    (hr : RepM c.K Z (upd H a u) a o) : Frame c Z (upd H a u) σ (setM env i o) where
  zh := fun b w e => by rw [upd_ne (ne_of_none e hz)]; exact f.zh b w e
  gh := fun b w e => by rw [upd_ne (ne_of_none e hg)]; exact f.gh b w e
  zg := f.zg
  sl := fun j => by
    have other : ∀ j, j ≠ i → SlotOk c Z (upd H a u) σ j (get env j) := fun j hj => by
      have h := f.sl j
      cases e : get env j with
      | un => trivial
      | val t => rw [e] at h; exact h
      | own m =>
        rw [e] at h
        obtain ⟨b, h1, h2, h3, h4⟩ := h
        have nb : b ≠ a := fun z => hj (f.inj j i a (by rw [e]; trivial) ho (by rw [h1, z]) hs)
        exact ⟨b, h1, h2, h3, h4.mono (Le.refl Z) (upd_ne nb)⟩
      | bor m =>
        rw [e] at h
        obtain ⟨b, h1, h2, h3, h4, h5⟩ := h
        have nb : b ≠ a := fun z => hj (f.inj j i a (by rw [e]; trivial) ho (by rw [h1, z]) hs)
        exact ⟨b, h1, h2, h3, h4.mono (Le.refl Z) (upd_ne nb), h5⟩
    unfold setM
    cases e : get env i with
    | un => rw [e] at ho; exact ho.elim
    | val t => rw [e] at ho; exact ho.elim
    | own m =>
      dsimp only
      rcases get_put (env := env) (i := i) (j := j) (s := .own o) with ⟨rfl, q | q⟩ | ⟨ne, q⟩
      · rw [q]; exact ⟨a, hs, hz, hg, hr⟩
      · rw [q]; trivial
      · rw [q]; exact other j ne
    | bor m =>
      dsimp only
      rcases get_put (env := env) (i := i) (j := j) (s := .bor o) with ⟨rfl, q | q⟩ | ⟨ne, q⟩
      · rw [q]
        obtain ⟨b, h1, _, _, _, h5⟩ := f.slot_at e
        rw [hs] at h1
        cases h1
        exact ⟨a, hs, hz, hg, hr, h5⟩
      · rw [q]; trivial
      · rw [q]; exact other j ne
  inj := fun j k b h1 h2 => by
    have own' : ∀ j, ownS (get (setM env i o) j) → ownS (get env j) := fun j h => by
      unfold setM at h
      split at h
      · rename_i m e
        rcases get_put (env := env) (i := i) (j := j) (s := .own o) with ⟨rfl, q | q⟩ | ⟨ne, q⟩
        · rw [e]; trivial
        · rw [q] at h; exact h.elim
        · rw [q] at h; exact h
      · rename_i m e
        rcases get_put (env := env) (i := i) (j := j) (s := .bor o) with ⟨rfl, q | q⟩ | ⟨ne, q⟩
        · rw [e]; trivial
        · rw [q] at h; exact h.elim
        · rw [q] at h; exact h
      · exact h
    exact f.inj j k b (own' j h1) (own' k h2)
  len := by
    have e : (setM env i o).length = env.length := by
      unfold setM
      split <;> first | exact put_length | rfl
    rw [e]
    exact f.len
section
variable {X : Cx} {call : Call} {W : WX} {pos p apos : Pos} {a b d : Expr} {ca cb cd : E} {i : Nat} {x : Str}
/-- a name's slot, as it stands -/
theorem pe_slot {x : Str} (hN : X.N[i]? = some x) (hv : Vis X.env.scope x) (hd : (x == ("__debug__" : Str)) = false) (hcd : (x == ("__classdict__" : Str)) = false) : PE X (.Name x p) (tVar i) := pe_var hN hv hd hcd
theorem rep_txt {c : Cn} {Z H : Hp} {σ : St} {env : Ev} {v : V} {x : Str} (h : RepR c Z H σ env v (.val (.str x))) : v = .str x := by simpa only [RepR, Rep] using h
theorem dct_get {c : Cn} {Z H : Hp} {σ : St} {env : Ev} {kvs : List (Str × T)} (f : Frame c Z H σ env) (e : dctAt env i = some kvs) {k : Str} {r : Option T} (hr : look kvs k = r) :
    ∃ a, σ[i]? = some (some (.ref a)) ∧ ∃ o, DGet H a (.str k) o ∧ ((r = none ∧ o = none) ∨ ∃ t v, r = some t ∧ o = some v ∧ Rep c.K Z v t) := by
  obtain ⟨a, ps, h1, _, _, h4, h5, _⟩ := dct_at f e
  refine ⟨a, h1, valV ps (.inr k), DGet.k (k := .inr k) h4, ?_⟩
  obtain ⟨q1, q2⟩ := kv_look (k := k) h5
  cases r with
  | none => exact .inl ⟨rfl, q2 hr⟩
  | some t =>
    obtain ⟨v, z1, z2⟩ := q1 t hr
    exact .inr ⟨t, v, rfl, z1, z2⟩
theorem dct_isD {c : Cn} {Z H : Hp} {σ : St} {env : Ev} {kvs : List (Str × T)} (f : Frame c Z H σ env) (e : dctAt env i = some kvs) : ∃ a, σ[i]? = some (some (.ref a)) ∧ IsD H a := by
  obtain ⟨a, ps, h1, _, _, h4, h5, _⟩ := dct_at f e
  exact ⟨a, h1, .inl ⟨ps, .inl h4⟩⟩
theorem se_getd (hu : X.A.units + 64 < cLine) (ho : PE X (.Name x p) (tVar i)) (ha : PE X a (tE X.K call W ca)) (hb : PE X b (tE X.K call W cb)) (m : M2 X (.Name x p) "get" apos a b pos) :
    PE X (.Call (.Attribute (.Name x p) "get" apos) [a, b] [] pos) (tE X.K call W (.getd i ca cb)) :=
  PE_imp (pe_dget2 (by omega) ho ha hb m) fun σ H Q ⟨c, Z, env, hK, f, g⟩ => by
    simp only [evE] at g
    obtain ⟨ks, ek, g0⟩ := g.of
    obtain ⟨ad, hs, hd⟩ := dct_isD f ek
    refine ⟨.ref ad, hs, ad, rfl, hd, c, Z, env, hK, f, g0.next (Le.refl Z) fun r env1 g1 Z1 H1 l1 f1 v rv => ?_⟩
    refine ⟨c, Z1, env1, hK, f1, g1.next l1 fun q env2 g2 Z2 H2 l2 f2 u ru => ?_⟩
    dsimp only at g2
    split at g2
    · rename_i k t
      obtain ⟨kvs, e2, g3⟩ := g2.of
      obtain ⟨a2, hs2, o, hg, ho⟩ := dct_get f2 e2 (k := k) rfl
      rw [hs] at hs2
      cases hs2
      rw [rep_txt rv]
      refine ⟨o, hg, g3 Z2 H2 (l1.trans l2) f2 _ ?_⟩
      rcases ho with ⟨e4, e5⟩ | ⟨t', v', e4, e5, e6⟩
      · rw [e4, e5]; exact ru
      · rw [e4, e5]; exact e6
    · exact g2.elim
theorem se_dsub (hu : X.A.units + 64 < cLine) (ho : PE X (.Name x p) (tVar i)) (ha : PE X a (tE X.K call W ca)) (hs : NoSl a) : PE X (.Subscript (.Name x p) a pos) (tE X.K call W (.dsub i ca)) :=
  PE_imp (pe_dget (by omega) ho ha hs) fun σ H Q ⟨c, Z, env, hK, f, g⟩ => by
    simp only [evE] at g
    obtain ⟨ks, ek, g0⟩ := g.of
    obtain ⟨ad, hs, hd⟩ := dct_isD f ek
    refine ⟨.ref ad, hs, c, Z, env, hK, f, g0.next (Le.refl Z) fun r env1 g1 Z1 H1 l1 f1 v rv => ?_⟩
    dsimp only at g1
    split at g1
    · rename_i k
      obtain ⟨kvs, e2, g3⟩ := g1.of
      obtain ⟨t, e3, g4⟩ := g3.of
      obtain ⟨a2, hs2, o, hg, ho⟩ := dct_get f1 e2 e3
      rw [hs] at hs2
      cases hs2
      rcases ho with ⟨e4, e5⟩ | ⟨t', v', e4, e5, e6⟩
      · cases e4
      · cases e4
        subst e5
        rw [rep_txt rv]
        exact ⟨ad, v', rfl, hg, g4 Z1 H1 l1 f1 _ e6⟩
    · exact g1.elim
theorem se_dnil : PE X (.Dict [] [] pos) (tE X.K call W .dnil) :=
  PE_imp pe_dnewK fun σ H Q ⟨c, Z, env, hK, f, g⟩ q hq => by
    simp only [evE] at g
    obtain ⟨h1, h2, h3⟩ := f.fresh hq
    exact g Z _ (Le.refl Z) (f.alloc hq) _ ⟨q, rfl, h1, h2, ⟨[], upd_same, rfl⟩, h3⟩
/-- one more object must be kept -/
abbrev Cn.more (c : Cn) (p : Addr) (o : HO) : Cn := { c with G := upd c.G p o }
theorem Frame.more {c : Cn} {Z H : Hp} {σ : St} {env : Ev} {p : Addr} {o : HO} (f : Frame c Z H σ env) (hz : Z p = none) (hg : c.G p = none) (hh : H p = some o) (hs : ∀ i, ownS (get env i) → σ[i]? ≠ some (some (.ref p))) : Frame (c.more p o) Z H σ env where
  zh := f.zh
  gh := fun b w e => by
    by_cases q : b = p
    · subst q
      rw [show (c.more b o).G b = some o from upd_same] at e
      cases e
      exact hh
    · rw [show (c.more p o).G b = c.G b from upd_ne q] at e
      exact f.gh b w e
  zg := fun b w e => by
    by_cases q : b = p
    · rw [q]; exact hz
    · rw [show (c.more p o).G b = c.G b from upd_ne q] at e
      exact f.zg b w e
  sl := fun i => by
    have h := f.sl i
    have hs' := hs i
    cases e : get env i with
    | un => trivial
    | val t => rw [e] at h; exact h
    | own m =>
      rw [e] at h hs'
      obtain ⟨b, h1, h2, h3, h4⟩ := h
      have nb : b ≠ p := fun z => hs' trivial (by rw [h1, z])
      exact ⟨b, h1, h2, (upd_ne nb).trans h3, h4⟩
    | bor m =>
      rw [e] at h hs'
      obtain ⟨b, h1, h2, h3, h4, h5⟩ := h
      have nb : b ≠ p := fun z => hs' trivial (by rw [h1, z])
      exact ⟨b, h1, h2, (upd_ne nb).trans h3, h4, h5⟩
  inj := f.inj
  len := f.len
theorem Frame.less {c : Cn} {Z H : Hp} {σ : St} {env : Ev} {p : Addr} {o : HO} (f : Frame (c.more p o) Z H σ env) (hg : c.G p = none) : Frame c Z H σ env ∧ Z p = none ∧ H p = some o ∧ ∀ i, ownS (get env i) → σ[i]? ≠ some (some (.ref p)) := by
  have ep : (c.more p o).G p = some o := upd_same
  refine ⟨⟨f.zh, fun b w e => ?_, fun b w e => ?_, fun i => ?_, f.inj, f.len⟩, f.zg _ _ ep, f.gh _ _ ep, fun i h e => ?_⟩
  · have ne : b ≠ p := fun z => by rw [z, hg] at e; cases e
    exact f.gh b w ((upd_ne ne).trans e)
  · have ne : b ≠ p := fun z => by rw [z, hg] at e; cases e
    exact f.zg b w ((upd_ne ne).trans e)
  · have h := f.sl i
    cases e : get env i with
    | un => trivial
    | val t => rw [e] at h; exact h
    | own m =>
      rw [e] at h
      obtain ⟨b, h1, h2, h3, h4⟩ := h
      have nb : b ≠ p := fun z => by rw [z, ep] at h3; cases h3
      exact ⟨b, h1, h2, (upd_ne nb).symm.trans h3, h4⟩
    | bor m =>
      rw [e] at h
      obtain ⟨b, h1, h2, h3, h4, h5⟩ := h
      have nb : b ≠ p := fun z => by rw [z, ep] at h3; cases h3
      exact ⟨b, h1, h2, (upd_ne nb).symm.trans h3, h4, h5⟩
  · have hs := f.sl i
    cases q : get env i with
    | un => rw [q] at h; exact h
    | val t => rw [q] at h; exact h
    | own m =>
      rw [q] at hs
      obtain ⟨b, h1, _, h3, _⟩ := hs
      rw [e] at h1
      cases h1
      rw [ep] at h3
      cases h3
    | bor m =>
      rw [q] at hs
      obtain ⟨b, h1, _, h3, _⟩ := hs
      rw [e] at h1
      cases h1
      rw [ep] at h3
      cases h3
theorem RepR.less {c : Cn} {Z H : Hp} {σ : St} {env : Ev} {v : V} {r : R} {p : Addr} {o : HO} (h : RepR (c.more p o) Z H σ env v r) (hg : c.G p = none) : RepR c Z H σ env v r := by
  cases r with
  | val t => exact h
  | slot i => exact h
  | own m =>
    obtain ⟨b, h1, h2, h3, h4, h5⟩ := h
    refine ⟨b, h1, h2, ?_, h4, h5⟩
    by_cases e : b = p
    · rw [e]; exact hg
    · exact (upd_ne e).symm.trans h3
theorem Goal.more {β : Type} {c : Cn} {Z Z1 : Hp} {P P' : β → Ev → Prop} {m : Res (β × Ev)} {p : Addr} {o : HO} (g : Goal c W Z P m) (l : Le Z Z1) (hg : c.G p = none) (k : ∀ b env, P b env → P' b env) : Goal (c.more p o) W Z1 P' m := by
  cases m with
  | ok q => exact k q.1 q.2 g
  | bad => exact g
  | exc x => exact fun cls d Z' H' a b e r => g cls d Z' H' (l.trans a) b (fun q w z => e q w (by
      have ne : q ≠ p := fun t => by rw [t, hg] at z; cases z
      exact (upd_ne ne).trans z)) r
theorem se_dlit {k v : Expr} {ck cv : E} (hk : PE X k (tE X.K call W ck)) (hv : PE X v (tE X.K call W cv)) : PE X (.Dict [some k] [v] pos) (tE X.K call W (.dlit ck cv)) :=
  PE_imp (pe_disp (pps_cons hk hv pps_nil) rfl rfl (by simp) (by simp)) fun σ H Q ⟨c, Z, env, hK, f, g⟩ q hq => by
    simp only [evE] at g
    obtain ⟨h1, h2, h3⟩ := f.fresh hq
    have f0 : Frame (c.more q (.dK [])) Z (upd H q (.dK [])) σ env := (f.alloc hq).more h1 h2 upd_same h3
    have g' := Goal.more (o := .dK []) g (Le.refl Z) h2 fun _ _ h => h
    refine ⟨c.more q (.dK []), Z, env, hK, f0, g'.next (Le.refl Z) fun r env1 g1 Z1 H1 l1 f1 v rv => ?_⟩
    refine ⟨c.more q (.dK []), Z1, env1, hK, f1, g1.next l1 fun w env2 g2 Z2 H2 l2 f2 u ru => ?_⟩
    obtain ⟨f3, h4, h5, h6⟩ := f2.less h2
    dsimp only at g2
    split at g2
    · rename_i k t
      refine ⟨h5, [(.inr k, u)], by rw [rep_txt rv]; rfl, by simp, ?_⟩
      have ef : Frame c Z2 (upd H2 q (.dK [(.inr k, u)])) σ env2 := by
        refine ⟨fun b w e => ?_, fun b w e => ?_, f3.zg, fun j => ?_, f3.inj, f3.len⟩
        · rw [upd_ne (ne_of_none e h4)]; exact f3.zh b w e
        · rw [upd_ne (ne_of_none e h2)]; exact f3.gh b w e
        · have h := f3.sl j
          have hs' := h6 j
          cases e : get env2 j with
          | un => trivial
          | val t => rw [e] at h; exact h
          | own m =>
            rw [e] at h hs'
            obtain ⟨b, h1, h2, h3, h4⟩ := h
            exact ⟨b, h1, h2, h3, h4.mono (Le.refl _) (upd_ne fun z => hs' trivial (by rw [h1, z]))⟩
          | bor m =>
            rw [e] at h hs'
            obtain ⟨b, h1, h2, h3, h4, h5⟩ := h
            exact ⟨b, h1, h2, h3, h4.mono (Le.refl _) (upd_ne fun z => hs' trivial (by rw [h1, z])), h5⟩
      exact g2 Z2 _ (l1.trans l2) ef _ ⟨q, rfl, h4, h2, ⟨[(.inr k, u)], upd_same, u, [], rfl, ru, rfl⟩, h6⟩
    · exact g2.elim

/-! ### a copy; == and != of two dicts -/
theorem se_dcopy (hg : Gl X "dict") (hm : X.mg "dict" = none) (ho : PE X (.Name x p) (tVar i)) : PE X (.Call (.Name "dict" pos) [.Name x p] [] apos) (tE X.K call W (.dcopy i)) := by
  have cr : CallR X (.type "dict") (fun vs H Q => ∃ a ps, vs = [V.ref a] ∧ H a = some (.dK ps) ∧ ∀ q, H q = none → Q (.ref q) (upd H q (.dK ps))) := by
    intro pins s σ H xs us Q I r h
    obtain ⟨a, ps, rfl, h1, h2⟩ := h
    rw [Vals.ref1 r]
    exact d_copyOf I (.inl h1) fun q s' hq I' => ⟨.ref q, _, I', rfl, h2 q hq⟩
  refine PE_imp (pe_callTy cr hg hm (by decide +kernel) (pa_cons ho pa_nil) (by decide) (by decide)) fun σ H Q ⟨c, Z, env, hK, f, g⟩ => ?_
  simp only [evE] at g
  obtain ⟨kvs, ek, g1⟩ := g.of
  obtain ⟨a, ps, q1, q2, q3, q4, q5, _⟩ := dct_at f ek
  refine ⟨.ref a, q1, a, ps, rfl, q4, fun q hq => ?_⟩
  obtain ⟨h1, h2, h3⟩ := f.fresh hq
  exact g1 Z _ (Le.refl Z) (f.alloc hq) _ ⟨q, rfl, h1, h2, ⟨ps, upd_same, q5⟩, h3⟩
theorem kv_eq {K : Frag} {Z : Hp} : ∀ {kvs kws : List (Str × T)} {ps qs : List (Key × V)}, T.beqs (kvs.map (·.2)) (kws.map (·.2)) = true → kvs.map (·.1) = kws.map (·.1) → (kvs.all fun p => p.2.scal.isSome) = true → RepKv K Z ps kvs → RepKv K Z qs kws →
    ps = qs ∧ ∀ p ∈ ps, flatB p.2 = true
  | [], kws, ps, qs, h1, h2, _, h3, h4 => by
    have e : ps = [] := h3
    have e2 : kws = [] := by simpa using h2.symm
    subst e e2
    have e3 : qs = [] := h4
    exact ⟨e3.symm, by simp⟩
  | p :: r, [], _, _, _, h2, _, _, _ => by simp at h2
  | p :: r, p' :: r', ps, qs, h1, h2, h5, h3, h4 => by
    obtain ⟨v, vs, rfl, a1, a2⟩ := h3
    obtain ⟨u, us, rfl, b1, b2⟩ := h4
    simp only [List.map_cons, T.beqs, Bool.and_eq_true] at h1
    simp only [List.map_cons, List.cons.injEq] at h2
    simp only [List.all_cons, Bool.and_eq_true] at h5
    obtain ⟨e, h⟩ := kv_eq h1.2 h2.2 h5.2 a2 b2
    have et := T.beq_eq h1.1
    obtain ⟨x, hx⟩ := Option.isSome_iff_exists.mp h5.1
    rw [← et] at b1
    have ev := rep_scal hx a1
    have eu := rep_scal hx b1
    refine ⟨by rw [e, h2.1, ev, eu], fun w hw => ?_⟩
    rcases List.mem_cons.mp hw with e | hw
    · rw [e]
      show flatB v = true
      rw [ev]
      cases hp : p.2 <;> rw [hp] at hx <;> simp only [T.scal] at hx <;> cases hx <;> rfl
    · exact h w hw
theorem valV_self {ps : List (Key × V)} (nd : (ps.map (·.1)).Nodup) : ∀ p ∈ ps, valV ps p.1 = some p.2 := by
  induction ps with
  | nil => simp
  | cons q r ih =>
    intro p hp
    simp only [List.map_cons, List.nodup_cons] at nd
    rcases List.mem_cons.mp hp with e | hp
    · rw [e]; exact valV_pos rfl
    · rw [valV_neg (fun e => nd.1 (by rw [e]; exact List.mem_map.mpr ⟨p, hp, rfl⟩))]
      exact ih nd.2 p hp
theorem keq_hits {A : Around} {s : Shared} {ls : List (Key × V)} {vb : List (Key × Value)} (rb : KV ls vb) {ks : List (Key × V)} {va : List (Key × Value)} (ra : KV ks va) :
    (∀ p ∈ ks, valV ls p.1 = some p.2 ∧ flatB p.2 = true) → PySem.W.KeqHits A s vb va true := by
  unfold KV at ra
  induction ra with
  | nil => intro _; exact .nil
  | @cons p q ps qs h t k =>
    intro hp
    obtain ⟨h1, h2⟩ := h
    obtain ⟨e, f⟩ := hp p List.mem_cons_self
    have rr : RelO (some p.2) (valueAt vb p.1) := by rw [← e]; exact rb.val p.1
    obtain ⟨y, hy, ry⟩ := rr.some_of
    obtain ⟨key, v⟩ := q
    have h1' : p.1 = key := h1
    rw [h1'] at hy
    show PySem.W.KeqHits A s vb ((key, v) :: qs) (true && true)
    exact .hit hy (eqAt_same h2 ry f) (k fun p' hm => hp p' (List.mem_cons_of_mem _ hm))
def rDeq (neg : Bool) : R2 := fun x y H Q => ∃ a b ps, x = .ref a ∧ y = .ref b ∧ H a = some (.dK ps) ∧ H b = some (.dK ps) ∧ (ps.map (·.1)).Nodup ∧ (∀ p ∈ ps, flatB p.2 = true) ∧ Q (.bl (!neg)) H
def deqOp (neg : Bool) : CmpOp := if neg then .NotEq else .Eq
theorem op_deq (hu : X.A.units + 64 < cLine) (neg : Bool) : OpR X (compareOp (deqOp neg)) (rDeq neg) := by
  intro pins s σ H x y v u Q I rx ry h
  obtain ⟨a, b, ps, rfl, rfl, ha, hb, nd, hf, q⟩ := h
  cases (show v = Value.ref a from rx)
  cases (show u = Value.ref b from ry)
  obtain ⟨_, ya, va, ra, da⟩ := (show ObjOk X.prog X.w H s.heap a (.dK ps) from I.hok a _ ha)
  obtain ⟨_, yb, vb, rb, db⟩ := (show ObjOk X.prog X.w H s.heap b (.dK ps) from I.hok b _ hb)
  have e : va.length = vb.length := by rw [← ra.length, ← rb.length]
  have hh : ∀ A : Around, PySem.W.KeqHits A s vb va true := fun A => keq_hits rb ra fun p hp => ⟨valV_self nd p hp, hf p hp⟩
  cases neg with
  | false =>
    refine PySem.W.keq_eq (knd := mixKind X.prog X.w) (r := true) ya yb da db (by omega) (fun _ => hh _) ?_
    rw [show (va.length == vb.length && true) = true from by rw [e]; simp]
    exact ⟨.bl true, H, I, rfl, q⟩
  | true =>
    refine PySem.W.keq_ne (knd := mixKind X.prog X.w) (r := true) ya yb da db (by omega) (fun _ => hh _) ?_
    rw [show (!(va.length == vb.length && true)) = false from by rw [e]; simp]
    exact ⟨.bl false, H, I, rfl, q⟩
theorem deq_read {neg : Bool} {j : Nat} {c : Cn} {Z H : Hp} {σ : St} {env : Ev} {kvs kws : List (Str × T)} {Q : VK} (f : Frame c Z H σ env) (e1 : dctAt env i = some kvs) (e2 : dctAt env j = some kws) (e3 : eqKv kvs kws = true) (q : Q (.bl (!neg)) H) : tOp (rDeq neg) (tVar i) (tVar j) σ H Q := by
  obtain ⟨a, ps, h1, _, _, h4, h5, _⟩ := dct_at f e1
  obtain ⟨b, qs, k1, _, _, k4, k5, _⟩ := dct_at f e2
  unfold eqKv at e3
  simp only [Bool.and_eq_true, decide_eq_true_eq] at e3
  obtain ⟨⟨⟨x1, x2⟩, x3⟩, x4⟩ := e3
  obtain ⟨rfl, hf⟩ := kv_eq x1 x2 x4 h5 k5
  refine ⟨.ref a, h1, .ref b, k1, a, b, ps, rfl, rfl, h4, k4, ?_, hf, q⟩
  rw [kv_keys h5]
  have e : (kvs.map fun p => (Sum.inr p.1 : Key)) = (kvs.map (·.1)).map Sum.inr := by simp
  rw [e]
  exact List.Pairwise.map _ (fun a b h z => h (Sum.inr.inj z)) x3
theorem se_deq {neg : Bool} {j : Nat} {y : Str} {p2 : Pos} (hu : X.A.units + 64 < cLine) (ho : PE X (.Name x p) (tVar i)) (ho2 : PE X (.Name y p2) (tVar j)) : PE X (.Compare (.Name x p) [deqOp neg] [.Name y p2] pos) (tE X.K call W (.deq neg i j)) :=
  PE_imp (pe_cmpR (op_deq hu neg) ho ho2 (by cases neg <;> exact nobehind _ (by decide) (by decide))) fun σ H Q ⟨c, Z, env, hK, f, g⟩ => by
    simp only [evE] at g
    obtain ⟨kvs, e1, g1⟩ := g.of
    obtain ⟨kws, e2, g2⟩ := g1.of
    split at g2
    · rename_i e3
      exact deq_read f e1 e2 e3 (g2 Z H (Le.refl Z) f _ rep_bl)
    · exact g2.elim
theorem st_deq {neg : Bool} {j : Nat} {y : Str} {p2 : Pos} (hu : X.A.units + 64 < cLine) (ho : PE X (.Name x p) (tVar i)) (ho2 : PE X (.Name y p2) (tVar j)) : PT X (.Compare (.Name x p) [deqOp neg] [.Name y p2] pos) (tT X.K call W (.deq neg i j)) :=
  PT_imp (pt_cmpR (op_deq hu neg) ho ho2 (by cases neg <;> exact nobehind _ (by decide) (by decide))) fun σ H Q ⟨c, Z, env, hK, f, g⟩ => by
    simp only [evT] at g
    obtain ⟨kvs, e1, g1⟩ := g.of
    obtain ⟨kws, e2, g2⟩ := g1.of
    split at g2
    · rename_i e3
      exact deq_read (Q := fun v H' => ∃ k, v = .bl k ∧ Q k H') f e1 e2 e3 ⟨_, rfl, g2 Z H (Le.refl Z) f⟩
    · exact g2.elim
end
end Sf

/-! Sf, part 6: calls. -/
namespace Sf
open PySem L2

/-- an argument as it stands at the call -/
def ArgOk (K : Frag) (G Z H : Hp) : V → Arg → Prop
  | v, .val t => Rep K Z v t
  | v, .io o => ∃ a, v = .ref a ∧ Z a = none ∧ G a = none ∧ RepM K Z H a o
def ArgsOk (K : Frag) (G Z H : Hp) : List V → List Arg → Prop
  | [], [] => True
  | v :: vs, a :: as => ArgOk K G Z H v a ∧ ArgsOk K G Z H vs as
  | _, _ => False
theorem ArgsOk.len {K : Frag} {G Z H : Hp} : ∀ {vs : List V} {as : List Arg}, ArgsOk K G Z H vs as → vs.length = as.length
  | [], [], _ => rfl
  | _ :: _, _ :: _, h => by rw [List.length_cons, List.length_cons, ArgsOk.len h.2]
  | [], _ :: _, h => h.elim
  | _ :: _, [], h => h.elim
theorem ArgsOk.get {K : Frag} {G Z H : Hp} : ∀ {vs : List V} {as : List Arg} {i : Nat} {a : Arg}, ArgsOk K G Z H vs as → as[i]? = some a → ∃ v, vs[i]? = some v ∧ ArgOk K G Z H v a
  | v :: vs, b :: bs, 0, a, h, e => by
    simp at e
    subst e
    exact ⟨v, rfl, h.1⟩
  | v :: vs, b :: bs, i + 1, a, h, e => by
    obtain ⟨u, h1, h2⟩ := ArgsOk.get (i := i) h.2 (by simpa using e)
    exact ⟨u, by simpa using h1, h2⟩
  | [], [], i, a, _, e => by simp at e
  | [], _ :: _, _, _, h, _ => h.elim
  | _ :: _, [], _, _, h, _ => h.elim
def isIo : Arg → Prop
  | .io _ => True
  | _ => False
/-- the handed-in objects are apart -/
def IoInj (vs : List V) (as : List Arg) : Prop := ∀ (i j : Nat) (a : Addr) (o o' : M), vs[i]? = some (V.ref a) → vs[j]? = some (V.ref a) → as[i]? = some (Arg.io o) → as[j]? = some (Arg.io o') → i = j
/-- the result of a call -/
def RetOk (K : Frag) (G Z H : Hp) (vs : List V) (as : List Arg) (v : V) : R → Prop
  | .val t => Rep K Z v t
  | .own o => ∃ a, v = .ref a ∧ Z a = none ∧ G a = none ∧ RepM K Z H a o ∧ ∀ (i : Nat) (o' : M), as[i]? = some (Arg.io o') → vs[i]? ≠ some (V.ref a)
  | .slot _ => False
/-- what a def promises -/
def spF (K : Frag) (call : Call) (f np : Nat) : Sp := fun vs H Q E => ∃ (G Z : Hp) (args : List Arg), vs.length = np ∧ Le Z H ∧ Le G H ∧ (∀ a o, G a = some o → Z a = none) ∧ ArgsOk K G Z H vs args ∧ IoInj vs args ∧
  match call f args with
  | .ok (r, args') => ∀ Z' H', Le Z Z' → Le Z' H' → Le G H' → (∀ a o, G a = some o → Z' a = none) → ArgsOk K G Z' H' vs args' → ∀ v, RetOk K G Z' H' vs args' v r → Q v H'
  | .exc x => ∀ cls d Z' H', Le Z Z' → Le Z' H' → Le G H' → RepX K Z' H' cls d x → E cls d H'
  | .bad => False

/-- the written arguments -/
def AsOk (c : Cn) (Z : Hp) (σ : St) (env : Ev) : As → List V → List Arg → Prop
  | .nil, vs, as => vs = [] ∧ as = []
  | .val _ r, vs, as => ∃ v vr t ar, vs = v :: vr ∧ as = .val t :: ar ∧ Rep c.K Z v t ∧ AsOk c Z σ env r vr ar
  | .io i r, vs, as => ∃ v vr o ar, vs = v :: vr ∧ as = .io o :: ar ∧ σ[i]? = some (some v) ∧ (get env i = .own o ∨ get env i = .bor o) ∧ AsOk c Z σ env r vr ar
def tAs (K : Frag) (call : Call) (W : WX) (as : As) : TA := fun σ H Q => ∃ (c : Cn) (Z : Hp) (env : Ev), c.K = K ∧ Frame c Z H σ env ∧
  Goal c W Z (fun args env' => ∀ Z' H', Le Z Z' → Frame c Z' H' σ env' → ∀ vs, AsOk c Z' σ env' as vs args → Q vs H') (evAs call as env)
section
variable {X : Cx} {call : Call} {W : WX} {pos p : Pos} {e : Expr} {es : List Expr} {ce : E} {cas : As}
theorem frz_ne_exc {r : R} {env : Ev} {x : Exc} : frz r env ≠ .exc x := by
  intro e
  cases r with
  | val t => simp [Sf.frz] at e
  | own o => cases o <;> simp [Sf.frz] at e
  | slot i =>
    simp only [Sf.frz] at e
    split at e <;> cases e
/-- a result that is kept -/
theorem Goal.frz {γ : Type} {c : Cn} {Z Z1 H1 : Hp} {σ : St} {r : R} {env : Ev} {v : V} {P : γ → Ev → Prop} {k : T × Ev → Res (γ × Ev)} (g : Goal c W Z P ((Sf.frz r env).bind k)) (f : Frame c Z1 H1 σ env) (rv : RepR c Z1 H1 σ env v r) :
    ∃ t env2 Z2, Le Z1 Z2 ∧ Frame c Z2 H1 σ env2 ∧ Rep c.K Z2 v t ∧ Goal c W Z P (k (t, env2)) := by
  cases e : Sf.frz r env with
  | exc x => exact absurd e frz_ne_exc
  | bad => rw [e] at g; exact g.elim
  | ok q =>
    obtain ⟨t, env2⟩ := q
    rw [e] at g
    obtain ⟨Z2, l2, f2, rt⟩ := f.frz rv e
    exact ⟨t, env2, Z2, l2, f2, rt, g⟩
theorem sas_nil : PA X [] (tAs X.K call W .nil) := PA_imp pa_nil fun σ H Q ⟨c, Z, env, hK, f, g⟩ => by
  simp only [evAs] at g
  exact g Z H (Le.refl Z) f [] ⟨rfl, rfl⟩
theorem sas_val (ha : PE X e (tE X.K call W ce)) (hr : PA X es (tAs X.K call W cas)) (hs : starEach (e :: es) X.env = (false, eval e X.env) :: starEach es X.env) :
    PA X (e :: es) (tAs X.K call W (.val ce cas)) := PA_imp (pa_cons ha hr hs) fun σ H Q ⟨c, Z, env, hK, f, g⟩ => by
  simp only [evAs] at g
  refine ⟨c, Z, env, hK, f, g.next (Le.refl Z) fun r env1 g1 Z1 H1 l1 f1 v rv => ?_⟩
  obtain ⟨t, env2, Z2, l2, f2, rt, g2⟩ := g1.frz f1 rv
  refine ⟨c, Z2, env2, hK, f2, g2.next (l1.trans l2) fun ts env3 g3 Z3 H3 l3 f3 vs rvs => ?_⟩
  exact g3 Z3 H3 (l1.trans (l2.trans l3)) f3 (v :: vs) ⟨v, vs, t, ts, rfl, rfl, rt.mono l3, rvs⟩
theorem slot_val {c : Cn} {Z H : Hp} {σ : St} {env : Ev} {i : Nat} (f : Frame c Z H σ env) (h : ¬ isUn (get env i) = true) : ∃ v, σ[i]? = some (some v) := by
  have hs := f.sl i
  cases e : get env i with
  | un => rw [e] at h; exact absurd rfl h
  | val t => rw [e] at hs; obtain ⟨v, h1, _⟩ := hs; exact ⟨v, h1⟩
  | own o => rw [e] at hs; obtain ⟨v, h1, _⟩ := hs; exact ⟨_, h1⟩
  | bor o => rw [e] at hs; obtain ⟨v, h1, _⟩ := hs; exact ⟨_, h1⟩
theorem sas_io {i : Nat} {x : Str} (ho : PE X (.Name x p) (tVar i)) (hr : PA X es (tAs X.K call W cas)) : PA X (.Name x p :: es) (tAs X.K call W (.io i cas)) := PA_imp (pa_cons ho hr) fun σ H Q ⟨c, Z, env, hK, f, g⟩ => by
  simp only [evAs] at g
  split at g
  · exact g.elim
  · rename_i hu
    obtain ⟨v, hv⟩ := slot_val f hu
    refine ⟨v, hv, c, Z, env, hK, f, g.next (Le.refl Z) fun ts env3 g3 Z3 H3 l3 f3 vs rvs => ?_⟩
    dsimp only at g3
    split at g3
    · rename_i o e
      exact g3 Z3 H3 l3 f3 (v :: vs) ⟨v, vs, o, ts, rfl, rfl, hv, .inl e, rvs⟩
    · rename_i o e
      exact g3 Z3 H3 l3 f3 (v :: vs) ⟨v, vs, o, ts, rfl, rfl, hv, .inr e, rvs⟩
    · exact g3.elim

/-! ### the caller's side -/
def ioS : As → List Nat
  | .nil => []
  | .val _ r => ioS r
  | .io i r => i :: ioS r
open Classical in
/-- what the callee must keep -/
noncomputable def keepH (c : Cn) (H : Hp) (σ : St) (env : Ev) (out : List Nat) : Hp := fun b => if (∃ i, i ∉ out ∧ ownS (get env i) ∧ σ[i]? = some (some (.ref b))) then H b else c.G b
theorem keep_own {c : Cn} {H : Hp} {σ : St} {env : Ev} {out : List Nat} {i : Nat} {b : Addr} (h1 : i ∉ out) (h2 : ownS (get env i)) (h3 : σ[i]? = some (some (.ref b))) : keepH c H σ env out b = H b := by
  unfold keepH
  rw [if_pos ⟨i, h1, h2, h3⟩]
theorem own_at {c : Cn} {Z H : Hp} {σ : St} {env : Ev} {i : Nat} {b : Addr} (f : Frame c Z H σ env) (h2 : ownS (get env i)) (h3 : σ[i]? = some (some (.ref b))) : Z b = none ∧ c.G b = none ∧ ∃ u, H b = some u := by
  have hs := f.sl i
  cases e : get env i with
  | un => rw [e] at h2; exact h2.elim
  | val t => rw [e] at h2; exact h2.elim
  | own o =>
    rw [e] at hs
    obtain ⟨a, q1, q2, q3, q4⟩ := hs
    rw [h3] at q1
    cases q1
    exact ⟨q2, q3, q4.some⟩
  | bor o =>
    rw [e] at hs
    obtain ⟨a, q1, q2, q3, q4, _⟩ := hs
    rw [h3] at q1
    cases q1
    exact ⟨q2, q3, q4.some⟩
theorem keep_le {c : Cn} {Z H : Hp} {σ : St} {env : Ev} {out : List Nat} (f : Frame c Z H σ env) : Le c.G (keepH c H σ env out) := fun b u e => by
  unfold keepH
  split
  · rename_i h
    obtain ⟨i, _, h2, h3⟩ := h
    rw [(own_at f h2 h3).2.1] at e
    cases e
  · exact e
theorem keep_le2 {c : Cn} {Z H : Hp} {σ : St} {env : Ev} {out : List Nat} (f : Frame c Z H σ env) : Le (keepH c H σ env out) H := fun b u e => by
  unfold keepH at e
  split at e
  · exact e
  · exact f.gh b u e
theorem keep_zg {c : Cn} {Z H : Hp} {σ : St} {env : Ev} {out : List Nat} (f : Frame c Z H σ env) : ∀ a o, keepH c H σ env out a = some o → Z a = none := fun b u e => by
  unfold keepH at e
  split at e
  · rename_i h
    obtain ⟨i, _, h2, h3⟩ := h
    exact (own_at f h2 h3).1
  · exact f.zg b u e
theorem keep_none {c : Cn} {Z H : Hp} {σ : St} {env : Ev} {out : List Nat} {b : Addr} (f : Frame c Z H σ env) (h : keepH c H σ env out b = none) : c.G b = none ∧ ∀ i, i ∉ out → ownS (get env i) → σ[i]? ≠ some (some (.ref b)) := by
  refine ⟨?_, fun i h1 h2 h3 => ?_⟩
  · cases e : c.G b with
    | none => rfl
    | some u => rw [keep_le f b u e] at h; cases h
  · rw [keep_own h1 h2 h3] at h
    obtain ⟨_, _, u, hu⟩ := own_at f h2 h3
    rw [hu] at h
    cases h
/-- a passed object is not kept as it is -/
theorem keep_out {c : Cn} {Z H : Hp} {σ : St} {env : Ev} {out : List Nat} {i : Nat} {b : Addr} (f : Frame c Z H σ env) (h1 : i ∈ out) (h2 : ownS (get env i)) (h3 : σ[i]? = some (some (.ref b))) : keepH c H σ env out b = none := by
  unfold keepH
  split
  · rename_i h
    obtain ⟨j, j1, j2, j3⟩ := h
    rw [f.inj i j b h2 j2 h3 j3] at h1
    exact absurd h1 j1
  · exact (own_at f h2 h3).2.1
theorem AsOk.args {c : Cn} {Z H : Hp} {σ : St} {env : Ev} {out : List Nat} (f : Frame c Z H σ env) : ∀ {as : As} {vs : List V} {args : List Arg}, (∀ i ∈ ioS as, i ∈ out) → AsOk c Z σ env as vs args → ArgsOk c.K (keepH c H σ env out) Z H vs args
  | .nil, _, _, _, h => by
    obtain ⟨rfl, rfl⟩ := h
    trivial
  | .val _ r, _, _, ho, h => by
    obtain ⟨v, vr, t, ar, rfl, rfl, h1, h2⟩ := h
    exact ⟨h1, AsOk.args (as := r) f ho h2⟩
  | .io i r, _, _, ho, h => by
    obtain ⟨v, vr, o, ar, rfl, rfl, h1, h2, h3⟩ := h
    refine ⟨?_, AsOk.args f (fun j hj => ho j (List.mem_cons_of_mem _ hj)) h3⟩
    have hi := ho i List.mem_cons_self
    rcases h2 with e | e
    · obtain ⟨a, q1, q2, q3, q4⟩ := f.slot_at e
      rw [h1] at q1
      cases q1
      exact ⟨a, rfl, q2, keep_out f hi (by rw [e]; trivial) h1, q4⟩
    · obtain ⟨a, q1, q2, q3, q4, _⟩ := f.slot_at e
      rw [h1] at q1
      cases q1
      exact ⟨a, rfl, q2, keep_out f hi (by rw [e]; trivial) h1, q4⟩
/-- which slot stands behind a handed-in object -/
theorem AsOk.io {c : Cn} {Z : Hp} {σ : St} {env : Ev} : ∀ {as : As} {vs : List V} {args : List Arg} {k : Nat} {o : M}, AsOk c Z σ env as vs args → args[k]? = some (Arg.io o) → ∃ (i : Nat) (v : V), vs[k]? = some v ∧ σ[i]? = some (some v) ∧ ownS (get env i) ∧ i ∈ ioS as
  | .nil, _, _, k, _, h, e => by
    obtain ⟨rfl, rfl⟩ := h
    simp at e
  | .val _ r, _, _, k, _, h, e => by
    obtain ⟨v, vr, t, ar, rfl, rfl, h1, h2⟩ := h
    cases k with
    | zero => simp at e
    | succ k =>
      obtain ⟨i, v, q1, q2, q3, q4⟩ := AsOk.io (k := k) h2 (by simpa using e)
      exact ⟨i, v, by simpa using q1, q2, q3, q4⟩
  | .io i r, _, _, k, _, h, e => by
    obtain ⟨v, vr, o, ar, rfl, rfl, h1, h2, h3⟩ := h
    cases k with
    | zero =>
      refine ⟨i, v, rfl, h1, ?_, List.mem_cons_self⟩
      rcases h2 with z | z <;> rw [z] <;> trivial
    | succ k =>
      obtain ⟨i, v, q1, q2, q3, q4⟩ := AsOk.io (k := k) h3 (by simpa using e)
      exact ⟨i, v, by simpa using q1, q2, q3, List.mem_cons_of_mem _ q4⟩
theorem AsOk.inj {c : Cn} {Z H : Hp} {σ : St} {env : Ev} (f : Frame c Z H σ env) : ∀ {as : As} {vs : List V} {args : List Arg}, (ioS as).Nodup → AsOk c Z σ env as vs args → IoInj vs args
  | .nil, _, _, _, h => by
    obtain ⟨rfl, rfl⟩ := h
    intro i j a o o' e1 e2 e3 e4
    simp at e1
  | .val _ r, _, _, hn, h => by
    obtain ⟨v, vr, t, ar, rfl, rfl, h1, h2⟩ := h
    intro i j a o o' e1 e2 e3 e4
    cases i with
    | zero => simp at e3
    | succ i =>
      cases j with
      | zero => simp at e4
      | succ j => rw [AsOk.inj (as := r) f hn h2 i j a o o' (by simpa using e1) (by simpa using e2) (by simpa using e3) (by simpa using e4)]
  | .io n r, _, _, hn, h => by
    obtain ⟨v, vr, o1, ar, rfl, rfl, h1, h2, h3⟩ := h
    have hn' : n ∉ ioS r ∧ (ioS r).Nodup := List.nodup_cons.mp hn
    have own : ownS (get env n) := by rcases h2 with z | z <;> rw [z] <;> trivial
    have apart : ∀ k a o', vr[k]? = some (V.ref a) → ar[k]? = some (Arg.io o') → v ≠ .ref a := fun k a o' q1 q2 z => by
      obtain ⟨i, u, z1, z2, z3, z4⟩ := AsOk.io h3 q2
      rw [q1] at z1
      cases z1
      rw [z] at h1
      have := f.inj n i a own z3 h1 z2
      exact hn'.1 (this ▸ z4)
    intro i j a o o' e1 e2 e3 e4
    cases i with
    | zero =>
      cases j with
      | zero => rfl
      | succ j =>
        simp at e1
        exact absurd e1 (apart j a o' (by simpa using e2) (by simpa using e4))
    | succ i =>
      cases j with
      | zero =>
        simp at e2
        exact absurd e2 (apart i a o (by simpa using e1) (by simpa using e3))
      | succ j => rw [AsOk.inj f hn'.2 h3 i j a o o' (by simpa using e1) (by simpa using e2) (by simpa using e3) (by simpa using e4)]
theorem get_put_self {env : Ev} {i : Nat} {s : Slot} (h : ownS (get env i)) : get (put env i s) i = s := by
  induction env generalizing i with
  | nil => exact h.elim
  | cons t r ih =>
    cases i with
    | zero => rfl
    | succ i => exact ih h
theorem get_setM_ne {env : Ev} {i j : Nat} {o : M} (h : j ≠ i) : get (setM env i o) j = get env j := by
  unfold setM
  split
  · exact get_put_ne h
  · exact get_put_ne h
  · rfl
/-- own to own, borrowed to borrowed -/
def Turned (a b : Slot) (o : M) : Prop := (∃ m, a = .own m ∧ b = .own o) ∨ ∃ m, a = .bor m ∧ b = .bor o
theorem setM_turned {env : Ev} {i : Nat} {o : M} (h : ownS (get env i)) : Turned (get env i) (get (setM env i o) i) o := by
  unfold setM
  cases e : get env i with
  | un => rw [e] at h; exact h.elim
  | val t => rw [e] at h; exact h.elim
  | own m => exact .inl ⟨m, rfl, get_put_self (by rw [e]; trivial)⟩
  | bor m => exact .inr ⟨m, rfl, get_put_self (by rw [e]; trivial)⟩
def asLen : As → Nat
  | .nil => 0
  | .val _ r => asLen r + 1
  | .io _ r => asLen r + 1
theorem AsOk.len {c : Cn} {Z : Hp} {σ : St} {env : Ev} : ∀ {as : As} {vs : List V} {args : List Arg}, AsOk c Z σ env as vs args → vs.length = asLen as
  | .nil, _, _, h => by rw [h.1]; rfl
  | .val e r, _, _, h => by
    obtain ⟨v, vr, t, ar, e1, e2, h1, h2⟩ := h
    rw [e1, List.length_cons, AsOk.len (as := r) h2]
    rfl
  | .io i r, _, _, h => by
    obtain ⟨v, vr, t, ar, e1, e2, h1, h2, h3⟩ := h
    rw [e1, List.length_cons, AsOk.len (as := r) h3]
    rfl
theorem AsOk.setM {c : Cn} {Z : Hp} {σ : St} {env : Ev} {n : Nat} {o : M} : ∀ {as : As} {vs : List V} {args : List Arg}, n ∉ ioS as → AsOk c Z σ env as vs args → AsOk c Z σ (setM env n o) as vs args
  | .nil, _, _, _, h => h
  | .val e r, _, _, hn, h => by
    obtain ⟨v, vr, t, ar, e1, e2, h1, h2⟩ := h
    exact ⟨v, vr, t, ar, e1, e2, h1, AsOk.setM (as := r) hn h2⟩
  | .io i r, _, _, hn, h => by
    obtain ⟨v, vr, t, ar, e1, e2, h1, h2, h3⟩ := h
    have ne : i ≠ n := fun z => hn (by rw [z]; exact List.mem_cons_self)
    exact ⟨v, vr, t, ar, e1, e2, h1, by rw [get_setM_ne ne]; exact h2, AsOk.setM (as := r) (fun z => hn (List.mem_cons_of_mem _ z)) h3⟩
theorem setM_len {env : Ev} {i : Nat} {o : M} : (setM env i o).length = env.length := by
  unfold setM
  split <;> first | exact put_length | rfl
theorem wb_len {as : As} {xs : List Arg} {env env' : Ev} (h : wb as xs env = .ok env') : env'.length = env.length := by
  fun_induction wb as xs env with
  | case1 => simp only [Res.ok.injEq] at h; rw [h]
  | case2 _ _ _ _ _ ih => exact ih h
  | case3 _ _ _ _ _ ih => rw [ih h, setM_len]
  | case4 => simp at h
theorem wb_get {c : Cn} {Z : Hp} {σ : St} : ∀ {as : As} {vs : List V} {args args' : List Arg} {env env' : Ev}, (ioS as).Nodup → AsOk c Z σ env as vs args → wb as args' env = .ok env' →
    (∀ j, j ∉ ioS as → get env' j = get env j) ∧ ∀ j, j ∈ ioS as → ∃ (k : Nat) (v : V) (o : M), vs[k]? = some v ∧ args'[k]? = some (Arg.io o) ∧ σ[j]? = some (some v) ∧ Turned (get env j) (get env' j) o
  | .nil, _, _, args', env, env', _, h, e => by
    obtain ⟨rfl, rfl⟩ := h
    cases args' with
    | nil =>
      simp only [wb, Res.ok.injEq] at e
      subst e
      exact ⟨fun _ _ => rfl, fun j h => by simp [ioS] at h⟩
    | cons _ _ => simp [wb] at e
  | .val _ r, _, _, args', env, env', hn, h, e => by
    obtain ⟨v, vr, t, ar, rfl, rfl, h1, h2⟩ := h
    cases args' with
    | nil => simp [wb] at e
    | cons x xs =>
      cases x with
      | io _ => simp [wb] at e
      | val _ =>
        simp only [wb] at e
        obtain ⟨q1, q2⟩ := wb_get (as := r) hn h2 e
        refine ⟨q1, fun j hj => ?_⟩
        obtain ⟨k, u, o, z1, z2, z3⟩ := q2 j hj
        exact ⟨k + 1, u, o, by simpa using z1, by simpa using z2, z3⟩
  | .io n r, _, _, args', env, env', hn, h, e => by
    obtain ⟨v, vr, o1, ar, rfl, rfl, h1, h2, h3⟩ := h
    have hn' : n ∉ ioS r ∧ (ioS r).Nodup := List.nodup_cons.mp hn
    have own : ownS (get env n) := by rcases h2 with z | z <;> rw [z] <;> trivial
    cases args' with
    | nil => simp [wb] at e
    | cons x xs =>
      cases x with
      | val _ => simp [wb] at e
      | io o =>
        simp only [wb] at e
        obtain ⟨q1, q2⟩ := wb_get (as := r) hn'.2 (AsOk.setM hn'.1 h3) e
        refine ⟨fun j hj => ?_, fun j hj => ?_⟩
        · have ne : j ≠ n := fun z => hj (by rw [z]; exact List.mem_cons_self)
          rw [q1 j fun z => hj (List.mem_cons_of_mem _ z), get_setM_ne ne]
        · rcases List.mem_cons.mp hj with ej | hj
          · rw [ej]
            refine ⟨0, v, o, rfl, rfl, h1, ?_⟩
            rw [q1 n hn'.1]
            exact setM_turned own
          · obtain ⟨k, u, o2, z1, z2, z3, z4⟩ := q2 j hj
            have ne : j ≠ n := fun z => hn'.1 (z ▸ hj)
            rw [get_setM_ne ne] at z4
            exact ⟨k + 1, u, o2, by simpa using z1, by simpa using z2, z3, z4⟩
/-- behind the call -/
theorem Frame.back {c : Cn} {Z Z' H H' : Hp} {σ : St} {env env' : Ev} {as : As} {vs : List V} {args args' : List Arg} (f : Frame c Z H σ env) (hn : (ioS as).Nodup) (ho : AsOk c Z σ env as vs args) (hw : wb as args' env = .ok env')
    (l : Le Z Z') (zh : Le Z' H') (gh : Le (keepH c H σ env (ioS as)) H') (zg : ∀ a o, keepH c H σ env (ioS as) a = some o → Z' a = none) (ha : ArgsOk c.K (keepH c H σ env (ioS as)) Z' H' vs args') : Frame c Z' H' σ env' := by
  obtain ⟨w1, w2⟩ := wb_get hn ho hw
  have own' : ∀ j, ownS (get env' j) → ownS (get env j) := fun j h => by
    by_cases hj : j ∈ ioS as
    · obtain ⟨_, _, _, _, _, _, t⟩ := w2 j hj
      rcases t with ⟨m, e, _⟩ | ⟨m, e, _⟩ <;> rw [e] <;> trivial
    · rw [w1 j hj] at h; exact h
  refine ⟨zh, (keep_le f).trans gh, fun a o e => zg a o (keep_le f a o e), fun j => ?_, fun i j a h1 h2 => f.inj i j a (own' i h1) (own' j h2), by rw [wb_len hw]; exact f.len⟩
  by_cases hj : j ∈ ioS as
  · obtain ⟨k, v, o, z1, z2, z3, t⟩ := w2 j hj
    obtain ⟨u, y1, a, y2, y3, y4, y5⟩ := ha.get z2
    rw [z1] at y1
    cases y1
    subst y2
    have own : ownS (get env j) := by rcases t with ⟨m, e, _⟩ | ⟨m, e, _⟩ <;> rw [e] <;> trivial
    have cg := (own_at f own z3).2.1
    rcases t with ⟨m, e, e2⟩ | ⟨m, e, e2⟩
    · rw [e2]
      exact ⟨a, z3, y3, cg, y5⟩
    · rw [e2]
      obtain ⟨b, q1, _, _, _, q5⟩ := f.slot_at e
      rw [z3] at q1
      cases q1
      exact ⟨a, z3, y3, cg, y5, q5⟩
  · rw [w1 j hj]
    have h := f.sl j
    cases e : get env j with
    | un => trivial
    | val t =>
      rw [e] at h
      obtain ⟨v, h1, h2⟩ := h
      exact ⟨v, h1, h2.mono l⟩
    | own m =>
      rw [e] at h
      obtain ⟨b, h1, h2, h3, h4⟩ := h
      obtain ⟨u, hu⟩ := h4.some
      have hk : keepH c H σ env (ioS as) b = some u := by rw [keep_own hj (by rw [e]; trivial) h1, hu]
      exact ⟨b, h1, zg _ _ hk, h3, h4.mono l (by rw [gh _ _ hk, hu])⟩
    | bor m =>
      rw [e] at h
      obtain ⟨b, h1, h2, h3, h4, h5⟩ := h
      obtain ⟨u, hu⟩ := h4.some
      have hk : keepH c H σ env (ioS as) b = some u := by rw [keep_own hj (by rw [e]; trivial) h1, hu]
      exact ⟨b, h1, zg _ _ hk, h3, h4.mono l (by rw [gh _ _ hk, hu]), h5⟩
theorem RetOk.ret {c : Cn} {Z Z' H H' : Hp} {σ : St} {env env' : Ev} {as : As} {vs : List V} {args args' : List Arg} {v : V} {r : R} (f : Frame c Z H σ env) (hn : (ioS as).Nodup) (ho : AsOk c Z σ env as vs args) (hw : wb as args' env = .ok env')
    (h : RetOk c.K (keepH c H σ env (ioS as)) Z' H' vs args' v r) : RepR c Z' H' σ env' v r := by
  cases r with
  | val t => exact h
  | slot i => exact h.elim
  | own o =>
    obtain ⟨a, e, h1, h2, h3, h4⟩ := h
    obtain ⟨k1, k2⟩ := keep_none f h2
    obtain ⟨w1, w2⟩ := wb_get hn ho hw
    refine ⟨a, e, h1, k1, h3, fun j hj hs => ?_⟩
    by_cases hm : j ∈ ioS as
    · obtain ⟨k, u, o2, z1, z2, z3, t⟩ := w2 j hm
      rw [hs] at z3
      cases z3
      exact h4 k o2 z2 z1
    · rw [w1 j hm] at hj
      exact k2 j hm hj hs
theorem se_call {fd : FuncData} {fa : Addr} {f k : Nat} {ps : List Str} {w : Str} {e : Expr} (tk : Takes X W) (F : FnOk X.prog X.w X.K X.mg X.base (CX X.prog X.w) k fa fd ps (spF X.K call f ps.length)) (hr : Room k X.A) (hg : Gl X w) (hm : X.mg w = some (.ref fa)) (hk : PySem.W.keepIn X.K (.ref fa) = true) (hb : Binds X.K fd ps [])
    (ha : PA X (e :: es) (tAs X.K call W cas)) (hl : asLen cas = ps.length) (hn : (ioS cas).Nodup) (hdb : (w == ("__debug__" : Str)) = false) (he : starEach (e :: es) X.env = (false, eval e X.env) :: starEach es X.env) (hpl : (backTo pos (starEach es X.env)).any (·.1) = false) :
    PE X (.Call (.Name w p) (e :: es) [] pos) (tE X.K call W (.call f cas)) :=
  PE_imp (pe_call (E := fun cls d H => ∀ σ, W cls d σ H) F hr hg hm hk hb .nil (passes_call tk fun cls d σ H h => h σ) ha hdb he hpl) fun σ H Q ⟨c, Z, env, hK, fr, g⟩ => by
    simp only [evE] at g
    refine ⟨c, Z, env, hK, fr, g.next (Le.refl Z) fun args env1 g1 Z1 H1 l1 f1 vs rvs => ?_⟩
    dsimp only at g1
    show spF X.K call f ps.length (vs ++ []) H1 Q fun cls d H => ∀ (σ : St), W cls d σ H
    rw [List.append_nil]
    refine ⟨keepH c H1 σ env1 (ioS cas), Z1, args, by rw [rvs.len, hl], f1.zh, keep_le2 f1, keep_zg f1, by rw [← hK]; exact rvs.args f1 fun i h => h, rvs.inj f1 hn, ?_⟩
    cases ec : call f args with
    | bad => rw [ec] at g1; exact g1
    | exc x =>
      rw [ec] at g1
      dsimp only [Res.bind_exc] at g1
      intro cls d Z' H' l z gh rx
      exact g1 cls d Z' H' (l1.trans l) z ((keep_le f1).trans gh) (by rw [hK]; exact rx)
    | ok q =>
      rw [ec] at g1
      obtain ⟨r, args'⟩ := q
      simp only [Res.bind_ok] at g1
      dsimp only
      intro Z' H' l zh gh zg ha v rv
      cases ew : wb cas args' env1 with
      | bad => rw [ew] at g1; exact g1.elim
      | exc x =>
        exfalso
        clear g1 ha rv rvs
        revert ew
        have no : ∀ (as : As) (xs : List Arg) (env : Ev), wb as xs env ≠ .exc x := by
          intro as xs env
          fun_induction wb as xs env with
          | case1 => simp
          | case2 _ _ _ _ _ ih => exact ih
          | case3 _ _ _ _ _ ih => exact ih
          | case4 => simp
        exact no _ _ _
      | ok env2 =>
        rw [ew] at g1
        have ha' : ArgsOk c.K (keepH c H1 σ env1 (ioS cas)) Z' H' vs args' := by rw [hK]; exact ha
        exact g1 Z' H' (l1.trans l) (f1.back hn rvs ew l zh gh zg ha') v (RetOk.ret f1 hn rvs ew (by rw [hK]; exact rv))
/-- no argument -/
theorem se_call0 {fd : FuncData} {fa : Addr} {f k : Nat} {w : Str} (tk : Takes X W) (F : FnOk X.prog X.w X.K X.mg X.base (CX X.prog X.w) k fa fd [] (spF X.K call f 0)) (hr : Room k X.A) (hg : Gl X w) (hm : X.mg w = some (.ref fa)) (hk : PySem.W.keepIn X.K (.ref fa) = true) (hb : Binds X.K fd [] [])
    (hdb : (w == ("__debug__" : Str)) = false) : PE X (.Call (.Name w p) [] [] pos) (tE X.K call W (.call f .nil)) :=
  PE_imp (pe_call0 (E := fun cls d H => ∀ σ, W cls d σ H) F hr hg hm hk hb .nil (passes_call tk fun cls d σ H h => h σ) hdb) fun σ H Q ⟨c, Z, env, hK, f1, g⟩ => by
    simp only [evE, evAs, Res.bind_ok] at g
    show spF X.K call f 0 ([] ++ []) H Q fun cls d H => ∀ (σ : St), W cls d σ H
    refine ⟨keepH c H σ env (ioS .nil), Z, [], rfl, f1.zh, keep_le2 f1, keep_zg f1, trivial, fun i j a o o' h => by simp at h, ?_⟩
    cases ec : call f [] with
    | bad => rw [ec] at g; exact g
    | exc x =>
      rw [ec] at g
      dsimp only [Res.bind_exc] at g
      intro cls d Z' H' l z gh rx
      exact g cls d Z' H' l z ((keep_le f1).trans gh) (by rw [hK]; exact rx)
    | ok q =>
      rw [ec] at g
      obtain ⟨r, args'⟩ := q
      simp only [Res.bind_ok] at g
      dsimp only
      intro Z' H' l zh gh zg ha v rv
      cases args' with
      | cons _ _ => exact ha.elim
      | nil =>
        simp only [wb, Res.bind_ok] at g
        have ho : AsOk c Z σ env .nil [] [] := ⟨rfl, rfl⟩
        have ew : wb .nil [] env = .ok env := by simp [wb]
        exact g Z' H' l (f1.back (as := .nil) List.nodup_nil ho ew l zh gh zg (by trivial)) v (RetOk.ret (as := .nil) f1 List.nodup_nil ho ew (by rw [hK]; exact rv))
end
end Sf

/-! Sf, part 7: targets, walks, comprehensions. -/
namespace Sf
open PySem L2

/-! ### a name is stored -/
section
variable {c : Cn} {Z Z' H H' : Hp} {σ σ' : St} {env env' : Ev} {i : Nat} {v : V} {t : T}
theorem sig_ne {j : Nat} {u : Option V} (h : j ≠ i) : (σ.set i u)[j]? = σ[j]? := List.getElem?_set_ne (Ne.symm h)
theorem lt_of_get {s : Slot} (h : get env i = s) (hs : s ≠ .un) : i < env.length := by
  induction env generalizing i with
  | nil => exact absurd h.symm hs
  | cons t r ih =>
    cases i with
    | zero => exact Nat.succ_pos _
    | succ i => exact Nat.succ_lt_succ (ih h)
/-- a slot that a name's store changes: the others -/
theorem Frame.other (f : Frame c Z H σ env) {j : Nat} (hj : j ≠ i) {u : Option V} {s : Slot} : SlotOk c Z H (σ.set i u) j (get (put env i s) j) := by
  rw [get_put_ne hj]
  have h := f.sl j
  cases e : get env j with
  | un => trivial
  | val t =>
    rw [e] at h
    obtain ⟨w, h1, h2⟩ := h
    exact ⟨w, by rw [sig_ne hj]; exact h1, h2⟩
  | own m =>
    rw [e] at h
    obtain ⟨w, h1, h2⟩ := h
    exact ⟨w, by rw [sig_ne hj]; exact h1, h2⟩
  | bor m =>
    rw [e] at h
    obtain ⟨w, h1, h2⟩ := h
    exact ⟨w, by rw [sig_ne hj]; exact h1, h2⟩
theorem put_un {s : Slot} (h : ¬ i < env.length) : put env i s = env := by
  induction env generalizing i with
  | nil => rfl
  | cons t r ih =>
    cases i with
    | zero => exact absurd (Nat.succ_pos _) h
    | succ i => show t :: put r i s = _; rw [ih fun z => h (Nat.succ_lt_succ z)]
theorem get_put_lt {s : Slot} (h : i < env.length) : get (put env i s) i = s := by
  induction env generalizing i with
  | nil => exact absurd h (Nat.not_lt_zero _)
  | cons t r ih =>
    cases i with
    | zero => rfl
    | succ i => exact ih (Nat.lt_of_succ_lt_succ h)
theorem Frame.setVal (f : Frame c Z H σ env) (hr : Rep c.K Z v t) : Frame c Z H (σ.set i (some v)) (put env i (.val t)) where
  zh := f.zh
  gh := f.gh
  zg := f.zg
  len := by rw [put_length, List.length_set]; exact f.len
  sl := fun j => by
    by_cases hj : j = i
    · subst hj
      rcases get_put_eq (env := env) (i := j) (s := .val t) with q | q
      · rw [q]
        have hl : j < σ.length := by
          have h1 := lt_of_get q (by simp)
          rw [put_length] at h1
          exact Nat.lt_of_lt_of_le h1 f.len
        exact ⟨v, List.getElem?_set_self hl, hr⟩
      · rw [q]; trivial
    · exact f.other hj
  inj := fun j k a h1 h2 e1 e2 => by
    have ne : ∀ j, ownS (get (put env i (.val t)) j) → j ≠ i ∧ ownS (get env j) := fun j h => by
      rcases get_put (env := env) (i := i) (j := j) (s := .val t) with ⟨rfl, q | q⟩ | ⟨ne, q⟩
      · rw [q] at h; exact h.elim
      · rw [q] at h; exact h.elim
      · rw [q] at h; exact ⟨ne, h⟩
    obtain ⟨n1, o1⟩ := ne j h1
    obtain ⟨n2, o2⟩ := ne k h2
    rw [sig_ne n1] at e1
    rw [sig_ne n2] at e2
    exact f.inj j k a o1 o2 e1 e2
theorem Frame.setOwn {a : Addr} {o : M} (f : Frame c Z H σ env) (hz : Z a = none) (hg : c.G a = none) (hm : RepM c.K Z H a o) (hs : ∀ i, ownS (get env i) → σ[i]? ≠ some (some (.ref a))) : Frame c Z H (σ.set i (some (.ref a))) (put env i (.own o)) where
  zh := f.zh
  gh := f.gh
  zg := f.zg
  len := by rw [put_length, List.length_set]; exact f.len
  sl := fun j => by
    by_cases hj : j = i
    · subst hj
      rcases get_put_eq (env := env) (i := j) (s := .own o) with q | q
      · rw [q]
        have hl : j < σ.length := by
          have h1 := lt_of_get q (by simp)
          rw [put_length] at h1
          exact Nat.lt_of_lt_of_le h1 f.len
        exact ⟨a, List.getElem?_set_self hl, hz, hg, hm⟩
      · rw [q]; trivial
    · exact f.other hj
  inj := fun j k b h1 h2 e1 e2 => by
    have ne : ∀ j, j ≠ i → ownS (get (put env i (.own o)) j) → ownS (get env j) ∧ (σ.set i (some (.ref a)))[j]? = σ[j]? := fun j hj h => by
      rw [get_put_ne hj] at h
      exact ⟨h, sig_ne hj⟩
    have at_i : ∀ b, (σ.set i (some (V.ref a)))[i]? = some (some (.ref b)) → b = a := fun b e => by
      by_cases hl : i < σ.length
      · rw [List.getElem?_set_self hl] at e
        cases e
        rfl
      · rw [List.getElem?_eq_none (by rw [List.length_set]; omega)] at e
        cases e
    by_cases hj : j = i
    · by_cases hk : k = i
      · rw [hj, hk]
      · obtain ⟨o2, q⟩ := ne k hk h2
        rw [hj] at e1
        rw [q, at_i b e1] at e2
        exact absurd e2 (hs k o2)
    · obtain ⟨o1, q1⟩ := ne j hj h1
      by_cases hk : k = i
      · rw [hk] at e2
        rw [q1, at_i b e2] at e1
        exact absurd e1 (hs j o1)
      · obtain ⟨o2, q2⟩ := ne k hk h2
        rw [q1] at e1
        rw [q2] at e2
        exact f.inj j k b o1 o2 e1 e2
/-- name = a result -/
theorem Frame.setR {r : R} (f : Frame c Z H σ env) (rv : RepR c Z H σ env v r) (e : setR env i r = .ok env') : ∃ Z', Le Z Z' ∧ Frame c Z' H (σ.set i (some v)) env' := by
  unfold Sf.setR at e
  split at e
  · cases e
  · cases r with
    | val t =>
      simp only [Res.ok.injEq] at e
      subst e
      exact ⟨Z, Le.refl Z, f.setVal rv⟩
    | own o =>
      simp only [Res.ok.injEq] at e
      subst e
      obtain ⟨a, rfl, h1, h2, h3, h4⟩ := rv
      exact ⟨Z, Le.refl Z, f.setOwn h1 h2 h3 h4⟩
    | slot j =>
      dsimp only at e
      cases q : Sf.frz (.slot j) env with
      | exc x => rw [q] at e; cases e
      | bad => rw [q] at e; cases e
      | ok p =>
        obtain ⟨t, env2⟩ := p
        rw [q] at e
        simp only [Res.bind_ok, Res.ok.injEq] at e
        subst e
        obtain ⟨Z', l, f', rt⟩ := f.frz rv q
        exact ⟨Z', l, f'.setVal rt⟩

/-! ### targets -/
def gNames : List Nat → TGs
  | [] => gNil
  | i :: is => gCons (gName i) (gNames is)
def gOf (K : Frag) : List Nat → TG
  | [i] => gName i
  | is => gTup K is.length (gNames is)
theorem all_read {Q : St → Hp → Prop} : ∀ {is : List Nat} {ts : List T} {vs : List V} {σ : St} {env env' : Ev}, Frame c Z H σ env → Reps c.K Z vs ts → bindAll is ts env = .ok env' →
    (∀ σ', Frame c Z H σ' env' → σ'.length = σ.length → (∀ j, j ∉ is → σ'[j]? = σ[j]?) → Q σ' H) → gNames is vs σ H Q
  | [], [], vs, σ, env, env', f, hr, e, q => by
    simp only [bindAll, Res.ok.injEq] at e
    subst e
    exact ⟨reps_nil.mp hr, q σ f rfl fun _ _ => rfl⟩
  | i :: is, t :: ts, vs, σ, env, env', f, hr, e, q => by
    obtain ⟨v, r, rfl, h1, h2⟩ := reps_cons.mp hr
    have e2 : bindAll is ts (put env i (.val t)) = .ok env' := by
      simp only [bindAll] at e
      split at e
      · cases e
      · exact e
    refine ⟨v, r, rfl, all_read (f.setVal h1) h2 e2 fun σ' f' hl hj => q σ' f' (by rw [hl, List.length_set]) fun j nj => ?_⟩
    rw [hj j fun z => nj (List.mem_cons_of_mem _ z), sig_ne fun z => nj (by rw [z]; exact List.mem_cons_self)]
  | [], _ :: _, _, _, _, _, _, _, e, _ => by simp [bindAll] at e
  | _ :: _, [], _, _, _, _, _, _, e, _ => by simp [bindAll] at e
theorem all_len : ∀ {is : List Nat} {ts : List T} {env env' : Ev}, bindAll is ts env = .ok env' → is.length = ts.length
  | [], [], _, _, _ => rfl
  | i :: is, t :: ts, env, env', e => by
    have e2 : bindAll is ts (put env i (.val t)) = .ok env' := by
      simp only [bindAll] at e
      split at e
      · cases e
      · exact e
    rw [List.length_cons, List.length_cons, all_len e2]
  | [], _ :: _, _, _, e => by simp [bindAll] at e
  | _ :: _, [], _, _, e => by simp [bindAll] at e
theorem bind_read {tg : List Nat} {Q : St → Hp → Prop} (f : Frame c Z H σ env) (hr : Rep c.K Z v t) (e : bindT tg t env = .ok env')
    (q : ∀ σ', Frame c Z H σ' env' → σ'.length = σ.length → (∀ j, j ∉ tg → σ'[j]? = σ[j]?) → Q σ' H) : gOf c.K tg v σ H Q := by
  have many : ∀ {ts : List T}, t = .tup ts → bindAll tg ts env = .ok env' → gTup c.K tg.length (gNames tg) v σ H Q := fun {ts} et eb => by
    subst et
    simp only [Rep] at hr
    obtain ⟨a, vs, rfl, h1, h2⟩ := hr
    exact ⟨a, vs, rfl, SqT.of (f.zh _ _ h1), by rw [h2.len, all_len eb], all_read f h2 eb q⟩
  cases tg with
  | nil =>
    cases t <;> try (simp [bindT] at e; done)
    exact many rfl e
  | cons i r =>
    cases r with
    | cons j r =>
      cases t <;> try (simp [bindT] at e; done)
      exact many rfl e
    | nil =>
      have e2 : bindAll [i] [t] env = .ok env' := e
      simp only [bindAll] at e2
      split at e2
      · cases e2
      · simp only [Res.ok.injEq] at e2
        subst e2
        exact q _ (f.setVal hr) (List.length_set ..) fun j hj => sig_ne fun z => hj (by rw [z]; exact List.mem_cons_self)
end

/-! ### walks -/
section
variable {c : Cn} {Z Z' H H' : Hp} {σ σ' : St} {env env' : Ev} {w : Walk}
def lockC (c : Cn) (w : Walk) (σ : St) (env : Ev) : Cn := match w.guard with
  | none => c
  | some (i, _) => match get env i with
    | .own _ => { c with bo := fun j => if j = i then (match σ[i]? with | some (some (.ref a)) => some a | _ => none) else c.bo j }
    | _ => c
theorem lockC_K : (lockC c w σ env).K = c.K := by
  unfold lockC
  split
  · rfl
  · split <;> rfl
theorem lockC_G : (lockC c w σ env).G = c.G := by
  unfold lockC
  split
  · rfl
  · split <;> rfl
theorem Frame.lock (f : Frame c Z H σ env) : Frame (lockC c w σ env) Z H σ (lock w env) := by
  obtain ⟨items, guard⟩ := w
  cases guard with
  | none => exact f
  | some g =>
    obtain ⟨i, xs⟩ := g
    cases e : get env i with
    | un => simpa only [lockC, Sf.lock, e] using f
    | val t => simpa only [lockC, Sf.lock, e] using f
    | bor t => simpa only [lockC, Sf.lock, e] using f
    | own o =>
      simp only [lockC, Sf.lock, e]
      obtain ⟨a, h1, h2, h3, h4⟩ := f.slot_at e
      have gi : get (put env i (.bor o)) i = .bor o := get_put_self (by rw [e]; trivial)
      refine ⟨f.zh, f.gh, f.zg, fun j => ?_, fun j k b q1 q2 => ?_, by rw [put_length]; exact f.len⟩
      · by_cases hj : j = i
        · subst hj
          rw [gi]
          exact ⟨a, h1, h2, h3, h4, by simp [h1]⟩
        · rw [get_put_ne hj]
          have h := f.sl j
          cases e2 : get env j with
          | un => trivial
          | val t => rw [e2] at h; exact h
          | own m => rw [e2] at h; exact h
          | bor m =>
            rw [e2] at h
            obtain ⟨b, q1, q2, q3, q4, q5⟩ := h
            exact ⟨b, q1, q2, q3, q4, by simp [hj, q5]⟩
      · have own' : ∀ j, ownS (get (put env i (.bor o)) j) → ownS (get env j) := fun j h => by
          by_cases hj : j = i
          · subst hj; rw [e]; trivial
          · rw [get_put_ne hj] at h; exact h
        exact f.inj j k b (own' j q1) (own' k q2)
theorem Frame.unlock {env2 : Ev} {σ2 : St} (f : Frame (lockC c w σ env) Z H σ2 env2) : Frame c Z H σ2 (unlock w env env2) ∧ ∀ j, ownS (get (Sf.unlock w env env2) j) → ownS (get env2 j) := by
  obtain ⟨items, guard⟩ := w
  cases guard with
  | none => exact ⟨f, fun _ h => h⟩
  | some g =>
    obtain ⟨i, xs⟩ := g
    cases e : get env i with
    | un => simp only [lockC, Sf.unlock, e] at f ⊢; exact ⟨f, fun _ h => h⟩
    | val t => simp only [lockC, Sf.unlock, e] at f ⊢; exact ⟨f, fun _ h => h⟩
    | bor t => simp only [lockC, Sf.unlock, e] at f ⊢; exact ⟨f, fun _ h => h⟩
    | own o =>
      simp only [lockC, Sf.unlock, e] at f ⊢
      have others : ∀ {env3 : Ev} (j : Nat), j ≠ i → get env3 j = get env2 j → SlotOk c Z H σ2 j (get env3 j) := fun {env3} j hj eg => by
        rw [eg]
        have h := f.sl j
        cases e2 : get env2 j with
        | un => trivial
        | val t => rw [e2] at h; exact h
        | own m => rw [e2] at h; exact h
        | bor m =>
          rw [e2] at h
          obtain ⟨b, q1, q2, q3, q4, q5⟩ := h
          simp only [if_neg hj] at q5
          exact ⟨b, q1, q2, q3, q4, q5⟩
      cases e2 : get env2 i with
      | bor m =>
        dsimp only
        have own' : ∀ j, ownS (get (put env2 i (.own m)) j) → ownS (get env2 j) := fun j h => by
          by_cases hj : j = i
          · subst hj; rw [e2]; trivial
          · rw [get_put_ne hj] at h; exact h
        refine ⟨⟨f.zh, f.gh, f.zg, fun j => ?_, fun j k b q1 q2 => f.inj j k b (own' j q1) (own' k q2), by rw [put_length]; exact f.len⟩, own'⟩
        by_cases hj : j = i
        · subst hj
          rw [get_put_self (by rw [e2]; trivial)]
          obtain ⟨b, q1, q2, q3, q4, q5⟩ := f.slot_at e2
          exact ⟨b, q1, q2, q3, q4⟩
        · exact others j hj (get_put_ne hj)
      | un =>
        refine ⟨⟨f.zh, f.gh, f.zg, fun j => ?_, f.inj, f.len⟩, fun _ h => h⟩
        by_cases hj : j = i
        · subst hj; rw [e2]; trivial
        · exact others j hj rfl
      | val t =>
        refine ⟨⟨f.zh, f.gh, f.zg, fun j => ?_, f.inj, f.len⟩, fun _ h => h⟩
        by_cases hj : j = i
        · subst hj
          have h := f.sl j
          rw [e2] at h ⊢
          exact h
        · exact others j hj rfl
      | own t =>
        refine ⟨⟨f.zh, f.gh, f.zg, fun j => ?_, f.inj, f.len⟩, fun _ h => h⟩
        by_cases hj : j = i
        · subst hj
          have h := f.sl j
          rw [e2] at h ⊢
          exact h
        · exact others j hj rfl

/-- the iterator gives the walk's items -/
def Yields (c : Cn) (Z : Hp) (w : Walk) (J : L2.It) : Prop := ∀ (k : Nat) (Z1 H1 : Hp) (G : Hp) (σ1 : St) (env1 : Ev), Le Z Z1 → Frame { c with G := G } Z1 H1 σ1 env1 → w.still env1 = true →
  (∀ t, w.items[k]? = some t → J.go k H1 ∧ ∀ x H2, J.yld k H1 x H2 → ∃ Z2, Le Z1 Z2 ∧ Frame { c with G := G } Z2 H2 σ1 env1 ∧ Rep c.K Z2 x t) ∧ (w.items.length ≤ k → J.stop k H1)
def tI (K : Frag) (call : Call) (W : WX) (it : It) : TI := fun σ H R => ∃ (c : Cn) (Z : Hp) (env : Ev), c.K = K ∧ Frame c Z H σ env ∧
  Goal c W Z (fun w env' => ∀ Z' H', Le Z Z' → Frame c Z' H' σ env' → ∀ J, Yields (lockC c w σ env') Z' w J → R J H') (evI call it env)
theorem yields_list {a : Addr} {vs : List V} {xs : List T} (h : Z a = some (.lst vs)) (hr : Reps c.K Z vs xs) : Yields c Z ⟨xs, none⟩ (Itl c.K a) := fun k Z1 H1 G σ1 env1 l f _ => by
  have hq : SqL c.K H1 a vs := SqL.of (f.zh _ _ (l _ _ h))
  refine ⟨fun t ht => ?_, fun hk => ⟨vs, hq, by rw [hr.len]; exact hk⟩⟩
  obtain ⟨v, hv, rv⟩ := hr.get ht
  refine ⟨⟨vs, v, hq, hv⟩, fun x H2 ⟨e, y⟩ => ?_⟩
  have ev := y vs hq
  rw [hv] at ev
  cases ev
  exact ⟨Z1, Le.refl Z1, by rw [e]; exact f, rv.mono l⟩
theorem yields_tup {a : Addr} {vs : List V} {xs : List T} (h : Z a = some (.tup vs)) (hr : Reps c.K Z vs xs) : Yields c Z ⟨xs, none⟩ (Itt c.K a) := fun k Z1 H1 G σ1 env1 l f _ => by
  have hq : SqT c.K H1 a vs := SqT.of (f.zh _ _ (l _ _ h))
  refine ⟨fun t ht => ?_, fun hk => ⟨vs, hq, by rw [hr.len]; exact hk⟩⟩
  obtain ⟨v, hv, rv⟩ := hr.get ht
  refine ⟨⟨vs, v, hq, hv⟩, fun x H2 ⟨e, y⟩ => ?_⟩
  have ev := y vs hq
  rw [hv] at ev
  cases ev
  exact ⟨Z1, Le.refl Z1, by rw [e]; exact f, rv.mono l⟩
theorem yields_str {z : Str} : Yields c Z ⟨z.cps.toList.map fun c => .str ⟨#[c]⟩, none⟩ (Its z) := fun k Z1 H1 G σ1 env1 l f _ => by
  refine ⟨fun t ht => ?_, fun hk => by show z.cps.size ≤ k; simpa using hk⟩
  simp only [List.getElem?_map, Option.map_eq_some_iff, Array.getElem?_toList] at ht
  obtain ⟨n, hn, rfl⟩ := ht
  refine ⟨(Array.getElem?_eq_some_iff.mp hn).1, fun x H2 ⟨e, n', hn', ev⟩ => ?_⟩
  rw [hn] at hn'
  cases hn'
  exact ⟨Z1, Le.refl Z1, by rw [e]; exact f, by rw [ev]; simp only [Rep]⟩
theorem yields_range {lo hi : Int} : Yields c Z ⟨rangeT lo hi, none⟩ (Itr lo (hi - lo).toNat) := fun k Z1 H1 G σ1 env1 l f _ => by
  refine ⟨fun t ht => ?_, fun hk => by show (hi - lo).toNat ≤ k; simpa only [rangeT, List.length_map, List.length_range] using hk⟩
  simp only [rangeT, List.getElem?_map, Option.map_eq_some_iff] at ht
  obtain ⟨n, hn, rfl⟩ := ht
  obtain ⟨h1, h2⟩ := List.getElem?_eq_some_iff.mp hn
  have h2' : k = n := by simpa using h2
  subst h2'
  refine ⟨by show k < (hi - lo).toNat; simpa only [List.length_range] using h1, fun x H2 ⟨e, ev⟩ => ?_⟩
  exact ⟨Z1, Le.refl Z1, by rw [e]; exact f, by rw [ev]; simp only [Rep]⟩
theorem yields_slot {i : Nat} {a : Addr} {xs : List T} (hb : c.bo i = some a) : Yields c Z ⟨xs, some (i, xs)⟩ (Itl c.K a) := fun k Z1 H1 G σ1 env1 l f hw => by
  simp only [Walk.still] at hw
  split at hw
  · rename_i ys e
    have ey := T.beqs_eq hw
    subst ey
    obtain ⟨b, h1, h2, h3, ⟨vs, h4, h5⟩, h6⟩ := f.slot_at e
    have eb : b = a := by
      have h6' : c.bo i = some b := h6
      rw [hb] at h6'
      cases h6'
      rfl
    subst eb
    have hq : SqL c.K H1 b vs := SqL.of h4
    refine ⟨fun t ht => ?_, fun hk => ⟨vs, hq, by rw [h5.len]; exact hk⟩⟩
    obtain ⟨v, hv, rv⟩ := h5.get ht
    refine ⟨⟨vs, v, hq, hv⟩, fun x H2 ⟨e, y⟩ => ?_⟩
    have ev := y vs hq
    rw [hv] at ev
    cases ev
    exact ⟨Z1, Le.refl Z1, by rw [e]; exact f, rv⟩
  · cases hw
end
section
variable {X : Cx} {call : Call} {W : WX} {pos p : Pos} {a b : Expr} {ca cb : E} {tg : Expr}
/-- over what an expression gives -/
theorem si_seq (ha : PE X a (tE X.K call W ca)) : PI X tg a (tI X.K call W (.seq ca)) := by
  refine ⟨fun pins s σ H R I h => ?_⟩
  obtain ⟨c, Z, env, hK, f, g⟩ := h
  simp only [evI] at g
  -- what is walked is known ahead
  cases er : evE call ca env with
  | bad => rw [er] at g; exact g.elim
  | exc x =>
    rw [er] at g
    exact (pi_list ha).run pins s σ H R I ⟨c, Z, env, hK, f, by rw [er]; exact g⟩
  | ok q =>
    obtain ⟨r, env1⟩ := q
    rw [er] at g
    simp only [Res.bind_ok] at g
    obtain ⟨w, ew, g1⟩ := g.of
    have g1 : ∀ Z' H', Le Z Z' → Frame c Z' H' σ env1 → ∀ J, Yields (lockC c w σ env1) Z' w J → R J H' := g1
    cases r with
    | val t =>
      cases t <;> simp only [walkOf] at ew <;> try (cases ew; done)
      · rename_i z
        cases ew
        refine (pi_str ha).run pins s σ H R I ⟨c, Z, env, hK, f, ?_⟩
        rw [er]
        intro Z' H' l f' v rv
        exact ⟨z, rep_txt rv, g1 Z' H' l f' _ yields_str⟩
      · cases ew
        refine (pi_tup ha).run pins s σ H R I ⟨c, Z, env, hK, f, ?_⟩
        rw [er]
        intro Z' H' l f' v rv
        have rv : Rep c.K Z' v (.tup _) := rv
        simp only [Rep] at rv
        obtain ⟨a, vs, rfl, h1, h2⟩ := rv
        exact ⟨a, rfl, ⟨vs, SqT.of (f'.zh _ _ h1)⟩, hK ▸ g1 Z' H' l f' _ (yields_tup h1 h2)⟩
      · cases ew
        refine (pi_list ha).run pins s σ H R I ⟨c, Z, env, hK, f, ?_⟩
        rw [er]
        intro Z' H' l f' v rv
        have rv : Rep c.K Z' v (.lst _) := rv
        simp only [Rep] at rv
        obtain ⟨a, vs, rfl, h1, h2⟩ := rv
        exact ⟨a, rfl, ⟨vs, SqL.of (f'.zh _ _ h1)⟩, hK ▸ g1 Z' H' l f' _ (yields_list h1 h2)⟩
    | own o =>
      cases o with
      | dct _ => simp [walkOf] at ew
      | lst xs =>
        simp only [walkOf, Option.some.injEq] at ew
        subst ew
        refine (pi_list ha).run pins s σ H R I ⟨c, Z, env, hK, f, ?_⟩
        rw [er]
        intro Z' H' l f' v rv
        obtain ⟨Z2, l2, f2, p2⟩ := f'.peek rv
        have p2 : Rep c.K Z2 v (.lst xs) := p2
        simp only [Rep] at p2
        obtain ⟨a, vs, rfl, h1, h2⟩ := p2
        exact ⟨a, rfl, ⟨vs, SqL.of (f2.zh _ _ h1)⟩, hK ▸ g1 Z2 H' (l.trans l2) f2 _ (yields_list h1 h2)⟩
    | slot i =>
      simp only [walkOf] at ew
      refine (pi_list ha).run pins s σ H R I ⟨c, Z, env, hK, f, ?_⟩
      rw [er]
      intro Z' H' l f' v rv
      have hs : σ[i]? = some (some v) := rv
      split at ew
      · rename_i xs e
        cases ew
        obtain ⟨a, h1, h2, h3, vs, h4, h5⟩ := f'.slot_at e
        rw [hs] at h1
        cases h1
        refine ⟨a, rfl, ⟨vs, SqL.of h4⟩, ?_⟩
        have hb : (lockC c ⟨xs, some (i, xs)⟩ σ env1).bo i = some a := by simp [lockC, e, hs]
        have y := yields_slot (Z := Z') (xs := xs) hb
        rw [lockC_K, hK] at y
        exact g1 Z' H' l f' _ y
      · rename_i xs e
        cases ew
        obtain ⟨a, h1, h2, h3, ⟨vs, h4, h5⟩, h6⟩ := f'.slot_at e
        rw [hs] at h1
        cases h1
        refine ⟨a, rfl, ⟨vs, SqL.of h4⟩, ?_⟩
        have hb : (lockC c ⟨xs, some (i, xs)⟩ σ env1).bo i = some a := by simp [lockC, e, h6]
        have y := yields_slot (Z := Z') (xs := xs) hb
        rw [lockC_K, hK] at y
        exact g1 Z' H' l f' _ y
      · cases ew
theorem si_rng (hg : Gl X "range") (hm : X.mg "range" = none) (ha : PE X a (tE X.K call W ca)) (hs : starEach [a] X.env = (false, eval a X.env) :: starEach [] X.env) : PI X tg (.Call (.Name "range" p) [a] [] pos) (tI X.K call W (.rng ca)) :=
  PI_imp (pi_range1 hg hm (pa_cons ha pa_nil hs) hs) fun σ H R ⟨c, Z, env, hK, f, g⟩ => by
    simp only [evI] at g
    refine ⟨c, Z, env, hK, f, g.next (Le.refl Z) fun r env1 g1 Z1 H1 l1 f1 v rv => ?_⟩
    dsimp only at g1
    split at g1
    · rename_i j
      split at g1
      · rename_i hj
        simp only [small, Bool.and_eq_true, decide_eq_true_eq] at hj
        have ev : v = .int j := by simpa only [RepR, Rep] using rv
        refine ⟨j, by rw [ev], hj.1, hj.2, ?_⟩
        have g1 : ∀ Z' H', Le Z Z' → Frame c Z' H' σ env1 → ∀ J, Yields (lockC c ⟨rangeT 0 j, none⟩ σ env1) Z' ⟨rangeT 0 j, none⟩ J → R J H' := g1
        have y := yields_range (c := c) (Z := Z1) (lo := 0) (hi := j)
        rw [Int.sub_zero] at y
        exact g1 Z1 H1 l1 f1 _ y
      · exact g1.elim
    · exact g1.elim
theorem si_rng2 (hg : Gl X "range") (hm : X.mg "range" = none) (ha : PE X a (tE X.K call W ca)) (hb : PE X b (tE X.K call W cb)) (hs : starEach [a, b] X.env = (false, eval a X.env) :: starEach [b] X.env) (hs2 : starEach [b] X.env = (false, eval b X.env) :: starEach [] X.env) :
    PI X tg (.Call (.Name "range" p) [a, b] [] pos) (tI X.K call W (.rng2 ca cb)) :=
  PI_imp (pi_range2 hg hm (pa_cons ha (pa_cons hb pa_nil hs2) hs) (by rw [hs, hs2]; rfl) hs2) fun σ H R ⟨c, Z, env, hK, f, g⟩ => by
    simp only [evI] at g
    refine ⟨c, Z, env, hK, f, g.next (Le.refl Z) fun r env1 g1 Z1 H1 l1 f1 v rv => ?_⟩
    refine ⟨c, Z1, env1, hK, f1, g1.next l1 fun q env2 g2 Z2 H2 l2 f2 u ru => ?_⟩
    dsimp only at g2
    split at g2
    · rename_i i j
      split at g2
      · rename_i hj
        simp only [small, Bool.and_eq_true, decide_eq_true_eq] at hj
        have ev : v = .int i := by simpa only [RepR, Rep] using rv
        have eu : u = .int j := by simpa only [RepR, Rep] using ru
        refine ⟨i, j, by rw [ev, eu], ⟨hj.1.1, hj.1.2, hj.2.1, hj.2.2⟩, ?_⟩
        have g2 : ∀ Z' H', Le Z Z' → Frame c Z' H' σ env2 → ∀ J, Yields (lockC c ⟨rangeT i j, none⟩ σ env2) Z' ⟨rangeT i j, none⟩ J → R J H' := g2
        exact g2 Z2 H2 (l1.trans l2) f2 _ yields_range
      · exact g2.elim
    · exact g2.elim
end
end Sf

/-! Sf, part 8: comprehensions. -/
namespace Sf
open PySem L2

section
variable {c : Cn} {Z Z' Z0 H H' H0 : Hp} {σ σ' : St} {env env' env1 env2 : Ev} {tg : List Nat}
theorem wipeE_in : ∀ {tg : List Nat} {j : Nat}, j ∈ tg → get (wipeE env tg) j = .un
  | i :: is, j, h => by
    show get (put (wipeE env is) i .un) j = .un
    by_cases e : j = i
    · subst e
      rcases get_put_eq (env := wipeE env is) (i := j) (s := .un) with q | q <;> exact q
    · rw [get_put_ne e]
      exact wipeE_in ((List.mem_cons.mp h).resolve_left e)
theorem wipeE_out : ∀ {tg : List Nat} {j : Nat}, j ∉ tg → get (wipeE env tg) j = get env j
  | [], _, _ => rfl
  | i :: is, j, h => by
    show get (put (wipeE env is) i .un) j = _
    rw [get_put_ne fun e => h (by rw [e]; exact List.mem_cons_self)]
    exact wipeE_out fun z => h (List.mem_cons_of_mem _ z)
theorem wipeE_len : ∀ {tg : List Nat}, (wipeE env tg).length = env.length
  | [] => rfl
  | i :: is => by
    show (put (wipeE env is) i .un).length = _
    rw [put_length, wipeE_len]
theorem backE_in : ∀ {tg : List Nat} {j : Nat}, j ∈ tg → get (backE env1 env tg) j = get env1 j ∨ get (backE env1 env tg) j = .un
  | i :: is, j, h => by
    show get (put (backE env1 env is) i (get env1 i)) j = _ ∨ get (put (backE env1 env is) i (get env1 i)) j = _
    by_cases e : j = i
    · subst e
      exact get_put_eq
    · rw [get_put_ne e]
      exact backE_in ((List.mem_cons.mp h).resolve_left e)
theorem backE_out : ∀ {tg : List Nat} {j : Nat}, j ∉ tg → get (backE env1 env tg) j = get env j
  | [], _, _ => rfl
  | i :: is, j, h => by
    show get (put (backE env1 env is) i _) j = _
    rw [get_put_ne fun e => h (by rw [e]; exact List.mem_cons_self)]
    exact backE_out fun z => h (List.mem_cons_of_mem _ z)
theorem backE_len : ∀ {tg : List Nat}, (backE env1 env tg).length = env.length
  | [] => rfl
  | i :: is => by
    show (put (backE env1 env is) i _).length = _
    rw [put_length, backE_len]
theorem SlotOk.sig {i : Nat} {s : Slot} (h : SlotOk c Z H σ i s) (e : σ'[i]? = σ[i]?) : SlotOk c Z H σ' i s := by
  cases s with
  | un => trivial
  | val t =>
    obtain ⟨v, h1, h2⟩ := h
    exact ⟨v, by rw [e]; exact h1, h2⟩
  | own t =>
    obtain ⟨v, h1, h2⟩ := h
    exact ⟨v, by rw [e]; exact h1, h2⟩
  | bor t =>
    obtain ⟨v, h1, h2⟩ := h
    exact ⟨v, by rw [e]; exact h1, h2⟩
theorem Frame.wipe (f : Frame c Z H σ env) (hl : σ'.length = σ.length) (hs : ∀ j, j ∉ tg → σ'[j]? = σ[j]?) : Frame c Z H σ' (wipeE env tg) where
  zh := f.zh
  gh := f.gh
  zg := f.zg
  len := by rw [wipeE_len, hl]; exact f.len
  sl := fun j => by
    by_cases hj : j ∈ tg
    · rw [wipeE_in hj]; trivial
    · rw [wipeE_out hj]
      exact (f.sl j).sig (hs j hj)
  inj := fun i j a h1 h2 e1 e2 => by
    have own' : ∀ j, ownS (get (wipeE env tg) j) → j ∉ tg ∧ ownS (get env j) := fun j h => by
      by_cases hj : j ∈ tg
      · rw [wipeE_in hj] at h; exact h.elim
      · rw [wipeE_out hj] at h; exact ⟨hj, h⟩
    obtain ⟨n1, o1⟩ := own' i h1
    obtain ⟨n2, o2⟩ := own' j h2
    rw [hs i n1] at e1
    rw [hs j n2] at e2
    exact f.inj i j a o1 o2 e1 e2
theorem free_slot {j : Nat} (h : free1 env1 j = true) : (get env1 j = .un) ∨ ∃ t, get env1 j = .val t := by
  unfold free1 at h
  split at h
  · rename_i e; exact .inl e
  · rename_i t e; exact .inr ⟨t, e⟩
  · cases h
theorem back_own {j : Nat} (hf : ∀ j ∈ tg, free1 env1 j = true) (h : ownS (get (backE env1 env2 tg) j)) : j ∉ tg ∧ ownS (get env2 j) := by
  by_cases hj : j ∈ tg
  · exfalso
    rcases backE_in (env := env2) (env1 := env1) hj with e | e
    · rw [e] at h
      rcases free_slot (hf j hj) with q | ⟨t, q⟩ <;> rw [q] at h <;> exact h
    · rw [e] at h; exact h
  · rw [backE_out hj] at h
    exact ⟨hj, h⟩
theorem Frame.unwipe (f : Frame c Z H σ' env2) (l : Le Z0 Z) (hf : ∀ j ∈ tg, free1 env1 j = true) (h0 : ∀ j ∈ tg, ∀ t, get env1 j = .val t → ∃ v, σ[j]? = some (some v) ∧ Rep c.K Z0 v t) (hl : σ'.length = σ.length) (hs : ∀ j, j ∉ tg → σ'[j]? = σ[j]?) : Frame c Z H σ (backE env1 env2 tg) where
  zh := f.zh
  gh := f.gh
  zg := f.zg
  len := by rw [backE_len, ← hl]; exact f.len
  sl := fun j => by
    by_cases hj : j ∈ tg
    · rcases backE_in (env := env2) (env1 := env1) hj with e | e
      · rw [e]
        rcases free_slot (hf j hj) with q | ⟨t, q⟩
        · rw [q]; trivial
        · rw [q]
          obtain ⟨v, h1, h2⟩ := h0 j hj t q
          exact ⟨v, h1, h2.mono l⟩
      · rw [e]; trivial
    · rw [backE_out hj]
      exact (f.sl j).sig (hs j hj).symm
  inj := fun i j a h1 h2 e1 e2 => by
    obtain ⟨n1, o1⟩ := back_own hf h1
    obtain ⟨n2, o2⟩ := back_own hf h2
    rw [← hs i n1] at e1
    rw [← hs j n2] at e2
    exact f.inj i j a o1 o2 e1 e2
theorem wipe_at : ∀ {tg : List Nat} {j : Nat}, j ∈ tg → (L2.wipe σ tg)[j]? = if j < σ.length then some none else none
  | i :: is, j, h => by
    show ((L2.wipe σ is).set i none)[j]? = _
    by_cases e : i = j
    · subst e
      by_cases hl : i < σ.length
      · rw [List.getElem?_set_self (by rw [wipe_length]; exact hl), if_pos hl]
      · rw [List.getElem?_eq_none (by rw [List.length_set, wipe_length]; omega), if_neg hl]
    · rw [List.getElem?_set_ne e]
      exact wipe_at ((List.mem_cons.mp h).resolve_left (Ne.symm e))
theorem wipe_same (hl : σ'.length = σ.length) (hs : ∀ j, j ∉ tg → σ'[j]? = σ[j]?) : L2.wipe σ' tg = L2.wipe σ tg := by
  refine List.ext_getElem? fun j => ?_
  by_cases hj : j ∈ tg
  · rw [wipe_at hj, wipe_at hj, hl]
  · rw [wipe_out hj, wipe_out hj, hs j hj]
/-- an object that no slot holds is rewritten -/
theorem Frame.alien {a : Addr} {u : HO} (f : Frame c Z H σ env) (hz : Z a = none) (hg : c.G a = none) (hs : ∀ i, ownS (get env i) → σ[i]? ≠ some (some (.ref a))) : Frame c Z (upd H a u) σ env where
  zh := fun b w e => by rw [upd_ne (ne_of_none e hz)]; exact f.zh b w e
  gh := fun b w e => by rw [upd_ne (ne_of_none e hg)]; exact f.gh b w e
  zg := f.zg
  len := f.len
  inj := f.inj
  sl := fun j => by
    have h := f.sl j
    have hs' := hs j
    cases e : get env j with
    | un => trivial
    | val t => rw [e] at h; exact h
    | own m =>
      rw [e] at h hs'
      obtain ⟨b, h1, h2, h3, h4⟩ := h
      exact ⟨b, h1, h2, h3, h4.mono (Le.refl _) (upd_ne fun z => hs' trivial (by rw [h1, z]))⟩
    | bor m =>
      rw [e] at h hs'
      obtain ⟨b, h1, h2, h3, h4, h5⟩ := h
      exact ⟨b, h1, h2, h3, h4.mono (Le.refl _) (upd_ne fun z => hs' trivial (by rw [h1, z])), h5⟩
end

/-- no exception leaves -/
def WF : WX := fun _ _ _ _ => False
def tCo (K : Frag) (call : Call) (W : WX) (o : Oe) : TT := fun σ H Q => ∃ (c : Cn) (Z : Hp) (env : Ev), c.K = K ∧ Frame c Z H σ env ∧
  Goal c W Z (fun b env' => ∀ Z' H', Le Z Z' → Frame c Z' H' σ env' → Q b H') (evC call o env)
theorem PTs_imp {X : Cx} {ifs : List Expr} {t t' : TT} (h : PTs X ifs t) (k : ∀ σ H Q, t' σ H Q → t σ H Q) : PTs X ifs t' := ⟨fun pins s σ H Q I q => h.run pins s σ H Q I (k σ H Q q)⟩
section
variable {X : Cx} {call : Call} {W : WX} {pos p : Pos} {a : Expr} {ca : E}
theorem sco_none : PTs X [] (tCo X.K call W .none) := PTs_imp pts_nil fun σ H Q ⟨c, Z, env, hK, f, g⟩ => by
  simp only [evC] at g
  exact g Z H (Le.refl Z) f
theorem sco_some (h : PT X a (tT X.K call W ca)) : PTs X [a] (tCo X.K call W (.some ca)) := PTs_imp (pts_one h) fun σ H Q ⟨c, Z, env, hK, f, g⟩ => by
  simp only [evC] at g
  exact ⟨c, Z, env, hK, f, g⟩
theorem bind_ok_iff {α β : Type} {m : Res α} {f : α → Res β} {b : β} (h : m.bind f = .ok b) : ∃ a, m = .ok a ∧ f a = .ok b := by
  cases m with
  | ok a => exact ⟨a, rfl, h⟩
  | exc x => cases h
  | bad => cases h
/-- a comprehension's turns as a reading -/
theorem comp_read {K : Frag} {celt : E} {tg : List Nat} {it : It} {cond : Oe} {σ : St} {H : Hp} {Q : VK} (h : tE K call W (.comp celt tg it cond) σ H Q) : tLc (tI K call W it) (gOf K tg) (tCo K call WF cond) (tE K call WF celt) tg σ H Q := by
  obtain ⟨c, Z, env, hK, f, g⟩ := h
  simp only [evE] at g
  refine ⟨c, Z, env, hK, f, g.next (Le.refl Z) fun w env1 g1 Z1 H1 l1 f1 J y D hD => ?_⟩
  dsimp only at g1
  split at g1
  case isFalse => exact g1.elim
  rename_i hfree
  have hfree : ∀ j ∈ tg, free1 env1 j = true := List.all_eq_true.mp hfree
  generalize hstep : (fun (t : T) (e : Ev) => (bindT tg t e).bind fun e => (evC call cond e).bind fun x => if x.1 = true then (evE call celt x.2).bind fun x => (frz x.1 x.2).bind fun x => Res.ok (some x.1, wipeE x.2 tg) else Res.ok (none, wipeE x.2 tg)) = step at g1
  cases em : compLoop w step w.items [] (wipeE (lock w env1) tg) with
  | exc x => rw [em] at g1; exact g1.elim
  | bad => rw [em] at g1; exact g1.elim
  | ok q =>
  obtain ⟨accF, env2⟩ := q
  rw [em] at g1
  have g1 : ∀ Z' H', Le Z Z' → Frame c Z' H' σ (unlock w env1 (backE env1 env2 tg)) → ∀ v, RepR c Z' H' σ (unlock w env1 (backE env1 env2 tg)) v (.own (.lst accF)) → Q v H' := g1
  generalize hc' : lockC c w σ env1 = c' at y
  have eK : c'.K = K := by rw [← hc', lockC_K, hK]
  have eG : c'.G = c.G := by rw [← hc', lockC_G]
  have f1l : Frame c' Z1 H1 σ (lock w env1) := by rw [← hc']; exact f1.lock
  have off : ∀ j, j ∉ tg → (L2.wipe σ tg)[j]? = σ[j]? := fun j hj => wipe_out hj
  have wl : (L2.wipe σ tg).length = σ.length := wipe_length σ tg
  have f1w := f1l.wipe wl off
  obtain ⟨d1, d2, d3⟩ := f1w.fresh hD
  let Inv' : Nat → Hp → Prop := fun i H => ∃ Z' acc accV envi, Le Z1 Z' ∧ Frame (c'.more D (.lst accV)) Z' H (L2.wipe σ tg) envi ∧ Reps K Z' accV acc ∧ compLoop w step (w.items.drop i) acc envi = .ok (accF, env2)
  refine ⟨fun i m H => m = w.items.length - i ∧ i ≤ w.items.length ∧ Inv' i H, ⟨w.items.length, by simp, Nat.zero_le _, Z1, [], [], _, Le.refl Z1, (f1w.alloc hD).more d1 d2 upd_same d3, by simp [Reps], by simpa using em⟩, ?_⟩
  rintro i m Hi ⟨rfl, hle, Z', acc, accV, envi, l', fi, ra, ec⟩
  by_cases hlt : i < w.items.length
  · have ed : w.items.drop i = w.items[i] :: w.items.drop (i + 1) := List.drop_eq_getElem_cons hlt
    rw [ed] at ec
    simp only [compLoop] at ec
    split at ec
    case isFalse => cases ec
    rename_i hst
    obtain ⟨y1, _⟩ := y i Z' Hi (upd c'.G D (.lst accV)) (L2.wipe σ tg) envi l' fi hst
    obtain ⟨go, yl⟩ := y1 w.items[i] (List.getElem?_eq_getElem hlt)
    refine .inr ⟨go, fun H' => Inv' (i + 1) H', fun H' n => ⟨w.items.length - (i + 1), by omega, rfl, hlt, n⟩, fun x H2 hy => ?_⟩
    obtain ⟨Z2, l2, f2, rx⟩ := yl x H2 hy
    obtain ⟨q, es, en⟩ := bind_ok_iff ec
    rw [← hstep] at es
    obtain ⟨e1, eb, es⟩ := bind_ok_iff es
    obtain ⟨q2, eco, es⟩ := bind_ok_iff es
    have f2 : Frame (c'.more D (.lst accV)) Z2 H2 (L2.wipe σ tg) envi := f2
    have key := bind_read (Q := fun σ2 H2 => L2.wipe σ2 tg = L2.wipe σ tg ∧ tCo K call WF cond σ2 H2 fun b H3 => if b = true then tE K call WF celt σ2 H3 fun y H4 => ∃ acc, H4 D = some (.lst acc) ∧ acc.length < sizeLine ∧ Inv' (i + 1) (upd H4 D (.lst (acc ++ [y]))) else Inv' (i + 1) H3) f2 (by rw [show (c'.more D (.lst accV)).K = c'.K from rfl]; exact rx) eb ?_
    · rw [show (c'.more D (.lst accV)).K = K from eK] at key
      exact key
    intro σ2 fb hl2 ho2
    have sl2 : σ2.length = σ.length := by rw [hl2, wl]
    have so2 : ∀ j, j ∉ tg → σ2[j]? = σ[j]? := fun j hj => by rw [ho2 j hj, off j hj]
    have back : ∀ {Z H e}, Frame c' Z H σ2 e → Frame c' Z H (L2.wipe σ tg) (wipeE e tg) := fun {Z H e} f => f.wipe hl2.symm fun j hj => (ho2 j hj).symm
    refine ⟨wipe_same sl2 so2, c'.more D (.lst accV), Z2, e1, eK, fb, ?_⟩
    rw [eco]
    intro Z3 H3 l3 f3
    obtain ⟨k, e2⟩ := q2
    cases k with
    | false =>
      simp only [Bool.false_eq_true, if_false, Res.ok.injEq] at es ⊢
      subst es
      obtain ⟨f4, h1, h2, h3⟩ := f3.less d2
      have f5 := back f4
      refine ⟨Z3, acc, accV, _, l'.trans (l2.trans l3), f5.more h1 d2 h2 fun j hj => ?_, Reps.mono (l2.trans l3) ra, en⟩
      obtain ⟨n1, o1⟩ : j ∉ tg ∧ ownS (get e2 j) := by
        by_cases hj' : j ∈ tg
        · rw [wipeE_in hj'] at hj; exact hj.elim
        · rw [wipeE_out hj'] at hj; exact ⟨hj', hj⟩
      rw [off j n1, ← so2 j n1]
      exact h3 j o1
    | true =>
      simp only [if_true] at es ⊢
      obtain ⟨q3, ee, es⟩ := bind_ok_iff es
      obtain ⟨r, e3⟩ := q3
      obtain ⟨q4, ef, es⟩ := bind_ok_iff es
      obtain ⟨tx, e4⟩ := q4
      simp only [Res.ok.injEq] at es
      subst es
      refine ⟨c'.more D (.lst accV), Z3, e2, eK, f3, ?_⟩
      rw [ee]
      intro Z4 H4 l4 f4 v rv
      obtain ⟨Z5, l5, f5, rt⟩ := f4.frz rv ef
      obtain ⟨f6, h1, h2, h3⟩ := f5.less d2
      dsimp only at en
      split at en
      case isFalse => cases en
      rename_i hacc
      refine ⟨accV, h2, by rw [ra.len]; exact Nat.lt_of_lt_of_le hacc lim_le, ?_⟩
      have f7 := back (f6.alien (u := .lst (accV ++ [v])) h1 d2 h3)
      refine ⟨Z5, acc ++ [tx], accV ++ [v], _, l'.trans (l2.trans (l3.trans (l4.trans l5))), f7.more h1 d2 upd_same fun j hj => ?_, ?_, en⟩
      · obtain ⟨n1, o1⟩ : j ∉ tg ∧ ownS (get e4 j) := by
          by_cases hj' : j ∈ tg
          · rw [wipeE_in hj'] at hj; exact hj.elim
          · rw [wipeE_out hj'] at hj; exact ⟨hj', hj⟩
        rw [off j n1, ← so2 j n1]
        exact h3 j o1
      · refine (Reps.mono (l2.trans (l3.trans (l4.trans l5))) ra).app (.cons' ?_ (by simp [Reps]))
        rw [← eK]
        exact rt
  · have ei : w.items.drop i = [] := List.drop_eq_nil_of_le (by omega)
    rw [ei] at ec
    simp only [compLoop] at ec
    split at ec
    case isFalse => cases ec
    rename_i hst
    obtain ⟨_, y2⟩ := y i Z' Hi (upd c'.G D (.lst accV)) (L2.wipe σ tg) envi l' fi hst
    simp only [Res.ok.injEq, Prod.mk.injEq] at ec
    obtain ⟨rfl, rfl⟩ := ec
    obtain ⟨f4, h1, h2, h3⟩ := fi.less d2
    have f5 : Frame c' Z' Hi σ (backE env1 envi tg) := f4.unwipe l' hfree (fun j hj t e => by
      obtain ⟨v, q1, q2⟩ := f1.slot_at e
      exact ⟨v, q1, by rw [eK, ← hK]; exact q2⟩) wl off
    have f5' := f5
    rw [← hc'] at f5'
    obtain ⟨f6, uo⟩ := f5'.unlock
    refine .inl ⟨y2 (by omega), g1 Z' Hi (l1.trans l') f6 _ ⟨D, rfl, h1, by rw [← eG]; exact d2, ⟨accV, h2, by rw [hK]; exact ra⟩, fun j hj => ?_⟩⟩
    obtain ⟨n1, o1⟩ := back_own hfree (uo j hj)
    rw [← off j n1]
    exact h3 j o1
section
variable {elt tgE iter : Expr} {ifs : List Expr} {scope : Scope} {own : List (Str × Nat)} {celt : E} {tg : List Nat} {it : It} {cond : Oe} {spos py : Pos}
theorem se_comp (hc : X.calm = true) (hN : X.N.Nodup) (hi : PI X tgE iter (tI X.K call W it)) (ok : BlkOk X.N X.env.scope scope own) (how : own.map (·.2) = tg)
    (hg : ∀ (s : Shared) (H : Hp) (C : Addr) (cl : List (Str × Addr)) (fp : List Addr), PG (X.blk s H scope (compEnvC scope cl C X.env) fp) tgE (gOf X.K tg))
    (ht : ∀ (s : Shared) (H : Hp) (C : Addr) (cl : List (Str × Addr)) (fp : List Addr), PTs (X.blk s H scope (compEnvC scope cl C X.env) fp) ifs (tCo X.K call WF cond))
    (he : ∀ (s : Shared) (H : Hp) (C : Addr) (cl : List (Str × Addr)) (fp : List Addr), PE (X.blk s H scope (compEnvC scope cl C X.env) fp) elt (tE X.K call WF celt)) (hs : ∀ x, foldedSetIterable iter X.env x = pure x) :
    PE X (.ListComp elt [⟨tgE, iter, ifs, 0⟩] scope pos) (tE X.K call W (.comp celt tg it cond)) := by
  subst how
  exact PE_imp (pe_lc hc hN hi ok hg ht he hs) fun σ H Q h => comp_read h
theorem ss_comp {i : Nat} {y : Str} (hc : X.calm = true) (hN : X.N.Nodup) (hy : X.N[i]? = some y) (hyl : X.env.scope.names.lookup y = some .local)
    (hsw : swapsWith (.ListComp elt [⟨tgE, iter, ifs, 0⟩] scope pos) (some (.Name y py)) spos.line X.env = pure true) (hi : PI X tgE iter (tI X.K call W it)) (ok : BlkOk X.N X.env.scope scope own) (how : own.map (·.2) = tg)
    (hg : ∀ (s : Shared) (H : Hp) (C : Addr) (cl : List (Str × Addr)) (fp : List Addr), PG (X.blk s H scope (compEnvC scope cl C X.env) fp) tgE (gOf X.K tg))
    (ht : ∀ (s : Shared) (H : Hp) (C : Addr) (cl : List (Str × Addr)) (fp : List Addr), PTs (X.blk s H scope (compEnvC scope cl C X.env) fp) ifs (tCo X.K call WF cond))
    (he : ∀ (s : Shared) (H : Hp) (C : Addr) (cl : List (Str × Addr)) (fp : List Addr), PE (X.blk s H scope (compEnvC scope cl C X.env) fp) elt (tE X.K call WF celt)) (hs : ∀ x, foldedSetIterable iter X.env x = pure x) :
    PS X (.Assign [.Name y py] (.ListComp elt [⟨tgE, iter, ifs, 0⟩] scope pos) spos) (tAsg (tE X.K call W (.comp celt tg it cond)) (gName i)) := by
  subst how
  exact PS_imp (ps_setLc hc hN hy hyl hsw hi ok hg ht he hs) fun D σ H h => comp_read h
end
end
end Sf

/-! Sf, part 9: statements. -/
namespace Sf
open PySem L2

def GoalS (c : Cn) (W : WX) (Z : Hp) (P : Ev → Prop) (R : R → Ev → Prop) : Res Fl → Prop
  | .ok (.nx env) => P env
  | .ok (.rt r env) => R r env
  | .exc x => ExcOk c W Z x
  | .bad => False
section
variable {β : Type} {c : Cn} {W : WX} {Z Z1 : Hp} {P P' : Ev → Prop} {R' R2 : R → Ev → Prop} {P1 : β → Ev → Prop}
theorem GoalS.next {m : Res (β × Ev)} {f : β × Ev → Res Fl} (l : Le Z Z1) (g : GoalS c W Z P R' (m.bind f)) (k : ∀ b env, GoalS c W Z P R' (f (b, env)) → P1 b env) : Goal c W Z1 P1 m := by
  cases m with
  | ok p => exact k p.1 p.2 g
  | exc x => exact ExcOk.up l g
  | bad => exact g
theorem GoalS.imp {m : Res Fl} (g : GoalS c W Z P R' m) (l : Le Z Z1) (k : ∀ env, P env → P' env) (k2 : ∀ r env, R' r env → R2 r env) : GoalS c W Z1 P' R2 m := by
  cases m with
  | ok p =>
    cases p with
    | nx env => exact k env g
    | rt r env => exact k2 r env g
  | exc x => exact ExcOk.up l g
  | bad => exact g
theorem GoalS.of {o : Option β} {f : β → Res Fl} (g : GoalS c W Z P R' ((Res.of o).bind f)) : ∃ x, o = some x ∧ GoalS c W Z P R' (f x) := by
  cases o with
  | none => exact False.elim g
  | some x => exact ⟨x, rfl, g⟩
theorem GoalS.frz {Z2 H1 : Hp} {σ : St} {r : R} {env : Ev} {v : V} {k : T × Ev → Res Fl} (g : GoalS c W Z P R' ((Sf.frz r env).bind k)) (f : Frame c Z1 H1 σ env) (rv : RepR c Z1 H1 σ env v r) :
    ∃ t env2 Z2, Le Z1 Z2 ∧ Frame c Z2 H1 σ env2 ∧ Rep c.K Z2 v t ∧ GoalS c W Z P R' (k (t, env2)) := by
  cases e : Sf.frz r env with
  | exc x => exact absurd e frz_ne_exc
  | bad => rw [e] at g; exact g.elim
  | ok q =>
    obtain ⟨t, env2⟩ := q
    rw [e] at g
    obtain ⟨Z2, l2, f2, rt⟩ := f.frz rv e
    exact ⟨t, env2, Z2, l2, f2, rt, g⟩
end
/-- a statement's reading by its run -/
def Nx (c : Cn) (Z : Hp) (D : Ends) (env' : Ev) : Prop := ∀ Z' H' σ', Le Z Z' → Frame c Z' H' σ' env' → D.nx σ' H'
def Rt (c : Cn) (Z : Hp) (D : Ends) (r : R) (env' : Ev) : Prop := ∀ Z' H' σ' v, Le Z Z' → Frame c Z' H' σ' env' → RepR c Z' H' σ' env' v r → D.rt v H'
def tS (K : Frag) (call : Call) (W : WX) (s : S) : TS := fun D σ H => ∃ (c : Cn) (Z : Hp) (env : Ev), c.K = K ∧ Frame c Z H σ env ∧ GoalS c W Z (Nx c Z D) (Rt c Z D) (evS call s env)
def tSs (K : Frag) (call : Call) (W : WX) (s : Ss) : TS := fun D σ H => ∃ (c : Cn) (Z : Hp) (env : Ev), c.K = K ∧ Frame c Z H σ env ∧ GoalS c W Z (Nx c Z D) (Rt c Z D) (evSs call s env)
theorem Nx.up {c : Cn} {Z Z1 : Hp} {D : Ends} {env : Ev} (l : Le Z Z1) (h : Nx c Z D env) : Nx c Z1 D env := fun Z' H' σ' l' f => h Z' H' σ' (l.trans l') f
theorem Rt.up {c : Cn} {Z Z1 : Hp} {D : Ends} {r : R} {env : Ev} (l : Le Z Z1) (h : Rt c Z D r env) : Rt c Z1 D r env := fun Z' H' σ' v l' f rv => h Z' H' σ' v (l.trans l') f rv
section
variable {X : Cx} {call : Call} {W : WX} {pos p py apos : Pos} {e a : Expr} {ce ca ck : E} {i : Nat} {y : Str}
theorem ss_nil : PSs X [] (tSs X.K call W .nil) := PSs_imp pss_nil fun D σ H ⟨c, Z, env, hK, f, g⟩ => by
  simp only [evSs] at g
  exact g Z H σ (Le.refl Z) f
theorem ss_cons {s : Stmt} {ss : List Stmt} {cs : S} {css : Ss} (h : PS X s (tS X.K call W cs)) (hr : PSs X ss (tSs X.K call W css)) : PSs X (s :: ss) (tSs X.K call W (.cons cs css)) := PSs_imp (pss_cons h hr) fun D σ H ⟨c, Z, env, hK, f, g⟩ => by
  simp only [evSs] at g
  refine ⟨c, Z, env, hK, f, ?_⟩
  cases em : evS call cs env with
  | bad => rw [em] at g; exact g
  | exc x => rw [em] at g; exact g
  | ok q =>
    rw [em] at g
    cases q with
    | rt r env' => exact g
    | nx env' => exact fun Z' H' σ' l f' => ⟨c, Z', env', hK, f', g.imp l (fun e h => h.up l) fun r e h => h.up l⟩
/-- name = e -/
theorem set_read {K : Frag} {D : Ends} {σ : St} {H : Hp} (h : tS K call W (.set i ce) D σ H) : tAsg (tE K call W ce) (gName i) D σ H := by
  obtain ⟨c, Z, env, hK, f, g⟩ := h
  simp only [evS] at g
  refine ⟨c, Z, env, hK, f, g.next (Le.refl Z) fun r env1 g1 Z1 H1 l1 f1 v rv => ?_⟩
  dsimp only at g1
  cases es : setR env1 i r with
  | bad => rw [es] at g1; exact g1.elim
  | exc x =>
    exfalso
    unfold Sf.setR at es
    split at es
    · cases es
    · cases r with
      | val t => cases es
      | own o => cases es
      | slot j =>
        dsimp only at es
        cases q : Sf.frz (.slot j) env1 with
        | exc x => exact absurd q frz_ne_exc
        | bad => rw [q] at es; cases es
        | ok p => rw [q] at es; cases es
  | ok env2 =>
    rw [es] at g1
    obtain ⟨Z2, l2, f2⟩ := f1.setR rv es
    exact g1 Z2 H1 _ (l1.trans l2) f2
theorem s_set (hN : X.N.Nodup) (hi : X.N[i]? = some y) (hx : Loc X.env.scope y) (he : PE X e (tE X.K call W ce)) (hs : swapsWith e (some (.Name y py)) pos.line X.env = pure false) (hf : X.fn y = true ∨ X.env.scope.names.lookup y = some .local) :
    PS X (.Assign [.Name y py] e pos) (tS X.K call W (.set i ce)) := PS_imp (ps_set hN hi hx he hs hf) fun D σ H h => set_read h
theorem s_setC (h : PS X (.Assign [.Name y py] e pos) (tAsg (tE X.K call W ce) (gName i))) : PS X (.Assign [.Name y py] e pos) (tS X.K call W (.set i ce)) := PS_imp h fun D σ H h => set_read h
/-- a, b, .. = e -/
theorem s_unp {tg : Expr} {is : List Nat} (he : PE X e (tE X.K call W ce)) (hg : PG X tg (gTup X.K is.length (gNames is))) (hs : swapsWithSole [tg] e pos.line X.env = pure false) (hw : swappedStores [tg] e X.env = pure none) (h1 : (assignEach [tg] X.env).map (·.2) = [assign tg X.env]) :
    PS X (.Assign [tg] e pos) (tS X.K call W (.unp is ce)) := PS_imp (ps_asg he hg hs hw h1) fun D σ H ⟨c, Z, env, hK, f, g⟩ => by
  simp only [evS] at g
  refine ⟨c, Z, env, hK, f, g.next (Le.refl Z) fun r env1 g1 Z1 H1 l1 f1 v rv => ?_⟩
  dsimp only at g1
  split at g1
  · rename_i ts
    cases eb : bindAll is ts env1 with
    | bad => rw [eb] at g1; exact g1.elim
    | exc x =>
      exfalso
      clear g1
      have no : ∀ (is : List Nat) (ts : List T) (env : Ev), bindAll is ts env ≠ .exc x := by
        intro is
        induction is with
        | nil => intro ts env; cases ts <;> simp [bindAll]
        | cons i is ih =>
          intro ts env
          cases ts with
          | nil => simp [bindAll]
          | cons t ts =>
            simp only [bindAll]
            split
            · simp
            · exact ih _ _
      exact no _ _ _ eb
    | ok env2 =>
      rw [eb] at g1
      have rv : Rep c.K Z1 v (.tup ts) := rv
      simp only [Rep] at rv
      obtain ⟨a, vs, rfl, h1, h2⟩ := rv
      exact ⟨a, vs, rfl, hK ▸ SqT.of (f1.zh _ _ h1), by rw [h2.len, all_len eb], all_read f1 h2 eb fun σ' f' _ _ => g1 Z1 H1 σ' l1 f'⟩
  · exact g1.elim
/-- d[k] = v -/
theorem s_sto {k v : Expr} {cv : E} {p2 : Pos} {x : Str} (hu : X.A.units + 64 < cLine) (ho : PE X (.Name x p) (tVar i)) (hk : PE X k (tE X.K call W ck)) (hv : PE X v (tE X.K call W cv)) (hs : swapsWith v (some (.Subscript (.Name x p) k p2)) pos.line X.env = pure false) :
    PS X (.Assign [.Subscript (.Name x p) k p2] v pos) (tS X.K call W (.sto i ck cv)) := PS_imp (ps_dput (by omega) ho hk hv hs) fun D σ H ⟨c, Z, env, hK, f, g⟩ => by
  simp only [evS] at g
  refine ⟨c, Z, env, hK, f, g.next (Le.refl Z) fun q env1 g1 Z1 H1 l1 f1 u ru => ?_⟩
  obtain ⟨ks, ek, g2⟩ := g1.of
  obtain ⟨ad, hs, hd⟩ := dct_isD f1 ek
  refine ⟨.ref ad, hs, c, Z1, env1, hK, f1, g2.next l1 fun r env2 g3 Z2 H2 l2 f2 w rw => ?_⟩
  dsimp only at g3
  split at g3
  · rename_i k t
    obtain ⟨kvs, e2, g4⟩ := g3.of
    split at g4
    · rename_i hl
      obtain ⟨a2, ps, h1, h2, h3, h4, h5, h6⟩ := dct_at f2 e2
      rw [hs] at h1
      cases h1
      rw [rep_txt rw]
      have rp : Rep c.K Z2 u t := Rep.mono l2 ru
      refine ⟨ad, _, rfl, DPut.k (k := .inr k) h4 (by rw [h5.len]; exact Nat.lt_of_lt_of_le hl lim_le), ?_⟩
      exact g4 Z2 _ σ (l1.trans l2) (f2.write (o := .dct (store kvs k t)) hs h6 h2 h3 ⟨_, upd_same, kv_put rp h5⟩)
    · exact g4.elim
  · exact g3.elim
/-- name += e -/
theorem s_aug (hN : X.N.Nodup) (hi : X.N[i]? = some y) (hx : Loc X.env.scope y) (he : PE X e (tE X.K call W ce)) (hf : X.fn y = true ∨ X.env.scope.names.lookup y = some .local) : PS X (.AugAssign (.Name y py) .Add e pos) (tS X.K call W (.aug i ce)) :=
  PS_imp (ps_aug hN hi hx he ip_add hf) fun D σ H ⟨c, Z, env, hK, f, g⟩ => by
    simp only [evS] at g
    split at g
    · rename_i n en
      obtain ⟨v, h1, h2⟩ := f.slot_at en
      simp only [Rep] at h2
      subst h2
      refine ⟨_, h1, c, Z, env, hK, f, g.next (Le.refl Z) fun r env1 g1 Z1 H1 l1 f1 u ru => ?_⟩
      dsimp only at g1
      split at g1
      · rename_i j
        have eu : u = .int j := by simpa only [RepR, Rep] using ru
        exact ⟨n, j, rfl, eu, g1 Z1 H1 _ l1 (f1.setVal (by simp only [Rep]))⟩
      · exact g1.elim
    · exact g.elim
theorem lst_at {c : Cn} {Z H : Hp} {σ : St} {env : Ev} {i : Nat} {xs : List T} (f : Frame c Z H σ env) (e : lstAt env i = some xs) : ∃ a vs, σ[i]? = some (some (.ref a)) ∧ Z a = none ∧ c.G a = none ∧ H a = some (.lst vs) ∧ Reps c.K Z vs xs ∧ ownS (get env i) := by
  unfold lstAt at e
  split at e
  · rename_i ks q
    cases e
    obtain ⟨a, h1, h2, h3, ps, h4, h5⟩ := f.slot_at q
    exact ⟨a, ps, h1, h2, h3, h4, h5, by rw [q]; trivial⟩
  · rename_i ks q
    cases e
    obtain ⟨a, h1, h2, h3, ⟨ps, h4, h5⟩, _⟩ := f.slot_at q
    exact ⟨a, ps, h1, h2, h3, h4, h5, by rw [q]; trivial⟩
  · cases e
theorem few_one {env : Env} (hs : starEach [e] env = (false, eval e env) :: starEach [] env) : ((backTo pos (starEach [e] env)).all (fun x => !x.1) && (backToKw pos (keywordEach [] env)).all (fun x => x.1.isSome)
      && decide (([e] : List Expr).length + ([] : List Keyword).length + (if ([] : List Keyword).isEmpty then 0 else 1) < 30)) = true := by
  rw [hs]
  rfl
/-- xs.append(e) -/
theorem s_app {x : Str} (ho : PE X (.Name x p) (tVar i)) (he : PE X e (tE X.K call W ce)) (hs : starEach [e] X.env = (false, eval e X.env) :: starEach [] X.env) (hl : (apos.endLine == py.line) = true) (hw : swapsWith (.Call (.Attribute (.Name x p) "append" apos) [e] [] py) none pos.line X.env = pure false) :
    PS X (.Expr (.Call (.Attribute (.Name x p) "append" apos) [e] [] py) pos) (tS X.K call W (.app i ce)) :=
  PS_imp (ps_expr (pe_bm PySem.F.plainAttrs_list PySem.F.slot_list_append PySem.F.type_list_append mt_append ho (pa_cons he pa_nil hs) rfl (few_one hs) hl hs rfl) hw) fun D σ H ⟨c, Z, env, hK, f, g⟩ => by
    simp only [evS] at g
    obtain ⟨xs, ex, g⟩ := g.of
    obtain ⟨a, vs, h1, _, _, h4, _, _⟩ := lst_at f ex
    refine ⟨.ref a, h1, .inl ⟨rfl, vs, SqL.of h4⟩, c, Z, env, hK, f, g.next (Le.refl Z) fun r env1 g1 Z1 H1 l1 f1 u ru => ?_⟩
    obtain ⟨t, env2, Z2, l2, f2, rt, g2⟩ := g1.frz (Z2 := Z) f1 ru
    obtain ⟨ys, ey, g3⟩ := g2.of
    obtain ⟨b, ws, q1, q2, q3, q4, q5, q6⟩ := lst_at f2 ey
    rw [h1] at q1
    cases q1
    split at g3
    · rename_i hz
      refine ⟨a, ws, u, rfl, rfl, q4, by rw [q5.len]; exact Nat.lt_of_lt_of_le hz lim_le, ?_⟩
      exact g3 Z2 _ σ (l1.trans l2) (f2.write (o := .lst (ys ++ [t])) h1 q6 q2 q3 ⟨_, upd_same, q5.app (.cons' rt (by simp [Reps]))⟩)
    · exact g3.elim
/-- xs.extend(e) -/
theorem s_ext {x : Str} (ho : PE X (.Name x p) (tVar i)) (he : PE X e (tE X.K call W ce)) (hs : starEach [e] X.env = (false, eval e X.env) :: starEach [] X.env) (hl : (apos.endLine == py.line) = true) (hw : swapsWith (.Call (.Attribute (.Name x p) "extend" apos) [e] [] py) none pos.line X.env = pure false) :
    PS X (.Expr (.Call (.Attribute (.Name x p) "extend" apos) [e] [] py) pos) (tS X.K call W (.ext i ce)) :=
  PS_imp (ps_expr (pe_bm PySem.F.plainAttrs_list PySem.F.slot_list_extend PySem.F.type_list_extend mt_extend ho (pa_cons he pa_nil hs) rfl (few_one hs) hl hs rfl) hw) fun D σ H ⟨c, Z, env, hK, f, g⟩ => by
    simp only [evS] at g
    obtain ⟨xs, ex, g⟩ := g.of
    obtain ⟨a, vs, h1, _, _, h4, _, _⟩ := lst_at f ex
    refine ⟨.ref a, h1, .inl ⟨rfl, vs, SqL.of h4⟩, c, Z, env, hK, f, g.next (Le.refl Z) fun r env1 g1 Z1 H1 l1 f1 u ru => ?_⟩
    obtain ⟨t, env2, Z2, l2, f2, rt, g2⟩ := g1.frz (Z2 := Z) f1 ru
    obtain ⟨ys, ey, g3⟩ := g2.of
    obtain ⟨b, ws, q1, q2, q3, q4, q5, q6⟩ := lst_at f2 ey
    rw [h1] at q1
    cases q1
    dsimp only at g3
    split at g3
    · rename_i zs
      split at g3
      · rename_i hz
        simp only [Rep] at rt
        obtain ⟨b, us, rfl, z1, z2⟩ := rt
        refine ⟨a, b, ws, us, rfl, rfl, q4, f2.zh _ _ z1, by rw [q5.len, z2.len]; exact Nat.le_trans hz lim_le, ?_⟩
        exact g3 Z2 _ σ (l1.trans l2) (f2.write (o := .lst (ys ++ zs)) h1 q6 q2 q3 ⟨_, upd_same, q5.app z2⟩)
      · exact g3.elim
    · exact g3.elim
theorem s_ex (he : PE X e (tE X.K call W ce)) (hs : swapsWith e none pos.line X.env = pure false) : PS X (.Expr e pos) (tS X.K call W (.ex ce)) := PS_imp (ps_expr he hs) fun D σ H ⟨c, Z, env, hK, f, g⟩ => by
  simp only [evS] at g
  exact ⟨c, Z, env, hK, f, g.next (Le.refl Z) fun r env1 g1 Z1 H1 l1 f1 u ru => g1 Z1 H1 σ l1 f1⟩
theorem s_ite {sa sb : List Stmt} {ct : E} {ssa ssb : Ss} (hc : PT X e (tT X.K call W ct)) (ha : PSs X sa (tSs X.K call W ssa)) (hb : PSs X sb (tSs X.K call W ssb)) : PS X (.If e sa sb pos) (tS X.K call W (.ite ct ssa ssb)) := PS_imp (ps_if hc ha hb) fun D σ H ⟨c, Z, env, hK, f, g⟩ => by
  simp only [evS] at g
  refine ⟨c, Z, env, hK, f, g.next (Le.refl Z) fun k env1 g1 Z1 H1 l1 f1 => ?_⟩
  cases k with
  | true =>
    simp only [if_true] at g1 ⊢
    exact ⟨c, Z1, env1, hK, f1, g1.imp l1 (fun e h => h.up l1) fun r e h => h.up l1⟩
  | false =>
    simp only [Bool.false_eq_true, if_false] at g1 ⊢
    exact ⟨c, Z1, env1, hK, f1, g1.imp l1 (fun e h => h.up l1) fun r e h => h.up l1⟩
/-- a result handed back -/
theorem ret_ok {c : Cn} {Z H : Hp} {σ : St} {env env' : Ev} {v : V} {r r' : R} (f : Frame c Z H σ env) (rv : RepR c Z H σ env v r) (e : retR env r = .ok (r', env')) : Frame c Z H σ env' ∧ RepR c Z H σ env' v r' := by
  cases r with
  | val t =>
    simp only [retR, Res.ok.injEq, Prod.mk.injEq] at e
    obtain ⟨rfl, rfl⟩ := e
    exact ⟨f, rv⟩
  | own o =>
    simp only [retR, Res.ok.injEq, Prod.mk.injEq] at e
    obtain ⟨rfl, rfl⟩ := e
    exact ⟨f, rv⟩
  | slot i =>
    have hs : σ[i]? = some (some v) := rv
    simp only [retR] at e
    split at e
    · rename_i t q
      simp only [Res.ok.injEq, Prod.mk.injEq] at e
      obtain ⟨rfl, rfl⟩ := e
      obtain ⟨w, h1, h2⟩ := f.slot_at q
      rw [hs] at h1
      cases h1
      exact ⟨f, h2⟩
    · rename_i o q
      simp only [Res.ok.injEq, Prod.mk.injEq] at e
      obtain ⟨rfl, rfl⟩ := e
      obtain ⟨a, h1, h2, h3, h4⟩ := f.slot_at q
      rw [hs] at h1
      cases h1
      have own' : ∀ j, ownS (get (put env i .un) j) → j ≠ i ∧ ownS (get env j) := fun j h => by
        rcases get_put (env := env) (i := i) (j := j) (s := .un) with ⟨rfl, q | q⟩ | ⟨ne, q⟩
        · rw [q] at h; exact h.elim
        · rw [q] at h; exact h.elim
        · rw [q] at h; exact ⟨ne, h⟩
      refine ⟨⟨f.zh, f.gh, f.zg, fun j => ?_, fun j k b h1 h2 => f.inj j k b (own' j h1).2 (own' k h2).2, by rw [put_length]; exact f.len⟩, a, rfl, h2, h3, h4, fun j hj e2 => ?_⟩
      · rcases get_put (env := env) (i := i) (j := j) (s := .un) with ⟨rfl, q | q⟩ | ⟨ne, q⟩
        · rw [q]; trivial
        · rw [q]; trivial
        · rw [q]; exact f.sl j
      · obtain ⟨ne, o1⟩ := own' j hj
        exact ne (f.inj j i a o1 (by rw [q]; trivial) e2 hs)
    · cases e
theorem ret_ne_exc {env : Ev} {r : R} {x : Exc} : retR env r ≠ .exc x := by
  cases r with
  | val t => simp [retR]
  | own o => simp [retR]
  | slot i =>
    simp only [retR]
    split <;> simp
theorem s_ret (he : PE X e (tE X.K call W ce)) : PS X (.Return (some e) pos) (tS X.K call W (.ret ce)) := PS_imp (ps_ret he) fun D σ H ⟨c, Z, env, hK, f, g⟩ => by
  simp only [evS] at g
  refine ⟨c, Z, env, hK, f, g.next (Le.refl Z) fun r env1 g1 Z1 H1 l1 f1 u ru => ?_⟩
  dsimp only at g1
  cases er : retR env1 r with
  | bad => rw [er] at g1; exact g1.elim
  | exc x => exact absurd er ret_ne_exc
  | ok q =>
    obtain ⟨r', env2⟩ := q
    rw [er] at g1
    obtain ⟨f2, r2⟩ := ret_ok f1 ru er
    exact g1 Z1 H1 σ u l1 f2 r2
/-- for -/
theorem s_loop {tgE iter : Expr} {body : List Stmt} {tg : List Nat} {it : It} {cb : Ss} (hp : PassesOwn (model X.prog X.w) X.A X.env X.xe) (hc : X.calm = true) (hi : PI X tgE iter (tI X.K call W it)) (hg : PG X tgE (gOf X.K tg)) (hb : PSs X body (tSs X.K call W cb))
    (hs : ∀ x, foldedSetIterable iter X.env x = pure x) : PS X (.For tgE iter body [] pos) (tS X.K call W (.loop tg it cb)) := PS_imp (ps_for hp hc hi hg hb hs) fun D σ H ⟨c, Z, env, hK, f, g⟩ => by
  simp only [evS] at g
  refine ⟨c, Z, env, hK, f, g.next (Le.refl Z) fun w env1 g1 Z1 H1 l1 f1 J y => ?_⟩
  dsimp only at g1
  generalize hc' : lockC c w σ env1 = c' at y
  have eK : c'.K = X.K := by rw [← hc', lockC_K, hK]
  have eG : c'.G = c.G := by rw [← hc', lockC_G]
  have f1l : Frame c' Z1 H1 σ (lock w env1) := by rw [← hc']; exact f1.lock
  have g1' : GoalS c' W Z1 (fun env2 => Nx c Z D (unlock w env1 env2)) (fun r env2 => Rt c Z D r (unlock w env1 env2)) (loopS w (fun t e => (bindT tg t e).bind fun e => evSs call cb e) w.items (lock w env1)) := by
    cases em : loopS w (fun t e => (bindT tg t e).bind fun e => evSs call cb e) w.items (lock w env1) with
    | bad => rw [em] at g1; exact g1
    | exc x =>
      rw [em] at g1
      have g1 : ExcOk c W Z x := g1
      intro cls d Z' H' l z gh rx
      exact g1 cls d Z' H' (l1.trans l) z (eG ▸ gh) (by rw [hK, ← eK]; exact rx)
    | ok q =>
      rw [em] at g1
      cases q with
      | nx env2 => exact g1
      | rt r env2 => exact g1
  clear g1 g f
  refine ⟨fun i m σ H => m = w.items.length - i ∧ i ≤ w.items.length ∧ ∃ Z' envi, Le Z1 Z' ∧ Frame c' Z' H σ envi ∧
    GoalS c' W Z' (fun env2 => Nx c Z D (unlock w env1 env2)) (fun r env2 => Rt c Z D r (unlock w env1 env2)) (loopS w (fun t e => (bindT tg t e).bind fun e => evSs call cb e) (w.items.drop i) envi), ⟨w.items.length, by simp, Nat.zero_le _, Z1, _, Le.refl Z1, f1l, by simpa using g1'⟩, ?_⟩
  rintro i m σi Hi ⟨rfl, hle, Z', envi, l', fi, gi⟩
  have nx_end : ∀ {Z2 H2 σ2 env2}, Le Z1 Z2 → Frame c' Z2 H2 σ2 env2 → Nx c Z D (unlock w env1 env2) → D.nx σ2 H2 := fun {Z2 H2 σ2 env2} l f h => by
    rw [← hc'] at f
    exact h Z2 H2 σ2 (l1.trans l) f.unlock.1
  by_cases hlt : i < w.items.length
  · have ed : w.items.drop i = w.items[i] :: w.items.drop (i + 1) := List.drop_eq_getElem_cons hlt
    rw [ed] at gi
    simp only [loopS] at gi
    split at gi
    case isFalse => exact gi.elim
    rename_i hst
    obtain ⟨y1, _⟩ := y i Z' Hi c'.G σi envi l' fi hst
    obtain ⟨go, yl⟩ := y1 w.items[i] (List.getElem?_eq_getElem hlt)
    refine .inr ⟨go, fun σ' H' => i + 1 ≤ w.items.length ∧ ∃ Z' envi, Le Z1 Z' ∧ Frame c' Z' H' σ' envi ∧
      GoalS c' W Z' (fun env2 => Nx c Z D (unlock w env1 env2)) (fun r env2 => Rt c Z D r (unlock w env1 env2)) (loopS w (fun t e => (bindT tg t e).bind fun e => evSs call cb e) (w.items.drop (i + 1)) envi), fun σ' H' n => ⟨w.items.length - (i + 1), by omega, rfl, n⟩, fun x H2 hy => ?_⟩
    obtain ⟨Z2, l2, f2, rx⟩ := yl x H2 hy
    have f2 : Frame c' Z2 H2 σi envi := f2
    cases eb : bindT tg w.items[i] envi with
    | bad => rw [eb] at gi; exact gi.elim
    | exc x =>
      exfalso
      have no : ∀ (is : List Nat) (ts : List T) (env : Ev), bindAll is ts env ≠ .exc x := by
        intro is
        induction is with
        | nil => intro ts env; cases ts <;> simp [bindAll]
        | cons i is ih =>
          intro ts env
          cases ts with
          | nil => simp [bindAll]
          | cons t ts =>
            simp only [bindAll]
            split
            · simp
            · exact ih _ _
      unfold bindT at eb
      split at eb
      · exact no _ _ _ eb
      · split at eb
        · exact no _ _ _ eb
        · cases eb
    | ok e1 =>
      rw [eb] at gi
      rw [← eK]
      refine bind_read f2 rx eb fun σ2 fb _ _ => ?_
      refine ⟨c', Z2, e1, rfl, fb, ?_⟩
      simp only [Res.bind_ok] at gi
      cases es : evSs call cb e1 with
      | bad => rw [es] at gi; exact gi
      | exc x =>
        rw [es] at gi
        have gi : ExcOk c' W Z' x := gi
        exact ExcOk.up l2 gi
      | ok q =>
        rw [es] at gi
        cases q with
        | nx env3 =>
          intro Z3 H3 σ3 l3 f3
          exact ⟨hlt, Z3, env3, l'.trans (l2.trans l3), f3, gi.imp (l2.trans l3) (fun _ h => h) fun _ _ h => h⟩
        | rt r env3 =>
          intro Z3 H3 σ3 v l3 f3 rv
          have gi : Rt c Z D r (unlock w env1 env3) := gi
          have f3' := f3
          rw [← hc'] at f3'
          obtain ⟨f4, uo⟩ := f3'.unlock
          refine gi Z3 H3 σ3 v (l1.trans (l'.trans (l2.trans l3))) f4 ?_
          cases r with
          | val t => rw [← hc'] at rv; have rv : Rep (lockC c w σ env1).K Z3 v t := rv; rw [lockC_K] at rv; exact rv
          | slot j => exact rv
          | own o =>
            obtain ⟨a, z1, z2, z3, z4, z5⟩ := rv
            exact ⟨a, z1, z2, by rw [← eG]; exact z3, by rw [hK, ← eK]; exact z4, fun j hj => z5 j (uo j hj)⟩
  · have ei : w.items.drop i = [] := List.drop_eq_nil_of_le (by omega)
    rw [ei] at gi
    simp only [loopS] at gi
    split at gi
    case isFalse => exact gi.elim
    rename_i hst
    obtain ⟨_, y2⟩ := y i Z' Hi c'.G σi envi l' fi hst
    exact .inl ⟨y2 (by omega), nx_end l' fi gi⟩
end
end Sf

/-! Sf, part 10: a text against the small language. -/
namespace Sf
open PySem L2

/-! ### small checks on a text -/
def bopIs (o : Operator) (op : Bop) : Bool := match bopOf o, op with
  | some .add, .add => true
  | some .sub, .sub => true
  | some .mul, .mul => true
  | some .fdiv, .fdiv => true
  | some .mod, .mod => true
  | some .pow, .pow => true
  | _, _ => false
theorem bopIs_of {o : Operator} {op : Bop} (h : bopIs o op = true) : bopOf o = some op := by
  unfold bopIs at h
  split at h <;> first | assumption | cases h
def copIs (o : CmpOp) (op : Cop) : Bool := match copOf o, op with
  | some .eq, .eq => true
  | some .ne, .ne => true
  | some .lt, .lt => true
  | some .le, .le => true
  | some .gt, .gt => true
  | some .ge, .ge => true
  | some .isin, .isin => true
  | some .notin, .notin => true
  | some .isN, .isN => true
  | some .notN, .notN => true
  | _, _ => false
theorem copIs_of {o : CmpOp} {op : Cop} (h : copIs o op = true) : copOf o = some op := by
  unfold copIs at h
  split at h <;> first | assumption | cases h
def noStar : Expr → Bool
  | .Starred _ _ => false
  | _ => true
theorem star_of {e : Expr} {es : List Expr} {env : Env} (h : noStar e = true) : starEach (e :: es) env = (false, eval e env) :: starEach es env := by
  cases e <;> first | rfl | cases h
theorem stars_of {pos : Pos} {env : Env} : ∀ {es : List Expr}, es.all noStar = true → (backTo pos (starEach es env)).any (·.1) = false
  | [], _ => rfl
  | e :: es, h => by
    simp only [List.all_cons, Bool.and_eq_true] at h
    rw [star_of h.1]
    show (false || (backTo pos (starEach es env)).any (·.1)) = false
    rw [stars_of h.2]
    rfl
def noSlice : Expr → Bool
  | .Slice _ _ _ _ => false
  | _ => true
theorem plain_of {e : Expr} (h : noSlice e = true) : PlainIx e := by
  intro o i
  cases e <;> first | rfl | cases h
def plainT : Expr → Bool
  | .Name _ _ => true
  | .Call _ _ _ _ => true
  | .Subscript _ _ _ => true
  | _ => false
theorem plainT_of {e : Expr} {env : Env} (h : plainT e = true) : ∀ whole, isTrue e env whole = (do let v ← whole; standAt e.pos; holding [v] (truthy v)) := by
  intro w
  cases e <;> first | rfl | cases h
theorem plainT_no {e : Expr} (h : plainT e = true) : ∀ op xs pos, e ≠ .BoolOp op xs pos := by
  intro op xs pos z
  subst z
  cases h
def noSet : Expr → Bool
  | .Set _ _ _ => false
  | _ => true
theorem fold_of {e : Expr} {env : Env} (h : noSet e = true) : ∀ x, foldedSetIterable e env x = pure x := by
  intro x
  cases e <;> first | rfl | cases h
def noComp : Expr → Bool
  | .ListComp _ _ _ _ => false
  | .SetComp _ _ _ _ => false
  | .DictComp _ _ _ _ _ => false
  | _ => true
theorem sw_plain {e : Expr} {t : Option Expr} {l : Nat} {env : Env} (h : noComp e = true) : swapsWith e t l env = pure false := by
  cases e <;> first | rfl | cases h
def swB (sc : Scope) (t : Str) (py : Pos) : Expr → Bool
  | .ListComp _ _ s pos => (match sc.names.lookup t with | some .local => true | _ => false) && (py.line == pos.line) && !(s.names.any fun (n, k) => n == t && (k == .local || k == .cell))
  | _ => false
def noSD : Expr → Bool
  | .SetComp _ _ _ _ => false
  | .DictComp _ _ _ _ _ => false
  | _ => true
theorem sw_name {e : Expr} {t : Str} {py : Pos} {l : Nat} {env : Env} (h : noSD e = true) (hk : env.scope.kind = .function) : swapsWith e (some (.Name t py)) l env = pure (swB env.scope t py e) := by
  cases e <;> first | rfl | (cases h; done) | skip
  rename_i elt gs s pos
  have hb : (env.blockKind == .function) = true := by unfold Env.blockKind; rw [hk]; rfl
  unfold swapsWith swB
  simp only [hb, Env.kindOf, Expr.pos, Bool.true_and]
  cases env.scope.names.lookup t with
  | none => rfl
  | some k => cases k <;> rfl
theorem sw_sub {e o i : Expr} {p : Pos} {l : Nat} {env : Env} : swapsWith e (some (.Subscript o i p)) l env = pure false := by
  cases e <;> rfl
theorem sw_tup {e : Expr} {xs : List Expr} {k : Nat} {p : Pos} {l : Nat} {env : Env} : swapsWith e (some (.Tuple xs k p)) l env = pure false := by
  cases e <;> rfl
def plainN (x : Str) : Bool := !(x == ("__debug__" : Str)) && !(x == ("__classdict__" : Str))
theorem plainN_of {x : Str} (h : plainN x = true) : (x == ("__debug__" : Str)) = false ∧ (x == ("__classdict__" : Str)) = false := by
  unfold plainN at h
  simpa using h
def visB (sc : Scope) (x : Str) : Bool := match sc.names.lookup x with
  | some .local => true
  | some .cell => true
  | some .free => true
  | _ => false
theorem vis_of {sc : Scope} {x : Str} (h : visB sc x = true) : Vis sc x := by
  unfold visB at h
  split at h
  · exact .inl (by assumption)
  · exact .inr (.inl (by assumption))
  · exact .inr (.inr (by assumption))
  · cases h
def glB (sc : Scope) (x : Str) : Bool := match sc.names.lookup x with
  | some .globalImplicit => true
  | _ => false
theorem gl_of {X : Cx} {x : Str} (h : glB X.env.scope x = true) : Gl X x := by
  unfold glB at h
  split at h
  · assumption
  · cases h
/-- a name that may be stored here -/
def locB (sc : Scope) (fx : Str → Bool) (x : Str) : Bool := match sc.names.lookup x with
  | some .local => true
  | some .cell => fx x
  | _ => false
theorem loc_of {X : Cx} {fx : Str → Bool} {x : Str} (hf : ∀ x, fx x = true → X.fn x = true) (h : locB X.env.scope fx x = true) : Loc X.env.scope x ∧ (X.fn x = true ∨ X.env.scope.names.lookup x = some .local) := by
  unfold locB at h
  split at h
  · rename_i e; exact ⟨.inl e, .inr e⟩
  · rename_i e; exact ⟨.inr e, .inl (hf x h)⟩
  · cases h
def isAt (N : List Str) (i : Nat) (x : Str) : Bool := match N[i]? with
  | some y => decide (y = x)
  | none => false
theorem at_of {N : List Str} {i : Nat} {x : Str} (h : isAt N i x = true) : N[i]? = some x := by
  unfold isAt at h
  split at h
  · rename_i y e
    rw [e, of_decide_eq_true h]
  · cases h

/-! ### what a module gives -/
structure Tb where
  fn : Str → Option (Nat × Nat)
  int : Str → Option Int
  str : Str → Option Str
  free : Str → Bool
structure Fit (tb : Tb) (call : Call) (k : Nat) (N : List Str) (X : Cx) (W : WX) (sc : Scope) (fx : Str → Bool) : Prop where
  calm : X.calm = true
  n : X.N = N
  nd : N.Nodup
  scp : X.env.scope = sc
  kind : sc.kind = .function
  un : X.A.units + 64 < cLine
  room : Room k X.A
  tk : Takes X W
  fx : ∀ x, fx x = true → X.fn x = true
  fn : ∀ w id np, tb.fn w = some (id, np) → ∃ fa fd ps, ps.length = np ∧ FnOk X.prog X.w X.K X.mg X.base (CX X.prog X.w) k fa fd ps (spF X.K call id np) ∧ X.mg w = some (.ref fa) ∧ PySem.W.keepIn X.K (.ref fa) = true ∧ Binds X.K fd ps []
  int : ∀ x i, tb.int x = some i → ∃ t, X.mg x = some (.int i t)
  str : ∀ x z, tb.str x = some z → ∃ t, X.mg x = some (.str z t)
  free : ∀ x, tb.free x = true → X.mg x = none

/-! ### targets -/
def chkNs (N : List Str) (sc : Scope) (fx : Str → Bool) : List Nat → List Expr → Bool
  | [], [] => true
  | i :: is, .Name x _ :: xs => isAt N i x && locB sc fx x && chkNs N sc fx is xs
  | _, _ => false
def chkG (N : List Str) (sc : Scope) (fx : Str → Bool) (tg : List Nat) : Expr → Bool
  | .Name x _ => match tg with
    | [i] => isAt N i x && locB sc fx x
    | _ => false
  | .Tuple xs _ _ => !(tg.length == 1) && chkNs N sc fx tg xs
  | _ => false
section
variable {tb : Tb} {call : Call} {k : Nat} {N : List Str} {X : Cx} {W : WX} {sc : Scope} {fx : Str → Bool}
theorem ns_ok (F : Fit tb call k N X W sc fx) : ∀ {is : List Nat} {xs : List Expr}, chkNs N sc fx is xs = true → PGs X xs (gNames is) ∧ (assignEach xs X.env).length = is.length ∧ (assignEach xs X.env).findIdx? (·.1) = none
  | [], [], _ => ⟨pgs_nil, rfl, rfl⟩
  | i :: is, e :: xs, h => by
    cases e <;> simp only [chkNs] at h <;> try (cases h; done)
    rename_i x p
    simp only [Bool.and_eq_true] at h
    obtain ⟨⟨h1, h2⟩, h3⟩ := h
    obtain ⟨g1, g2, g3⟩ := ns_ok F h3
    have hl := loc_of F.fx (by rw [F.scp]; exact h2)
    refine ⟨pgs_cons (pg_name (by rw [F.n]; exact F.nd) (by rw [F.n]; exact at_of h1) hl.1 hl.2) g1 rfl, ?_, ?_⟩
    · show (assignEach xs X.env).length + 1 = _
      rw [g2]
      rfl
    · show ((false, _) :: assignEach xs X.env).findIdx? (·.1) = none
      rw [List.findIdx?_cons]
      simp [g3]
  | [], _ :: _, h => by simp [chkNs] at h
  | _ :: _, [], h => by simp [chkNs] at h
theorem g_ok (F : Fit tb call k N X W sc fx) {tg : List Nat} {e : Expr} (h : chkG N sc fx tg e = true) : PG X e (gOf X.K tg) := by
  cases e <;> simp only [chkG] at h <;> try (cases h; done)
  · rename_i x p
    split at h
    · rename_i i
      simp only [Bool.and_eq_true] at h
      have hl := loc_of F.fx (by rw [F.scp]; exact h.2)
      exact pg_name (by rw [F.n]; exact F.nd) (by rw [F.n]; exact at_of h.1) hl.1 hl.2
    · cases h
  · rename_i xs kk p
    simp only [Bool.and_eq_true, Bool.not_eq_true', beq_eq_false_iff_ne] at h
    obtain ⟨g1, g2, g3⟩ := ns_ok F h.2
    have e : gOf X.K tg = gTup X.K tg.length (gNames tg) := by
      cases tg with
      | nil => rfl
      | cons i r =>
        cases r with
        | nil => exact absurd rfl h.1
        | cons j r => rfl
    rw [e]
    exact pg_tup F.calm g1 g2 g3
/-- inside a comprehension's block -/
def relF (s : Scope) : Str → Bool := fun x => s.names.lookup x == some .cell
theorem Fit.blk (F : Fit tb call k N X W sc fx) {s : Scope} (hs : s.kind = .function) (st : Shared) (H : Hp) (C : Addr) (cl : List (Str × Addr)) (fp : List Addr) : Fit tb call k N (X.blk st H s (compEnvC s cl C X.env) fp) WF (relS s sc) (relF s) where
  calm := F.calm
  n := F.n
  nd := F.nd
  scp := by rw [← F.scp]; rfl
  kind := hs
  un := F.un
  room := F.room
  tk := fun u s' ⟨a, B, sI, pins, σ, H, cls, d, e, I, nb, up, sky, na, os, ag, w⟩ => w.elim
  fx := fun x h => h
  fn := F.fn
  int := F.int
  str := F.str
  free := F.free
end

/-! ### expressions -/
variable (tb : Tb) (N : List Str)
def tail2 (op : PySem.BoolOp) (y : Expr) (rest : List Expr) (pos : Pos) : Expr := match rest with
  | [] => y
  | _ :: _ => .BoolOp op (y :: rest) pos
def ownOf (N : List Str) (tg : List Nat) : List (Str × Nat) := tg.map fun i => (N.getD i "", i)
mutual
/-- t: as a test -/
def chkE (t : Bool) (sc : Scope) (fx : Str → Bool) : E → Expr → Bool
  | .nm i, e => match e with
    | .Name x _ => isAt N i x && visB sc x && plainN x
    | _ => false
  | .lit u, e => !t && match e with
    | .Constant c _ _ => match c, u with
      | .int i, .int j => decide (i = j)
      | .str x, .str y => decide (x = y)
      | .bool x, .bl y => decide (x = y)
      | .none, .non => true
      | _, _ => false
    | .Name x _ => glB sc x && plainN x && match u with
      | .int i => decide (tb.int x = some i)
      | .str z => decide (tb.str x = some z)
      | _ => false
    | _ => false
  | .tup es, e => !t && match e with
    | .Tuple xs _ _ => chkEs sc fx es xs
    | _ => false
  | .lst es, e => !t && match e with
    | .List xs _ => chkEs sc fx es xs
    | _ => false
  | .bin op a b, e => !t && match e with
    | .BinOp x o y _ => bopIs o op && chkE false sc fx a x && chkE false sc fx b y
    | _ => false
  | .neg a, e => !t && match e with
    | .UnaryOp .USub x _ => chkE false sc fx a x
    | _ => false
  | .nots a, e => match e with
    | .UnaryOp .Not x _ => chkE t sc fx a x
    | _ => false
  | .and a b, e => match e with
    | .BoolOp .And (x :: y :: rest) pos => chkE t sc fx a x && chkE t sc fx b (tail2 .And y rest pos)
    | _ => false
  | .or a b, e => match e with
    | .BoolOp .Or (x :: y :: rest) pos => chkE t sc fx a x && chkE t sc fx b (tail2 .Or y rest pos)
    | _ => false
  | .cmp op a b, e => match e with
    | .Compare x [o] [y] _ => copIs o op && chkE false sc fx a x && chkE false sc fx b y && !behindInMarks o y
    | _ => false
  | .chain o1 o2 a b c, e => match e with
    | .Compare x [p1, p2] [y, z] _ => copIs p1 o1 && copIs p2 o2 && chkE false sc fx a x && chkE false sc fx b y && chkE false sc fx c z && !lastMarks [p1, p2] [y, z]
    | _ => false
  | .ife c a b, e => !t && match e with
    | .IfExp z x y _ => chkE true sc fx c z && chkE false sc fx a x && chkE false sc fx b y
    | _ => false
  | .idx a b, e => match e with
    | .Subscript x y _ => chkE false sc fx a x && chkE false sc fx b y && noSlice y
    | _ => false
  | .slc a lo hi, e => !t && match e with
    | .Subscript x (.Slice l h none _) _ => chkE false sc fx a x && chkO sc fx lo l && chkO sc fx hi h
    | _ => false
  | .call f as, e => match e with
    | .Call (.Name w _) xs [] _ => glB sc w && plainN w && decide (tb.fn w = some (f, asLen as)) && chkAs sc fx as xs && xs.all noStar && decide (ioS as).Nodup
    | _ => false
  | .bi b a, e => match e with
    | .Call (.Name w _) [x] [] _ => (match b with | .sset => false | _ => true) && decide (w = biN b) && glB sc w && tb.free w && chkE false sc fx a x && noStar x
    | _ => false
  | .max a b, e => !t && match e with
    | .Call (.Name w _) [x, y] [] _ => decide (w = "max") && glB sc w && tb.free w && chkE false sc fx a x && chkE false sc fx b y && noStar x && noStar y
    | _ => false
  | .min a b, e => !t && match e with
    | .Call (.Name w _) [x, y] [] _ => decide (w = "min") && glB sc w && tb.free w && chkE false sc fx a x && chkE false sc fx b y && noStar x && noStar y
    | _ => false
  | .isin a ty, e => match e with
    | .Call (.Name w _) [x, .Name z _] [] _ => decide (w = "isinstance") && glB sc w && tb.free w && decide (z = tyN ty) && glB sc z && tb.free z && chkE false sc fx a x && noStar x
    | _ => false
  | .getd i k d, e => !t && match e with
    | .Call (.Attribute (.Name x _) m apos) [k', d'] [] pos => decide (m = "get") && isAt N i x && visB sc x && plainN x && chkE false sc fx k k' && chkE false sc fx d d' && noStar k' && noStar d' && (apos.endLine == pos.line)
    | _ => false
  | .dsub i k, e => !t && match e with
    | .Subscript (.Name x _) y _ => isAt N i x && visB sc x && plainN x && chkE false sc fx k y && noSlice y
    | _ => false
  | .comp elt tg it cond, e => !t && match e with
    | .ListComp e' [⟨tgE, iter, ifs, a⟩] s _ => decide (a = 0) && chkI sc fx it iter && noSet iter && blkC N sc s (ownOf N tg) && chkG N (relS s sc) (relF s) tg tgE && chkC (relS s sc) (relF s) cond ifs && chkE false (relS s sc) (relF s) elt e'
    | _ => false
  | .dnil, e => !t && match e with
    | .Dict [] [] _ => true
    | _ => false
  | .dlit k v, e => !t && match e with
    | .Dict [some k'] [v'] _ => chkE false sc fx k k' && chkE false sc fx v v'
    | _ => false
  | .dcopy i, e => !t && match e with
    | .Call (.Name w _) [.Name x _] [] _ => decide (w = "dict") && glB sc w && tb.free w && isAt N i x && visB sc x && plainN x
    | _ => false
  | .deq neg i j, e => match e with
    | .Compare (.Name x _) [o] [.Name y _] _ => decide (o = deqOp neg) && isAt N i x && visB sc x && plainN x && isAt N j y && visB sc y && plainN y
    | _ => false
  | .index _ _, _ => false
def chkEs (sc : Scope) (fx : Str → Bool) : Es → List Expr → Bool
  | .nil, xs => xs.isEmpty
  | .cons c cs, xs => match xs with
    | x :: xs => chkE false sc fx c x && noStar x && chkEs sc fx cs xs
    | [] => false
def chkAs (sc : Scope) (fx : Str → Bool) : As → List Expr → Bool
  | .nil, xs => xs.isEmpty
  | .val c cs, xs => match xs with
    | x :: xs => chkE false sc fx c x && noStar x && chkAs sc fx cs xs
    | [] => false
  | .io i cs, xs => match xs with
    | .Name x _ :: xs => isAt N i x && visB sc x && plainN x && chkAs sc fx cs xs
    | _ => false
def chkO (sc : Scope) (fx : Str → Bool) : Oe → Option Expr → Bool
  | .none, x => x.isNone
  | .some c, x => match x with
    | some x => chkE false sc fx c x
    | none => false
def chkC (sc : Scope) (fx : Str → Bool) : Oe → List Expr → Bool
  | .none, x => x.isEmpty
  | .some c, x => match x with
    | [x] => chkE true sc fx c x
    | _ => false
def chkI (sc : Scope) (fx : Str → Bool) : It → Expr → Bool
  | .seq c, e => chkE false sc fx c e
  | .rng c, e => match e with
    | .Call (.Name w _) [x] [] _ => decide (w = "range") && glB sc w && tb.free w && chkE false sc fx c x && noStar x
    | _ => false
  | .rng2 c d, e => match e with
    | .Call (.Name w _) [x, y] [] _ => decide (w = "range") && glB sc w && tb.free w && chkE false sc fx c x && noStar x && chkE false sc fx d y && noStar y
    | _ => false
  | .enum _, _ => false
  | .zip _ _, _ => false
end

/-! ### what the check tells -/
section
variable {tb : Tb} {call : Call} {k : Nat} {N : List Str} {X : Cx} {W : WX} {sc : Scope} {fx : Str → Bool}
def OkE (X : Cx) (call : Call) (W : WX) (t : Bool) (c : E) (e : Expr) : Prop := match t with
  | false => PE X e (tE X.K call W c)
  | true => PT X e (tT X.K call W c) ∧ ∀ op xs pos, e = .BoolOp op xs pos → PW X e (tT X.K call W c)
theorem OkE.val {t : Bool} {c : E} {e : Expr} (h : PE X e (tE X.K call W c)) (hp : plainT e = true)
    (hv : ∀ (d : Cn) (Z : Hp) (env : Ev) (P : Bool → Ev → Prop), Goal d W Z P (evT call c env) → Goal d W Z (fun r env' => ∃ b, r = .val (.bl b) ∧ P b env') (evE call c env)) : OkE X call W t c e := by
  cases t with
  | false => exact h
  | true => exact ⟨st_val h (plainT_of hp) hv, fun op xs pos z => absurd z (plainT_no hp op xs pos)⟩
theorem OkE.test {c : E} {e : Expr} (h : PT X e (tT X.K call W c)) (hp : ∀ op xs pos, e ≠ .BoolOp op xs pos) : OkE X call W true c e := ⟨h, fun op xs pos z => absurd z (hp op xs pos)⟩
theorem var_ok (F : Fit tb call k N X W sc fx) {i : Nat} {x : Str} {p : Pos} (h1 : isAt N i x = true) (h2 : visB sc x = true) (h3 : plainN x = true) : PE X (.Name x p) (tVar i) :=
  pe_slot (by rw [F.n]; exact at_of h1) (by rw [F.scp]; exact vis_of h2) (plainN_of h3).1 (plainN_of h3).2
theorem nm_ok (F : Fit tb call k N X W sc fx) {i : Nat} {x : Str} {p : Pos} (h1 : isAt N i x = true) (h2 : visB sc x = true) (h3 : plainN x = true) : PE X (.Name x p) (tE X.K call W (.nm i)) :=
  se_nm (by rw [F.n]; exact at_of h1) (by rw [F.scp]; exact vis_of h2) (plainN_of h3).1 (plainN_of h3).2
theorem Fit.gl (F : Fit tb call k N X W sc fx) {x : Str} (h : glB sc x = true) : Gl X x := gl_of (by rw [F.scp]; exact h)
theorem tail_or {op : PySem.BoolOp} {y : Expr} {rest : List Expr} {pos : Pos} : (rest = [] ∧ tail2 op y rest pos = y) ∨ (rest ≠ [] ∧ tail2 op y rest pos = .BoolOp op (y :: rest) pos) := by
  cases rest with
  | nil => exact .inl ⟨rfl, rfl⟩
  | cons z r => exact .inr ⟨by simp, rfl⟩
theorem own_map (N : List Str) (tg : List Nat) : (ownOf N tg).map (·.2) = tg := by
  unfold ownOf
  rw [List.map_map]
  induction tg with
  | nil => rfl
  | cons i r ih => rw [List.map_cons, ih]; rfl
mutual
theorem chkE_ok : ∀ (c : E) {t : Bool} {X : Cx} {W : WX} {sc : Scope} {fx : Str → Bool} {e : Expr}, Fit tb call k N X W sc fx → chkE tb N t sc fx c e = true → OkE X call W t c e
  | .nm i, t, X, W, sc, fx, e, F, h => by
    simp only [chkE] at h
    split at h
    case h_2 => cases h
    simp only [Bool.and_eq_true] at h
    exact .val (nm_ok F h.1.1 h.1.2 h.2) rfl tv_nm
  | .lit u, t, X, W, sc, fx, e, F, h => by
    cases t with
    | true => simp [chkE] at h
    | false =>
      simp only [chkE, Bool.not_false, Bool.true_and] at h
      split at h
      · split at h
        · rw [of_decide_eq_true h]; exact se_int
        · rw [of_decide_eq_true h]; exact se_str
        · rw [of_decide_eq_true h]; exact se_bool
        · exact se_none
        · cases h
      · simp only [Bool.and_eq_true] at h
        obtain ⟨⟨h1, h2⟩, h3⟩ := h
        split at h3
        · obtain ⟨tk, hm⟩ := F.int _ _ (of_decide_eq_true h3)
          exact se_gint (F.gl h1) hm (plainN_of h2).1
        · obtain ⟨tk, hm⟩ := F.str _ _ (of_decide_eq_true h3)
          exact se_gstr (F.gl h1) hm (plainN_of h2).1
        · cases h3
      · cases h
  | .tup es, t, X, W, sc, fx, e, F, h => by
    cases t with
    | true => simp [chkE] at h
    | false =>
      simp only [chkE, Bool.not_false, Bool.true_and] at h
      split at h
      · exact se_tup (chkEs_ok es F h)
      · cases h
  | .lst es, t, X, W, sc, fx, e, F, h => by
    cases t with
    | true => simp [chkE] at h
    | false =>
      simp only [chkE, Bool.not_false, Bool.true_and] at h
      split at h
      · exact se_lst (chkEs_ok es F h)
      · cases h
  | .bin op a b, t, X, W, sc, fx, e, F, h => by
    cases t with
    | true => simp [chkE] at h
    | false =>
      simp only [chkE, Bool.not_false, Bool.true_and] at h
      split at h
      · simp only [Bool.and_eq_true] at h
        exact se_bin (bopIs_of h.1.1) (chkE_ok a F h.1.2) (chkE_ok b F h.2)
      · cases h
  | .neg a, t, X, W, sc, fx, e, F, h => by
    cases t with
    | true => simp [chkE] at h
    | false =>
      simp only [chkE, Bool.not_false, Bool.true_and] at h
      split at h
      · exact se_neg (chkE_ok a F h)
      · cases h
  | .nots a, t, X, W, sc, fx, e, F, h => by
    simp only [chkE] at h
    split at h
    case h_2 => cases h
    have q := chkE_ok a F h
    cases t with
    | false => exact se_nots q
    | true => exact .test (st_not q.1) fun _ _ _ z => nomatch z
  | .and a b, t, X, W, sc, fx, e, F, h => by
    simp only [chkE] at h
    split at h
    case h_2 => cases h
    rename_i x y rest pos
    simp only [Bool.and_eq_true] at h
    have qa := chkE_ok a F h.1
    have qb := chkE_ok b F h.2
    rcases tail_or (op := .And) (y := y) (rest := rest) (pos := pos) with ⟨e1, e2⟩ | ⟨e1, e2⟩
    · rw [e2] at qb
      subst e1
      cases t with
      | false => exact se_and qa (pe_one qb)
      | true =>
        have pw := sw_and (pos := pos) qa.1 (sw_and1 qb.1)
        exact ⟨pw.pt, fun _ _ _ _ => pw⟩
    · rw [e2] at qb
      cases t with
      | false => exact se_and qa qb
      | true =>
        have pw := sw_and qa.1 (qb.2 _ _ _ rfl)
        exact ⟨pw.pt, fun _ _ _ _ => pw⟩
  | .or a b, t, X, W, sc, fx, e, F, h => by
    simp only [chkE] at h
    split at h
    case h_2 => cases h
    rename_i x y rest pos
    simp only [Bool.and_eq_true] at h
    have qa := chkE_ok a F h.1
    have qb := chkE_ok b F h.2
    rcases tail_or (op := .Or) (y := y) (rest := rest) (pos := pos) with ⟨e1, e2⟩ | ⟨e1, e2⟩
    · rw [e2] at qb
      subst e1
      cases t with
      | false => exact se_or qa (pe_one qb)
      | true =>
        have pw := sw_or (pos := pos) qa.1 (sw_or1 qb.1)
        exact ⟨pw.pt, fun _ _ _ _ => pw⟩
    · rw [e2] at qb
      cases t with
      | false => exact se_or qa qb
      | true =>
        have pw := sw_or qa.1 (qb.2 _ _ _ rfl)
        exact ⟨pw.pt, fun _ _ _ _ => pw⟩
  | .cmp op a b, t, X, W, sc, fx, e, F, h => by
    simp only [chkE] at h
    split at h
    case h_2 => cases h
    simp only [Bool.and_eq_true, Bool.not_eq_true'] at h
    obtain ⟨⟨⟨h1, h2⟩, h3⟩, h4⟩ := h
    cases t with
    | false => exact se_cmp F.un (copIs_of h1) (chkE_ok a F h2) (chkE_ok b F h3) h4
    | true => exact .test (st_cmp F.un (copIs_of h1) (chkE_ok a F h2) (chkE_ok b F h3) h4) fun _ _ _ z => nomatch z
  | .chain o1 o2 a b c, t, X, W, sc, fx, e, F, h => by
    simp only [chkE] at h
    split at h
    case h_2 => cases h
    simp only [Bool.and_eq_true, Bool.not_eq_true'] at h
    obtain ⟨⟨⟨⟨⟨h1, h2⟩, h3⟩, h4⟩, h5⟩, h6⟩ := h
    cases t with
    | false => exact se_chain F.un (copIs_of h1) (copIs_of h2) (chkE_ok a F h3) (chkE_ok b F h4) (chkE_ok c F h5) h6
    | true => exact .test (st_chain F.un (copIs_of h1) (copIs_of h2) (chkE_ok a F h3) (chkE_ok b F h4) (chkE_ok c F h5) h6) fun _ _ _ z => nomatch z
  | .ife c a b, t, X, W, sc, fx, e, F, h => by
    cases t with
    | true => simp [chkE] at h
    | false =>
      simp only [chkE, Bool.not_false, Bool.true_and] at h
      split at h
      · simp only [Bool.and_eq_true] at h
        exact se_ife (chkE_ok c F h.1.1).1 (chkE_ok a F h.1.2) (chkE_ok b F h.2)
      · cases h
  | .idx a b, t, X, W, sc, fx, e, F, h => by
    simp only [chkE] at h
    split at h
    case h_2 => cases h
    simp only [Bool.and_eq_true] at h
    exact .val (se_idx (chkE_ok a F h.1.1) (chkE_ok b F h.1.2) (plain_of h.2)) rfl tv_idx
  | .slc a lo hi, t, X, W, sc, fx, e, F, h => by
    cases t with
    | true => simp [chkE] at h
    | false =>
      simp only [chkE, Bool.not_false, Bool.true_and] at h
      split at h
      · simp only [Bool.and_eq_true] at h
        exact se_slc (chkE_ok a F h.1.1) (chkO_ok lo F h.1.2) (chkO_ok hi F h.2)
      · cases h
  | .call f as, t, X, W, sc, fx, e, F, h => by
    simp only [chkE] at h
    split at h
    case h_2 => cases h
    simp only [Bool.and_eq_true, decide_eq_true_eq] at h
    obtain ⟨⟨⟨⟨⟨h1, h2⟩, h3⟩, h4⟩, h5⟩, h6⟩ := h
    obtain ⟨fa, fd, ps, e1, e2, e3, e4, e5⟩ := F.fn _ _ _ h3
    have pa := chkAs_ok as F h4
    refine .val ?_ rfl tv_call
    rename_i w p xs pos
    cases xs with
    | nil =>
      cases as with
      | val _ _ => simp [chkAs] at h4
      | io _ _ => simp [chkAs] at h4
      | nil =>
        have ep : ps = [] := List.eq_nil_of_length_eq_zero e1
        subst ep
        exact se_call0 F.tk e2 F.room (F.gl h1) e3 e4 e5 (plainN_of h2).1
    | cons x xs =>
      rw [← e1] at e2
      simp only [List.all_cons, Bool.and_eq_true] at h5
      exact se_call F.tk e2 F.room (F.gl h1) e3 e4 e5 pa e1.symm h6 (plainN_of h2).1 (star_of h5.1) (stars_of h5.2)
  | .bi b a, t, X, W, sc, fx, e, F, h => by
    simp only [chkE] at h
    split at h
    case h_2 => cases h
    simp only [Bool.and_eq_true, decide_eq_true_eq] at h
    obtain ⟨⟨⟨⟨⟨h1, h2⟩, h3⟩, h4⟩, h5⟩, h6⟩ := h
    subst h2
    exact .val (se_bi F.calm (by intro z; subst z; simp at h1) (F.gl h3) (F.free _ h4) (chkE_ok a F h5) (star_of h6)) rfl tv_bi
  | .max a b, t, X, W, sc, fx, e, F, h => by
    cases t with
    | true => simp [chkE] at h
    | false =>
      simp only [chkE, Bool.not_false, Bool.true_and] at h
      split at h
      · simp only [Bool.and_eq_true, decide_eq_true_eq] at h
        obtain ⟨⟨⟨⟨⟨⟨h1, h2⟩, h3⟩, h4⟩, h5⟩, h6⟩, h7⟩ := h
        subst h1
        exact se_max F.calm (F.gl h2) (F.free _ h3) (chkE_ok a F h4) (chkE_ok b F h5) (star_of h6) (star_of h7)
      · cases h
  | .min a b, t, X, W, sc, fx, e, F, h => by
    cases t with
    | true => simp [chkE] at h
    | false =>
      simp only [chkE, Bool.not_false, Bool.true_and] at h
      split at h
      · simp only [Bool.and_eq_true, decide_eq_true_eq] at h
        obtain ⟨⟨⟨⟨⟨⟨h1, h2⟩, h3⟩, h4⟩, h5⟩, h6⟩, h7⟩ := h
        subst h1
        exact se_min F.calm (F.gl h2) (F.free _ h3) (chkE_ok a F h4) (chkE_ok b F h5) (star_of h6) (star_of h7)
      · cases h
  | .isin a ty, t, X, W, sc, fx, e, F, h => by
    simp only [chkE] at h
    split at h
    case h_2 => cases h
    simp only [Bool.and_eq_true, decide_eq_true_eq] at h
    obtain ⟨⟨⟨⟨⟨⟨⟨h1, h2⟩, h3⟩, h4⟩, h5⟩, h6⟩, h7⟩, h8⟩ := h
    subst h1 h4
    exact .val (se_isin (F.gl h2) (F.free _ h3) (F.gl h5) (F.free _ h6) (chkE_ok a F h7) (star_of h8)) rfl tv_isin
  | .getd i k d, t, X, W, sc, fx, e, F, h => by
    cases t with
    | true => simp [chkE] at h
    | false =>
      simp only [chkE, Bool.not_false, Bool.true_and] at h
      split at h
      · simp only [Bool.and_eq_true, decide_eq_true_eq] at h
        obtain ⟨⟨⟨⟨⟨⟨⟨⟨h1, h2⟩, h3⟩, h4⟩, h5⟩, h6⟩, h7⟩, h8⟩, h9⟩ := h
        subst h1
        refine se_getd F.un (var_ok F h2 h3 h4) (chkE_ok k F h5) (chkE_ok d F h6) ⟨rfl, ?_, h9, ?_⟩
        · rw [star_of h7, star_of h8]; rfl
        · rw [star_of h7, star_of h8]; rfl
      · cases h
  | .dsub i k, t, X, W, sc, fx, e, F, h => by
    cases t with
    | true => simp [chkE] at h
    | false =>
      simp only [chkE, Bool.not_false, Bool.true_and] at h
      split at h
      · simp only [Bool.and_eq_true, decide_eq_true_eq] at h
        obtain ⟨⟨⟨⟨h2, h3⟩, h4⟩, h5⟩, h6⟩ := h
        exact se_dsub F.un (var_ok F h2 h3 h4) (chkE_ok k F h5) (plain_of h6)
      · cases h
  | .comp elt tg it cond, t, X, W, sc, fx, e, F, h => by
    cases t with
    | true => simp [chkE] at h
    | false =>
      simp only [chkE, Bool.not_false, Bool.true_and] at h
      split at h
      · simp only [Bool.and_eq_true, decide_eq_true_eq] at h
        obtain ⟨⟨⟨⟨⟨⟨h0, h1⟩, h2⟩, h3⟩, h4⟩, h5⟩, h6⟩ := h
        subst h0
        have ok := blkOk_by h3
        have FB := F.blk ok.kind
        exact se_comp F.calm (by rw [F.n]; exact F.nd) (chkI_ok it F h1) (by rw [F.n, F.scp]; exact ok) (own_map N tg) (fun s H C cl fp => g_ok (FB s H C cl fp) h4) (fun s H C cl fp => chkC_ok cond (FB s H C cl fp) h5)
          (fun s H C cl fp => chkE_ok elt (FB s H C cl fp) h6) (fold_of h2)
      · cases h
  | .dnil, t, X, W, sc, fx, e, F, h => by
    cases t with
    | true => simp [chkE] at h
    | false =>
      simp only [chkE, Bool.not_false, Bool.true_and] at h
      split at h
      · exact se_dnil
      · cases h
  | .dlit a b, t, X, W, sc, fx, e, F, h => by
    cases t with
    | true => simp [chkE] at h
    | false =>
      simp only [chkE, Bool.not_false, Bool.true_and] at h
      split at h
      · simp only [Bool.and_eq_true] at h
        exact se_dlit (chkE_ok a F h.1) (chkE_ok b F h.2)
      · cases h
  | .dcopy i, t, X, W, sc, fx, e, F, h => by
    cases t with
    | true => simp [chkE] at h
    | false =>
      simp only [chkE, Bool.not_false, Bool.true_and] at h
      split at h
      · simp only [Bool.and_eq_true, decide_eq_true_eq] at h
        obtain ⟨⟨⟨⟨⟨h1, h2⟩, h3⟩, h4⟩, h5⟩, h6⟩ := h
        subst h1
        exact se_dcopy (F.gl h2) (F.free _ h3) (var_ok F h4 h5 h6)
      · cases h
  | .deq neg i j, t, X, W, sc, fx, e, F, h => by
    simp only [chkE] at h
    split at h
    case h_2 => cases h
    simp only [Bool.and_eq_true, decide_eq_true_eq] at h
    obtain ⟨⟨⟨⟨⟨⟨h1, h2⟩, h3⟩, h4⟩, h5⟩, h6⟩, h7⟩ := h
    subst h1
    cases t with
    | false => exact se_deq F.un (var_ok F h2 h3 h4) (var_ok F h5 h6 h7)
    | true => exact .test (st_deq F.un (var_ok F h2 h3 h4) (var_ok F h5 h6 h7)) fun _ _ _ z => nomatch z
  | .index _ _, t, X, W, sc, fx, e, F, h => by simp [chkE] at h
theorem chkEs_ok : ∀ (c : Es) {X : Cx} {W : WX} {sc : Scope} {fx : Str → Bool} {xs : List Expr}, Fit tb call k N X W sc fx → chkEs tb N sc fx c xs = true → PA X xs (tEs X.K call W c)
  | .nil, X, W, sc, fx, xs, F, h => by
    simp only [chkEs, List.isEmpty_iff] at h
    subst h
    exact ses_nil
  | .cons c cs, X, W, sc, fx, xs, F, h => by
    simp only [chkEs] at h
    split at h
    · simp only [Bool.and_eq_true] at h
      exact ses_cons (chkE_ok c F h.1.1) (chkEs_ok cs F h.2) (star_of h.1.2)
    · cases h
theorem chkAs_ok : ∀ (c : As) {X : Cx} {W : WX} {sc : Scope} {fx : Str → Bool} {xs : List Expr}, Fit tb call k N X W sc fx → chkAs tb N sc fx c xs = true → PA X xs (tAs X.K call W c)
  | .nil, X, W, sc, fx, xs, F, h => by
    simp only [chkAs, List.isEmpty_iff] at h
    subst h
    exact sas_nil
  | .val c cs, X, W, sc, fx, xs, F, h => by
    simp only [chkAs] at h
    split at h
    · simp only [Bool.and_eq_true] at h
      exact sas_val (chkE_ok c F h.1.1) (chkAs_ok cs F h.2) (star_of h.1.2)
    · cases h
  | .io i cs, X, W, sc, fx, xs, F, h => by
    simp only [chkAs] at h
    split at h
    · simp only [Bool.and_eq_true] at h
      exact sas_io (var_ok F h.1.1.1 h.1.1.2 h.1.2) (chkAs_ok cs F h.2)
    · cases h
theorem chkO_ok : ∀ (c : Oe) {X : Cx} {W : WX} {sc : Scope} {fx : Str → Bool} {x : Option Expr}, Fit tb call k N X W sc fx → chkO tb N sc fx c x = true → PO X x (tO X.K call W c)
  | .none, X, W, sc, fx, x, F, h => by
    simp only [chkO, Option.isNone_iff_eq_none] at h
    subst h
    exact so_none
  | .some c, X, W, sc, fx, x, F, h => by
    simp only [chkO] at h
    split at h
    · exact so_some (chkE_ok c F h)
    · cases h
theorem chkC_ok : ∀ (c : Oe) {X : Cx} {W : WX} {sc : Scope} {fx : Str → Bool} {x : List Expr}, Fit tb call k N X W sc fx → chkC tb N sc fx c x = true → PTs X x (tCo X.K call W c)
  | .none, X, W, sc, fx, x, F, h => by
    simp only [chkC, List.isEmpty_iff] at h
    subst h
    exact sco_none
  | .some c, X, W, sc, fx, x, F, h => by
    simp only [chkC] at h
    split at h
    · exact sco_some (chkE_ok c F h).1
    · cases h
theorem chkI_ok : ∀ (c : It) {X : Cx} {W : WX} {sc : Scope} {fx : Str → Bool} {e tg : Expr}, Fit tb call k N X W sc fx → chkI tb N sc fx c e = true → PI X tg e (tI X.K call W c)
  | .seq c, X, W, sc, fx, e, tg, F, h => by
    simp only [chkI] at h
    exact si_seq (chkE_ok c F h)
  | .rng c, X, W, sc, fx, e, tg, F, h => by
    simp only [chkI] at h
    split at h
    · simp only [Bool.and_eq_true, decide_eq_true_eq] at h
      obtain ⟨⟨⟨⟨h1, h2⟩, h3⟩, h4⟩, h5⟩ := h
      subst h1
      exact si_rng (F.gl h2) (F.free _ h3) (chkE_ok c F h4) (star_of h5)
    · cases h
  | .rng2 c d, X, W, sc, fx, e, tg, F, h => by
    simp only [chkI] at h
    split at h
    · simp only [Bool.and_eq_true, decide_eq_true_eq] at h
      obtain ⟨⟨⟨⟨⟨⟨h1, h2⟩, h3⟩, h4⟩, h5⟩, h6⟩, h7⟩ := h
      subst h1
      exact si_rng2 (F.gl h2) (F.free _ h3) (chkE_ok c F h4) (chkE_ok d F h6) (star_of h5) (star_of h7)
    · cases h
  | .enum _, X, W, sc, fx, e, tg, F, h => by simp [chkI] at h
  | .zip _ _, X, W, sc, fx, e, tg, F, h => by simp [chkI] at h
end
end
end Sf

/-! Sf, part 11: statements against the small language; defs. -/
namespace Sf
open PySem L2

section
variable (tb : Tb) (N : List Str) (sc : Scope)
def fxT : Str → Bool := fun _ => true
def noTup : Expr → Bool
  | .Tuple _ _ _ => false
  | _ => true
mutual
def chkS : S → Stmt → Bool
  | .set i ce, s => match s with
    | .Assign [.Name y py] e _ => isAt N i y && locB sc fxT y && chkE tb N false sc fxT ce e && noSD e
    | _ => false
  | .unp is ce, s => match s with
    | .Assign [.Tuple xs _ _] e _ => chkNs N sc fxT is xs && chkE tb N false sc fxT ce e && noTup e
    | _ => false
  | .sto i ck cv, s => match s with
    | .Assign [.Subscript (.Name x _) k' _] v' _ => isAt N i x && visB sc x && plainN x && chkE tb N false sc fxT ck k' && chkE tb N false sc fxT cv v'
    | _ => false
  | .aug i ce, s => match s with
    | .AugAssign (.Name y _) .Add e _ => isAt N i y && locB sc fxT y && chkE tb N false sc fxT ce e
    | _ => false
  | .app i ce, s => match s with
    | .Expr (.Call (.Attribute (.Name x _) m apos) [e] [] py) _ => decide (m = "append") && isAt N i x && visB sc x && plainN x && chkE tb N false sc fxT ce e && noStar e && (apos.endLine == py.line)
    | _ => false
  | .ext i ce, s => match s with
    | .Expr (.Call (.Attribute (.Name x _) m apos) [e] [] py) _ => decide (m = "extend") && isAt N i x && visB sc x && plainN x && chkE tb N false sc fxT ce e && noStar e && (apos.endLine == py.line)
    | _ => false
  | .ex ce, s => match s with
    | .Expr e _ => chkE tb N false sc fxT ce e && noComp e
    | _ => false
  | .ite ct a b, s => match s with
    | .If e x y _ => chkE tb N true sc fxT ct e && chkSs a x && chkSs b y
    | _ => false
  | .loop tg it b, s => match s with
    | .For tgE iter x [] _ => chkI tb N sc fxT it iter && noSet iter && chkG N sc fxT tg tgE && chkSs b x
    | _ => false
  | .ret ce, s => match s with
    | .Return (some e) _ => chkE tb N false sc fxT ce e
    | _ => false
  | .raise _, _ => false
  | .clash _ _, _ => false
  | .tryN _ _, _ => false
def chkSs : Ss → List Stmt → Bool
  | .nil, xs => xs.isEmpty
  | .cons c cs, xs => match xs with
    | x :: xs => chkS c x && chkSs cs xs
    | [] => false
end
end
theorem sws_tup {e : Expr} {xs : List Expr} {k : Nat} {p : Pos} {l : Nat} {env : Env} : swapsWithSole [.Tuple xs k p] e l env = pure false := sw_tup (e := e) (xs := xs) (k := k) (p := p) (l := l) (env := env)
theorem swp_tup {e : Expr} {xs : List Expr} {k : Nat} {p : Pos} {env : Env} (h : noTup e = true) : swappedStores [.Tuple xs k p] e env = pure none := by
  cases e <;> first | rfl | cases h
section
variable {tb : Tb} {call : Call} {k : Nat} {N : List Str} {X : Cx} {W : WX} {sc : Scope}
/-- a comprehension that a name takes on its own line -/
theorem comp_set (F : Fit tb call k N X W sc fxT) {elt : E} {tg : List Nat} {it : It} {cond : Oe} {e : Expr} {y : Str} {py pos : Pos} {i : Nat} (hi : isAt N i y = true) (h : chkE tb N false sc fxT (.comp elt tg it cond) e = true) (hs : swB sc y py e = true) :
    PS X (.Assign [.Name y py] e pos) (tAsg (tE X.K call W (.comp elt tg it cond)) (gName i)) := by
  simp only [chkE, Bool.not_false, Bool.true_and] at h
  split at h
  · simp only [Bool.and_eq_true, decide_eq_true_eq] at h
    obtain ⟨⟨⟨⟨⟨⟨h0, h1⟩, h2⟩, h3⟩, h4⟩, h5⟩, h6⟩ := h
    subst h0
    have ok := blkOk_by h3
    have FB := F.blk ok.kind
    have hyl : X.env.scope.names.lookup y = some .local := by
      rw [F.scp]
      simp only [swB, Bool.and_eq_true] at hs
      obtain ⟨⟨q, _⟩, _⟩ := hs
      split at q
      · assumption
      · cases q
    exact ss_comp F.calm (by rw [F.n]; exact F.nd) (by rw [F.n]; exact at_of hi) hyl (by rw [sw_name rfl (by rw [F.scp]; exact F.kind), F.scp, hs]) (chkI_ok it F h1) (by rw [F.n, F.scp]; exact ok) (own_map N tg) (fun s H C cl fp => g_ok (FB s H C cl fp) h4)
      (fun s H C cl fp => chkC_ok cond (FB s H C cl fp) h5) (fun s H C cl fp => chkE_ok elt (FB s H C cl fp) h6) (fold_of h2)
  · cases h
mutual
theorem chkS_ok (F : Fit tb call k N X W sc fxT) (hp : PassesOwn (model X.prog X.w) X.A X.env X.xe) : ∀ (c : S) {s : Stmt}, chkS tb N sc c s = true → PS X s (tS X.K call W c)
  | .set i ce, s, h => by
    simp only [chkS] at h
    split at h
    · rename_i y py e pos
      simp only [Bool.and_eq_true] at h
      obtain ⟨⟨⟨h1, h2⟩, h3⟩, h4⟩ := h
      have hl := loc_of F.fx (by rw [F.scp]; exact h2)
      cases q : swB sc y py e with
      | false => exact s_set (by rw [F.n]; exact F.nd) (by rw [F.n]; exact at_of h1) hl.1 (chkE_ok ce F h3) (by rw [sw_name h4 (by rw [F.scp]; exact F.kind), F.scp, q]) hl.2
      | true =>
        cases ce with
        | comp elt tg it cond => exact s_setC (comp_set F h1 h3 q)
        | _ =>
          exfalso
          cases e <;> simp only [swB] at q <;> try (cases q; done)
          simp [chkE] at h3
    · cases h
  | .unp is ce, s, h => by
    simp only [chkS] at h
    split at h
    · simp only [Bool.and_eq_true] at h
      obtain ⟨⟨h1, h2⟩, h3⟩ := h
      obtain ⟨g1, g2, g3⟩ := ns_ok F h1
      exact s_unp (chkE_ok ce F h2) (pg_tup F.calm g1 g2 g3) sws_tup (swp_tup h3) rfl
    · cases h
  | .sto i ck cv, s, h => by
    simp only [chkS] at h
    split at h
    · simp only [Bool.and_eq_true] at h
      obtain ⟨⟨⟨⟨h1, h2⟩, h3⟩, h4⟩, h5⟩ := h
      exact s_sto F.un (var_ok F h1 h2 h3) (chkE_ok ck F h4) (chkE_ok cv F h5) sw_sub
    · cases h
  | .aug i ce, s, h => by
    simp only [chkS] at h
    split at h
    · simp only [Bool.and_eq_true] at h
      have hl := loc_of F.fx (by rw [F.scp]; exact h.1.2)
      exact s_aug (by rw [F.n]; exact F.nd) (by rw [F.n]; exact at_of h.1.1) hl.1 (chkE_ok ce F h.2) hl.2
    · cases h
  | .app i ce, s, h => by
    simp only [chkS] at h
    split at h
    · simp only [Bool.and_eq_true, decide_eq_true_eq] at h
      obtain ⟨⟨⟨⟨⟨⟨h0, h1⟩, h2⟩, h3⟩, h4⟩, h5⟩, h6⟩ := h
      subst h0
      exact s_app (var_ok F h1 h2 h3) (chkE_ok ce F h4) (star_of h5) h6 (sw_plain rfl)
    · cases h
  | .ext i ce, s, h => by
    simp only [chkS] at h
    split at h
    · simp only [Bool.and_eq_true, decide_eq_true_eq] at h
      obtain ⟨⟨⟨⟨⟨⟨h0, h1⟩, h2⟩, h3⟩, h4⟩, h5⟩, h6⟩ := h
      subst h0
      exact s_ext (var_ok F h1 h2 h3) (chkE_ok ce F h4) (star_of h5) h6 (sw_plain rfl)
    · cases h
  | .ex ce, s, h => by
    simp only [chkS] at h
    split at h
    · simp only [Bool.and_eq_true] at h
      exact s_ex (chkE_ok ce F h.1) (sw_plain h.2)
    · cases h
  | .ite ct a b, s, h => by
    simp only [chkS] at h
    split at h
    · simp only [Bool.and_eq_true] at h
      exact s_ite (chkE_ok ct F h.1.1).1 (chkSs_ok F hp a h.1.2) (chkSs_ok F hp b h.2)
    · cases h
  | .loop tg it b, s, h => by
    simp only [chkS] at h
    split at h
    · simp only [Bool.and_eq_true] at h
      obtain ⟨⟨⟨h1, h2⟩, h3⟩, h4⟩ := h
      exact s_loop hp F.calm (chkI_ok it F h1) (g_ok F h3) (chkSs_ok F hp b h4) (fold_of h2)
    · cases h
  | .ret ce, s, h => by
    simp only [chkS] at h
    split at h
    · exact s_ret (chkE_ok ce F h)
    · cases h
  | .raise _, s, h => by simp [chkS] at h
  | .clash _ _, s, h => by simp [chkS] at h
  | .tryN _ _, s, h => by simp [chkS] at h
theorem chkSs_ok (F : Fit tb call k N X W sc fxT) (hp : PassesOwn (model X.prog X.w) X.A X.env X.xe) : ∀ (c : Ss) {s : List Stmt}, chkSs tb N sc c s = true → PSs X s (tSs X.K call W c)
  | .nil, s, h => by
    simp only [chkSs, List.isEmpty_iff] at h
    subst h
    exact ss_nil
  | .cons c cs, s, h => by
    simp only [chkSs] at h
    split at h
    · simp only [Bool.and_eq_true] at h
      exact ss_cons (chkS_ok F hp c h.1) (chkSs_ok F hp cs h.2)
    · cases h
end
end

/-! ### a def's entry and end -/
section
variable {K : Frag} {G Z H : Hp}
theorem init_get : ∀ {io : List Bool} {args : List Arg} {e0 : Ev}, initE io args = some e0 → e0.length = args.length ∧ io.length = args.length ∧ ∀ i a, args[i]? = some a → (∃ t, a = .val t ∧ get e0 i = .val t ∧ io[i]? = some false) ∨ ∃ o, a = .io o ∧ get e0 i = .bor o ∧ io[i]? = some true
  | [], [], e0, h => by
    simp only [initE, Option.some.injEq] at h
    subst h
    exact ⟨rfl, rfl, fun i a e => by simp at e⟩
  | false :: fs, .val t :: as, e0, h => by
    simp only [initE, Option.map_eq_some_iff] at h
    obtain ⟨e, h1, rfl⟩ := h
    obtain ⟨q1, q2, q3⟩ := init_get h1
    refine ⟨by rw [List.length_cons, List.length_cons, q1], by rw [List.length_cons, List.length_cons, q2], fun i a ea => ?_⟩
    cases i with
    | zero =>
      simp at ea
      subst ea
      exact .inl ⟨t, rfl, rfl, rfl⟩
    | succ i => simpa using q3 i a (by simpa using ea)
  | true :: fs, .io o :: as, e0, h => by
    simp only [initE, Option.map_eq_some_iff] at h
    obtain ⟨e, h1, rfl⟩ := h
    obtain ⟨q1, q2, q3⟩ := init_get h1
    refine ⟨by rw [List.length_cons, List.length_cons, q1], by rw [List.length_cons, List.length_cons, q2], fun i a ea => ?_⟩
    cases i with
    | zero =>
      simp at ea
      subst ea
      exact .inr ⟨o, rfl, rfl, rfl⟩
    | succ i => simpa using q3 i a (by simpa using ea)
  | [], _ :: _, e0, h => by simp [initE] at h
  | true :: _, [], e0, h => by simp [initE] at h
  | false :: _, [], e0, h => by simp [initE] at h
  | true :: _, .val _ :: _, e0, h => by simp [initE] at h
  | false :: _, .io _ :: _, e0, h => by simp [initE] at h
theorem get_app {e0 e1 : Ev} : ∀ {i : Nat}, (i < e0.length → get (e0 ++ e1) i = get e0 i) ∧ (e0.length ≤ i → get (e0 ++ e1) i = get e1 (i - e0.length)) := by
  intro i
  induction e0 generalizing i with
  | nil => exact ⟨fun h => absurd h (Nat.not_lt_zero _), fun _ => rfl⟩
  | cons s r ih =>
    cases i with
    | zero => exact ⟨fun _ => rfl, fun h => by simp at h⟩
    | succ i =>
      obtain ⟨h1, h2⟩ := ih (i := i)
      refine ⟨fun h => h1 (Nat.lt_of_succ_lt_succ h), fun h => ?_⟩
      have h' : r.length ≤ i := Nat.le_of_succ_le_succ h
      show get (r ++ e1) i = get e1 (i + 1 - (r.length + 1))
      rw [h2 h', Nat.add_sub_add_right]
theorem get_uns {n i : Nat} : get (List.replicate n Slot.un) i = .un := by
  induction n generalizing i with
  | zero => rfl
  | succ n ih =>
    cases i with
    | zero => rfl
    | succ i => exact ih
def boOf (vs : List V) : Nat → Option Addr := fun i => match vs[i]? with
  | some (.ref a) => some a
  | _ => none
theorem start_get {N : List Str} {vs : List V} {i : Nat} {v : V} (h : vs[i]? = some v) : (start N vs)[i]? = some (some v) := by
  unfold L2.start
  have hi : i < vs.length := (List.getElem?_eq_some_iff.mp h).1
  rw [List.getElem?_append_left (by simpa using hi), List.getElem?_map, h]
  rfl
theorem entry {N : List Str} {vs : List V} {args : List Arg} {io : List Bool} {e0 : Ev} {ns : Nat} (zh : Le Z H) (gh : Le G H) (zg : ∀ a o, G a = some o → Z a = none) (ha : ArgsOk K G Z H vs args) (hi : IoInj vs args) (he : initE io args = some e0) (hns : ns ≤ N.length) (hn : args.length ≤ ns) :
    Frame ⟨K, G, boOf vs⟩ Z H (start N vs) (e0 ++ List.replicate (ns - io.length) .un) := by
  obtain ⟨l1, l2, gt⟩ := init_get he
  have vl := ha.len
  have low : ∀ i a, args[i]? = some a → get (e0 ++ List.replicate (ns - io.length) .un) i = get e0 i := fun i a e => by
    have hi : i < args.length := (List.getElem?_eq_some_iff.mp e).1
    exact get_app.1 (by omega)
  have high : ∀ i, args[i]? = none → get (e0 ++ List.replicate (ns - io.length) .un) i = .un := fun i e => by
    have hi : args.length ≤ i := List.getElem?_eq_none_iff.mp e
    rw [get_app.2 (by omega)]
    exact get_uns
  have own : ∀ i a, ownS (get (e0 ++ List.replicate (ns - io.length) .un) i) → (start N vs)[i]? = some (some (V.ref a)) → ∃ o, args[i]? = some (.io o) ∧ vs[i]? = some (.ref a) := fun i a h1 h2 => by
    cases e : args[i]? with
    | none => rw [high i e] at h1; exact h1.elim
    | some x =>
      rw [low i x e] at h1
      obtain ⟨v, hv, hx⟩ := ha.get e
      rcases gt i x e with ⟨t, rfl, q, _⟩ | ⟨o, rfl, q, _⟩
      · rw [q] at h1; exact h1.elim
      · rw [start_get hv] at h2
        cases h2
        exact ⟨o, rfl, hv⟩
  refine ⟨zh, gh, zg, fun i => ?_, fun i j a h1 h2 e1 e2 => ?_, ?_⟩
  · cases e : args[i]? with
    | none => rw [high i e]; trivial
    | some x =>
      rw [low i x e]
      obtain ⟨v, hv, hx⟩ := ha.get e
      rcases gt i x e with ⟨t, rfl, q, _⟩ | ⟨o, rfl, q, _⟩
      · rw [q]
        exact ⟨v, start_get hv, hx⟩
      · rw [q]
        obtain ⟨a, rfl, h1, h2, h3⟩ := hx
        exact ⟨a, start_get hv, h1, h2, h3, by show boOf vs i = _; unfold boOf; rw [hv]⟩
  · obtain ⟨o1, a1, v1⟩ := own i a h1 e1
    obtain ⟨o2, a2, v2⟩ := own j a h2 e2
    exact hi i j a o1 o2 v1 v2 a1 a2
  · have e : (start N vs).length = vs.length + (N.length - vs.length) := by simp [L2.start]
    rw [List.length_append, List.length_replicate, e]
    omega
/-- the handed-in objects at the end -/
theorem outs_ok {vs : List V} {Z' H' : Hp} {σ' : St} {env' : Ev} (f : Frame ⟨K, G, boOf vs⟩ Z' H' σ' env') (l : Le Z Z') : ∀ {io : List Bool} {j : Nat} {us : List V} {args xs : List Arg}, ArgsOk K G Z H us args → (∀ i u, us[i]? = some u → vs[j + i]? = some u) → outs io j env' args = .ok xs →
    ArgsOk K G Z' H' us xs ∧ ∀ i o, xs[i]? = some (Arg.io o) → ∃ a, us[i]? = some (V.ref a) ∧ ownS (get env' (j + i)) ∧ σ'[j + i]? = some (some (.ref a))
  | [], j, [], [], xs, _, _, e => by
    simp only [outs, Res.ok.injEq] at e
    subst e
    exact ⟨trivial, fun i o e => by simp at e⟩
  | false :: fs, j, u :: us, .val t :: as, xs, h, hv, e => by
    simp only [outs] at e
    obtain ⟨ys, e1, e2⟩ := bind_ok_iff e
    simp only [Res.ok.injEq] at e2
    subst e2
    obtain ⟨q1, q2⟩ := outs_ok f l h.2 (fun i u hu => by
      have := hv (i + 1) u (by simpa using hu)
      rwa [show j + (i + 1) = j + 1 + i by omega] at this) e1
    refine ⟨⟨Rep.mono l h.1, q1⟩, fun i o ei => ?_⟩
    cases i with
    | zero => simp at ei
    | succ i =>
      obtain ⟨a, z1, z2, z3⟩ := q2 i o (by simpa using ei)
      refine ⟨a, by simpa using z1, ?_, ?_⟩
      · rw [show j + (i + 1) = j + 1 + i by omega]; exact z2
      · rw [show j + (i + 1) = j + 1 + i by omega]; exact z3
  | true :: fs, j, u :: us, .io o0 :: as, xs, h, hv, e => by
    simp only [outs] at e
    split at e
    case h_2 => cases e
    rename_i o1 eg
    obtain ⟨ys, e1, e2⟩ := bind_ok_iff e
    simp only [Res.ok.injEq] at e2
    subst e2
    obtain ⟨q1, q2⟩ := outs_ok f l h.2 (fun i u hu => by
      have := hv (i + 1) u (by simpa using hu)
      rwa [show j + (i + 1) = j + 1 + i by omega] at this) e1
    obtain ⟨a, s1, s2, s3, s4, s5⟩ := f.slot_at eg
    have hvj : vs[j]? = some u := hv 0 u rfl
    obtain ⟨b, rfl, _, _, _⟩ := h.1
    have s5 : boOf vs j = some a := s5
    unfold boOf at s5
    rw [hvj] at s5
    have eb : b = a := Option.some.inj s5
    subst eb
    refine ⟨⟨⟨b, rfl, s2, s3, s4⟩, q1⟩, fun i o ei => ?_⟩
    cases i with
    | zero => exact ⟨b, rfl, by rw [Nat.add_zero, eg]; trivial, by rw [Nat.add_zero]; exact s1⟩
    | succ i =>
      obtain ⟨a, z1, z2, z3⟩ := q2 i o (by simpa using ei)
      refine ⟨a, by simpa using z1, ?_, ?_⟩
      · rw [show j + (i + 1) = j + 1 + i by omega]; exact z2
      · rw [show j + (i + 1) = j + 1 + i by omega]; exact z3
  | [], _, _ :: _, _ :: _, _, _, _, e => by simp [outs] at e
  | true :: _, _, [], [], _, _, _, e => by simp [outs] at e
  | false :: _, _, [], [], _, _, _, e => by simp [outs] at e
  | true :: _, _, _ :: _, .val _ :: _, _, _, _, e => by simp [outs] at e
  | false :: _, _, _ :: _, .io _ :: _, _, _, _, e => by simp [outs] at e
  | _, _, [], _ :: _, _, h, _, _ => h.elim
  | _, _, _ :: _, [], _, h, _, _ => h.elim
end
theorem outs_exc {x : Exc} {env : Ev} : ∀ {io : List Bool} {j : Nat} {args : List Arg}, outs io j env args ≠ .exc x
  | [], j, [] => by simp [outs]
  | [], j, _ :: _ => by simp [outs]
  | false :: fs, j, [] => by simp [outs]
  | true :: fs, j, [] => by simp [outs]
  | false :: fs, j, .io _ :: as => by simp [outs]
  | true :: fs, j, .val _ :: as => by simp [outs]
  | false :: fs, j, .val t :: as => by
    intro h
    simp only [outs] at h
    cases e : outs fs (j + 1) env as with
    | ok a => rw [e] at h; cases h
    | exc y => rw [e] at h; cases h; exact outs_exc e
    | bad => rw [e] at h; cases h
  | true :: fs, j, .io o :: as => by
    intro h
    simp only [outs] at h
    split at h
    · cases e : outs fs (j + 1) env as with
      | ok a => rw [e] at h; cases h
      | exc y => rw [e] at h; cases h; exact outs_exc e
      | bad => rw [e] at h; cases h
    · cases h
section
variable {P : Program} {w : World} {K : Frag} {mg : Str → Option Value} {base : Heap} {F : Nat → Option Fn} {tb : Tb} {k : Nat}
/-- a body that fits keeps its promise -/
theorem body_ok {call : Call} {fn : Fn} {X : Cx} {N ps : List Str} {vs : List V} {args : List Arg} {G Z H : Hp} {Q : VK} {E : XK} {body : List Stmt} {sc : Scope}
    (fit : Fit tb call k N X (fun cls d _ H => E cls d H) sc fxT) (hp : PassesOwn (model X.prog X.w) X.A X.env X.xe) (hc : chkSs tb N sc fn.body body = true) (hio : fn.io.length = ps.length) (hns : ps.length ≤ fn.ns) (hns2 : fn.ns ≤ N.length) (hv : vs.length = ps.length)
    (zh : Le Z H) (gh : Le G H) (zg : ∀ a o, G a = some o → Z a = none) (ha : ArgsOk X.K G Z H vs args) (hi : IoInj vs args)
    (hr : match runFn call fn args with
      | .ok (r, args') => ∀ Z' H', Le Z Z' → Le Z' H' → Le G H' → (∀ a o, G a = some o → Z' a = none) → ArgsOk X.K G Z' H' vs args' → ∀ v, RetOk X.K G Z' H' vs args' v r → Q v H'
      | .exc x => ∀ cls d Z' H', Le Z Z' → Le Z' H' → Le G H' → RepX X.K Z' H' cls d x → E cls d H'
      | .bad => False) :
    PSs X body (tSs X.K call (fun cls d _ H => E cls d H) fn.body) ∧ tSs X.K call (fun cls d _ H => E cls d H) fn.body { nx := fun _ H' => Q .non H', rt := Q } (start N vs) H := by
  refine ⟨chkSs_ok fit hp fn.body hc, ?_⟩
  unfold runFn at hr
  cases he : initE fn.io args with
  | none => rw [he] at hr; exact hr.elim
  | some e0 =>
    rw [he] at hr
    have al : args.length = ps.length := by rw [← ha.len, hv]
    have fr := entry (N := N) zh gh zg ha hi he hns2 (by omega)
    refine ⟨⟨X.K, G, boOf vs⟩, Z, _, rfl, fr, ?_⟩
    dsimp only at hr
    cases es : evSs call fn.body (e0 ++ List.replicate (fn.ns - fn.io.length) .un) with
    | bad => rw [es] at hr; exact hr
    | exc x =>
      rw [es] at hr
      intro cls d Z' H' l z g rx σ
      exact hr cls d Z' H' l z g rx
    | ok q =>
      rw [es] at hr
      cases q with
      | nx env' =>
        intro Z' H' σ' l f
        simp only [Res.bind_ok] at hr
        cases eo : outs fn.io 0 env' args with
        | bad => rw [eo] at hr; exact hr.elim
        | exc x => exact absurd eo outs_exc
        | ok xs =>
          rw [eo] at hr
          obtain ⟨q1, _⟩ := outs_ok f l ha (fun i u h => by rw [Nat.zero_add]; exact h) eo
          exact hr Z' H' l f.zh f.gh f.zg q1 .non (by show Rep X.K Z' _ _; simp only [Rep])
      | rt r env' =>
        intro Z' H' σ' v l f rv
        simp only [Res.bind_ok] at hr
        have fin : ∀ (r : R), (∀ i, r ≠ .slot i) → RepR ⟨X.K, G, boOf vs⟩ Z' H' σ' env' v r → (match (outs fn.io 0 env' args).bind fun xs => Res.ok (r, xs) with
            | .ok (r, args') => ∀ Z' H', Le Z Z' → Le Z' H' → Le G H' → (∀ a o, G a = some o → Z' a = none) → ArgsOk X.K G Z' H' vs args' → ∀ v, RetOk X.K G Z' H' vs args' v r → Q v H'
            | .exc x => ∀ cls d Z' H', Le Z Z' → Le Z' H' → Le G H' → RepX X.K Z' H' cls d x → E cls d H'
            | .bad => False) → Q v H' := fun r nr rv hr => by
          cases eo : outs fn.io 0 env' args with
          | bad => rw [eo] at hr; exact hr.elim
          | exc x => exact absurd eo outs_exc
          | ok xs =>
            rw [eo] at hr
            obtain ⟨q1, q2⟩ := outs_ok f l ha (fun i u h => by rw [Nat.zero_add]; exact h) eo
            refine hr Z' H' l f.zh f.gh f.zg q1 v ?_
            cases r with
            | val t => exact rv
            | slot i => exact absurd rfl (nr i)
            | own o =>
              obtain ⟨a, e1, h1, h2, h3, h4⟩ := rv
              refine ⟨a, e1, h1, h2, h3, fun i o' ei hvi => ?_⟩
              obtain ⟨b, z1, z2, z3⟩ := q2 i o' ei
              rw [hvi] at z1
              cases z1
              exact h4 _ z2 z3
        cases r with
        | slot i => exact hr.elim
        | val t => exact fin (.val t) (fun i z => nomatch z) rv hr
        | own o => exact fin (.own o) (fun i z => nomatch z) rv hr
/-- what is known of a module at a level -/
def TbOk (P : Program) (w : World) (K : Frag) (mg : Str → Option Value) (base : Heap) (tb : Tb) (call : Call) (k : Nat) : Prop :=
  ∀ x id np, tb.fn x = some (id, np) → ∃ fa fd ps, ps.length = np ∧ FnOk P w K mg base (CX P w) k fa fd ps (spF K call id np) ∧ mg x = some (.ref fa) ∧ PySem.W.keepIn K (.ref fa) = true ∧ Binds K fd ps []
structure TbF (mg : Str → Option Value) (tb : Tb) : Prop where
  int : ∀ x i, tb.int x = some i → ∃ t, mg x = some (.int i t)
  str : ∀ x z, tb.str x = some z → ∃ t, mg x = some (.str z t)
  free : ∀ x, tb.free x = true → mg x = none
/-- THE RULE for a def -/
theorem def_ok {x qual : Str} {params : Arguments} {body : List Stmt} {sc : Scope} {fa : Addr} {fd : FuncData} {N ps : List Str} {fn : Fn} {id : Nat} (D : FunD K x qual params body sc [] [] fa fd) (S : FnScope N ps sc) (hF : F id = some fn) (hio : fn.io.length = ps.length) (hns : ps.length ≤ fn.ns) (hns2 : fn.ns ≤ N.length)
    (hc : chkSs tb N sc fn.body body = true) (ht : TbOk P w K mg base tb (callN F k) k) (hf : TbF mg tb) : FnOk P w K mg base (CX P w) (k + 1) fa fd ps (spF K (callN F (k + 1)) id ps.length) := by
  refine D.ok S (fun vs H Q E h => ?_) fun cdv A outer s H vs Q E hr h => ?_
  · obtain ⟨_, _, _, e, _⟩ := h
    exact e
  · obtain ⟨G, Z, args, hv, zh, gh, zg, ha, hi, hm⟩ := h
    have fit : Fit tb (callN F k) k N (cxOf (CX P w) P w K mg base N qual sc fa cdv A outer s H E) (fun cls d _ H => E cls d H) sc fxT := ⟨rfl, rfl, S.nd, rfl, S.kind, hr.units, hr, takes_of rfl rfl rfl rfl, fun _ _ => rfl, ht, hf.int, hf.str, hf.free⟩
    have e : callN F (k + 1) id args = runFn (callN F k) fn args := by
      show (match F id with
        | none => Res.bad
        | some fn => runFn (callN F k) fn args) = _
      rw [hF]
    rw [e] at hm
    exact ⟨_, body_ok fit (passes_of rfl) hc hio hns hns2 hv zh gh zg ha hi hm⟩
end
end Sf

/-! Sf, part 12: a module's defs, all levels. -/
namespace Sf
open PySem L2

structure Ent where
  w : Str
  id : Nat
  ps : List Str
  N : List Str
  fn : Fn
  params : Arguments
  body : List Stmt
  sc : Scope
def tbOf (tbl : List Ent) (gis : List (Str × Int)) (gss : List (Str × Str)) (free : List Str) : Tb where
  fn := fun x => (tbl.find? fun e => decide (e.w = x)).map fun e => (e.id, e.ps.length)
  int := fun x => gis.lookup x
  str := fun x => gss.lookup x
  free := fun x => free.contains x
def scB (N ps : List Str) (sc : Scope) : Bool := (match sc.kind with | .function => true | _ => false) && !sc.isCoroutine && !sc.isGenerator && decide N.Nodup && decide (N.take ps.length = ps) && (ps.all fun x => match sc.names.lookup x with
  | some .local => true
  | some .cell => true
  | _ => false) && sc.names.all fun y => match y.2 with
  | .free => false
  | _ => true
theorem sc_of {N ps : List Str} {sc : Scope} (h : scB N ps sc = true) : FnScope N ps sc := by
  unfold scB at h
  simp only [Bool.and_eq_true, Bool.not_eq_true', decide_eq_true_eq, List.all_eq_true] at h
  obtain ⟨⟨⟨⟨⟨⟨h1, h2⟩, h3⟩, h4⟩, h5⟩, h6⟩, h7⟩ := h
  refine ⟨?_, h2, h3, h4, h5, fun x hx => ?_, fun y hy e => ?_⟩
  · split at h1
    · assumption
    · cases h1
  · have q := h6 x hx
    split at q
    · exact .inl (by assumption)
    · exact .inr (by assumption)
    · cases q
  · have q := h7 y hy
    rw [e] at q
    cases q
def Ent.good (tb : Tb) (e : Ent) : Bool := scB e.N e.ps e.sc && decide (e.fn.io.length = e.ps.length) && decide (e.ps.length ≤ e.fn.ns) && decide (e.fn.ns ≤ e.N.length) && chkSs tb e.N e.sc e.fn.body e.body
def fnsOf (tbl : List Ent) : Nat → Option Fn := fun id => (tbl.find? fun e => e.id == id).map (·.fn)
theorem fns_at {tbl : List Ent} (nd : (tbl.map (·.id)).Nodup) {e : Ent} (h : e ∈ tbl) : fnsOf tbl e.id = some e.fn := by
  unfold fnsOf
  induction tbl with
  | nil => cases h
  | cons d r ih =>
    simp only [List.map_cons, List.nodup_cons] at nd
    rw [List.find?_cons]
    rcases List.mem_cons.mp h with q | q
    · subst q
      simp
    · have ne : (d.id == e.id) = false := by
        simp only [beq_eq_false_iff_ne]
        exact fun z => nd.1 (by rw [z]; exact List.mem_map.mpr ⟨e, q, rfl⟩)
      rw [ne]
      exact ih nd.2 q
section
variable {P : Program} {w : World} {K : Frag} {mg : Str → Option Value} {base : Heap} {tb : Tb} {tbl : List Ent}
def EntIs (K : Frag) (mg : Str → Option Value) (e : Ent) : Prop := ∃ fa fd, FunD K e.w e.w e.params e.body e.sc [] [] fa fd ∧ mg e.w = some (.ref fa) ∧ Binds K fd e.ps []
theorem find_mem {α : Type} {p : α → Bool} {l : List α} {a : α} (h : l.find? p = some a) : a ∈ l ∧ p a = true := ⟨List.mem_of_find?_eq_some h, List.find?_some h⟩
/-- every def keeps its promise at every level -/
theorem all_ok {gis : List (Str × Int)} {gss : List (Str × Str)} {free : List Str} (he : ∀ e ∈ tbl, EntIs K mg e) (nd : (tbl.map (·.id)).Nodup) (hg : tbl.all (Ent.good (tbOf tbl gis gss free)) = true) (hf : TbF mg (tbOf tbl gis gss free)) :
    ∀ k, TbOk P w K mg base (tbOf tbl gis gss free) (callN (fnsOf tbl) k) k
  | 0 => fun x id np h => by
    simp only [tbOf, Option.map_eq_some_iff] at h
    obtain ⟨e, h1, h2⟩ := h
    cases h2
    obtain ⟨m, q⟩ := find_mem h1
    have ex := of_decide_eq_true q
    subst ex
    obtain ⟨fa, fd, D, h3, h4⟩ := he e m
    have no : ∀ {vs H Q E}, ¬ spF K (callN (fnsOf tbl) 0) e.id e.ps.length vs H Q E := fun {vs H Q E} ⟨_, _, _, _, _, _, _, _, _, z⟩ => z
    exact ⟨fa, fd, e.ps, rfl, ⟨fun _ _ _ _ z => absurd z no, fun _ _ _ _ _ _ _ _ _ _ _ _ _ z => absurd z no⟩, h3, D.kp, h4⟩
  | k + 1 => fun x id np h => by
    have ih := all_ok he nd hg hf k
    simp only [tbOf, Option.map_eq_some_iff] at h
    obtain ⟨e, h1, h2⟩ := h
    cases h2
    obtain ⟨m, q⟩ := find_mem h1
    have ex := of_decide_eq_true q
    subst ex
    obtain ⟨fa, fd, D, h3, h4⟩ := he e m
    have g := List.all_eq_true.mp hg e m
    simp only [Ent.good, Bool.and_eq_true, decide_eq_true_eq] at g
    obtain ⟨⟨⟨⟨g1, g2⟩, g3⟩, g4⟩, g5⟩ := g
    exact ⟨fa, fd, e.ps, rfl, def_ok D (sc_of g1) (fns_at nd m) g2 g3 g4 g5 ih hf, h3, D.kp, h4⟩
end
end Sf

/-! Sf, part 13: plain facts of the evaluator. -/
namespace Sf
open PySem L2

@[simp] theorem str_inj (a b : String) : (Str.ofString a = Str.ofString b) = (a = b) := by
  rw [Str.ofString_eq_toList, Str.ofString_eq_toList]
  refine propext ⟨fun h => ?_, fun h => by rw [h]⟩
  have h1 : a.toList.map Char.toNat = b.toList.map Char.toNat := by
    have := congrArg (fun s : Str => s.cps.toList) h
    simpa using this
  have inj : ∀ {l m : List Char}, l.map Char.toNat = m.map Char.toNat → l = m := by
    intro l
    induction l with
    | nil => intro m h; cases m with
      | nil => rfl
      | cons _ _ => simp at h
    | cons c r ih =>
      intro m h
      cases m with
      | nil => simp at h
      | cons d s =>
        simp only [List.map_cons, List.cons.injEq] at h
        have e : c = d := by
          have := h.1
          exact Char.ext (UInt32.toNat_inj.mp this)
        rw [e, ih h.2]
  exact String.toList_inj.mp (inj h1)
@[simp] theorem eqT_str (x y : Str) : eqT (.str x) (.str y) = some (decide (x = y)) := by simp [eqT, T.scal, L2.scal]
@[simp] theorem eqT_int (x y : Int) : eqT (.int x) (.int y) = some (decide (x = y)) := by simp [eqT, T.scal, L2.scal]
@[simp] theorem eqT_ns (y : Str) : eqT .non (.str y) = some false := by simp [eqT, T.scal, L2.scal]
@[simp] theorem eqT_sn (y : Str) : eqT (.str y) .non = some false := by simp [eqT, T.scal, L2.scal]
@[simp] theorem eqT_nn : eqT .non .non = some true := by simp [eqT, T.scal, L2.scal]
@[simp] theorem pyAll_strs (xs : List Str) : T.pyAll (xs.map T.str) = xs.map PyData.str := by
  induction xs with
  | nil => simp [T.pyAll]
  | cons x xs ih => simp [T.pyAll, T.py, ih]
theorem eqv_strs : ∀ xs ys : List Str, PyData.eqvAll (xs.map PyData.str) (ys.map PyData.str) = decide (xs = ys)
  | [], [] => by simp [PyData.eqvAll]
  | [], _ :: _ => by simp [PyData.eqvAll]
  | _ :: _, [] => by simp [PyData.eqvAll]
  | x :: xs, y :: ys => by
    simp only [List.map_cons, PyData.eqvAll, PyData.eqv, eqv_strs xs ys, List.cons.injEq]
    by_cases h : x = y <;> simp [h]
def okS (s : Str) : Bool := s.cps.toList.all fun c => decide (c < 128)
theorem strOk_of {s : Str} (h : okS s = true) : PyData.strOk s = true := by
  unfold okS at h
  unfold PyData.strOk
  simp only [List.all_eq_true, decide_eq_true_eq] at h
  simp only [Array.all_eq_true_iff_forall_mem]
  intro c hc
  have := h c (by simpa using hc)
  simp
  omega
theorem canLay_strs : ∀ zs : List Str, (∀ z ∈ zs, okS z = true) → PyData.canLayAll0 (zs.map PyData.str) = true
  | [], _ => by simp [PyData.canLayAll0]
  | z :: r, h => by simp [PyData.canLayAll0, PyData.canLay0, strOk_of (h z List.mem_cons_self), canLay_strs r fun y hy => h y (List.mem_cons_of_mem _ hy)]
theorem depth_strs : ∀ zs : List Str, PyData.depthAll (zs.map PyData.str) = 0
  | [] => by simp [PyData.depthAll]
  | z :: r => by simp [PyData.depthAll, PyData.depth, depth_strs r]
theorem shaped_strs (zs : List Str) (h : ∀ z ∈ zs, okS z = true) : SeqAt.shaped (.list (zs.map PyData.str)) = true := by
  unfold SeqAt.shaped
  simp [PyData.canLay0, canLay_strs zs h, PyData.depth, depth_strs]
theorem eqT_strs {xs ys : List Str} (hx : ∀ z ∈ xs, okS z = true) (hy : ∀ z ∈ ys, okS z = true) : eqT (.lst (xs.map T.str)) (.lst (ys.map T.str)) = some (decide (xs = ys)) := by
  simp [eqT, T.scal, T.py, shaped_strs xs hx, shaped_strs ys hy, PyData.eqv, eqv_strs]
@[simp] theorem flats_strs (xs : List Str) : asFlats (xs.map T.str) = some (xs.map V.str) := by
  induction xs with
  | nil => rfl
  | cons x xs ih => simp [asFlats, T.scal, ih]
theorem inV_strs (x : Str) (xs : List Str) : L2.inV (.str x) (xs.map V.str) = decide (x ∈ xs) := by
  induction xs with
  | nil => simp [L2.inV]
  | cons y ys ih =>
    have e : L2.inV (.str x) ((y :: ys).map V.str) = (L2.eqV (.str y) (.str x) || L2.inV (.str x) (ys.map V.str)) := rfl
    rw [e, ih]
    show ((y == x) || decide (x ∈ ys)) = _
    by_cases h : x = y
    · simp [h]
    · have h' : (y == x) = false := by simpa using fun e => h e.symm
      simp [h, h']
@[simp] theorem inT_strs (x : Str) (xs : List Str) : inT (.str x) (.lst (xs.map T.str)) = some (decide (x ∈ xs)) := by simp [inT, T.scal, inV_strs]
@[simp] theorem inT_strt (x : Str) (xs : List Str) : inT (.str x) (.tup (xs.map T.str)) = some (decide (x ∈ xs)) := by simp [inT, T.scal, inV_strs]
@[simp] theorem asStrs_map (xs : List Str) : asStrs (xs.map T.str) = some xs := by
  induction xs with
  | nil => rfl
  | cons x xs ih => simp [asStrs, ih]

/-! ### loops -/
theorem comp_inv {w : Walk} {step : T → Ev → Res (Option T × Ev)} {g : T → Option T} {env : Ev} (hst : w.still env = true) : ∀ {items acc : List T}, (∀ t ∈ items, step t env = .ok (g t, env)) → acc.length + items.length < lim →
    compLoop w step items acc env = .ok (acc ++ items.filterMap g, env)
  | [], acc, _, _ => by simp [compLoop, hst]
  | t :: ts, acc, h, hl => by
    have h1 := h t List.mem_cons_self
    have h2 := fun u hu => h u (List.mem_cons_of_mem _ hu)
    simp only [List.length_cons] at hl
    simp only [compLoop, hst, if_true, h1, Res.bind_ok]
    cases e : g t with
    | none => simp [e, comp_inv hst h2 (acc := acc) (by omega)]
    | some x =>
      have : acc.length < lim := by omega
      simp only [this, if_true]
      rw [comp_inv hst h2 (acc := acc ++ [x]) (by rw [List.length_append, List.length_singleton]; omega)]
      simp [e]
theorem loop_inv {w : Walk} {step : T → Ev → Res Fl} (P : Nat → Ev → Prop) : ∀ {items : List T} {k : Nat} {env : Ev}, P k env → (∀ i e, P i e → w.still e = true) → (∀ i t e, items[i]? = some t → P (k + i) e → ∃ e', step t e = .ok (.nx e') ∧ P (k + i + 1) e') →
    ∃ e', loopS w step items env = .ok (.nx e') ∧ P (k + items.length) e'
  | [], k, env, h0, hst, _ => ⟨env, by simp [loopS, hst k env h0], h0⟩
  | t :: ts, k, env, h0, hst, hs => by
    obtain ⟨e1, h1, h2⟩ := hs 0 t env rfl h0
    obtain ⟨e2, h3, h4⟩ := loop_inv P (items := ts) (k := k + 1) (env := e1) h2 hst fun i u e hu hp => by
      have := hs (i + 1) u e (by simpa using hu) (by rw [show k + (i + 1) = k + 1 + i by omega]; exact hp)
      rw [show k + (i + 1) = k + 1 + i by omega] at this
      exact this
    refine ⟨e2, ?_, by rw [List.length_cons, show k + (ts.length + 1) = k + 1 + ts.length by omega]; exact h4⟩
    simp [loopS, hst k env h0, h1, h3]
/-- a loop that may hand back -/
theorem loop_ret {w : Walk} {step : T → Ev → Res Fl} (P : Nat → Ev → Prop) (R : R → Ev → Prop) : ∀ {items : List T} {k : Nat} {env : Ev}, P k env → (∀ i e, P i e → w.still e = true) → (∀ i t e, items[i]? = some t → P (k + i) e → (∃ e', step t e = .ok (.nx e') ∧ P (k + i + 1) e') ∨ ∃ r e', step t e = .ok (.rt r e') ∧ R r e') →
    (∃ e', loopS w step items env = .ok (.nx e') ∧ P (k + items.length) e') ∨ ∃ r e', loopS w step items env = .ok (.rt r e') ∧ R r e'
  | [], k, env, h0, hst, _ => .inl ⟨env, by simp [loopS, hst k env h0], h0⟩
  | t :: ts, k, env, h0, hst, hs => by
    rcases hs 0 t env rfl h0 with ⟨e1, h1, h2⟩ | ⟨r, e1, h1, h2⟩
    · rcases loop_ret P R (items := ts) (k := k + 1) (env := e1) h2 hst (fun i u e hu hp => by
        have := hs (i + 1) u e (by simpa using hu) (by rw [show k + (i + 1) = k + 1 + i by omega]; exact hp)
        rw [show k + (i + 1) = k + 1 + i by omega] at this
        exact this) with ⟨e2, h3, h4⟩ | ⟨r, e2, h3, h4⟩
      · exact .inl ⟨e2, by simp [loopS, hst k env h0, h1, h3], by rw [List.length_cons, show k + (ts.length + 1) = k + 1 + ts.length by omega]; exact h4⟩
      · exact .inr ⟨r, e2, by simp [loopS, hst k env h0, h1, h3], h4⟩
    · exact .inr ⟨r, e1, by simp [loopS, hst k env h0, h1], h2⟩
@[simp] theorem atI_zero {α : Type} (x : α) (xs : List α) : atI (x :: xs) 0 = some x := by
  have e : ((0 : Int) < ((x :: xs).length : Nat)) := by simp only [List.length_cons]; omega
  simp [atI, ixN, e]
theorem atI_nat {α : Type} (xs : List α) (i : Nat) (h : i < xs.length) : atI xs (i : Int) = xs[i]? := by
  have e : (i : Int) < ((xs.length : Nat) : Int) := by omega
  simp [atI, ixN, e]
theorem atI_int {α : Type} (xs : List α) (i : Int) (h0 : 0 ≤ i) (h : i < xs.length) : atI xs i = xs[i.toNat]? := by
  unfold atI ixN
  rw [if_pos h0, if_pos h]
  rfl
@[simp] theorem beqs_refl' (xs : List T) : T.beqs xs xs = true := T.beqs_refl xs
theorem mulOk_l {i j : Int} (h : i.natAbs < 2 ^ 64) : mulOk i j = true := by
  unfold mulOk
  rw [decide_eq_true h]
  rfl
theorem mulOk_r {i j : Int} (h : j.natAbs < 2 ^ 64) : mulOk i j = true := by
  unfold mulOk
  rw [decide_eq_true h, Bool.or_true]
theorem mod_bd (i : Int) {c : Int} (h : 0 < c) (h2 : c < 2 ^ 60) : 0 ≤ i % c ∧ i % c < c ∧ (i % c).natAbs < 2 ^ 64 := by
  have h1 := Int.emod_nonneg i (Int.ne_of_gt h)
  have h3 := Int.emod_lt_of_pos i h
  refine ⟨h1, h3, ?_⟩
  have : (2 : Int) ^ 60 = 1152921504606846976 := by decide
  omega
@[simp] theorem le_lim {n : Nat} (h : n ≤ 100) : (n ≤ lim) = True := by
  unfold lim
  simp
  omega
@[simp] theorem lt_lim {n : Nat} (h : n ≤ 100) : (n < lim) = True := by
  unfold lim
  simp
  omega

/-! ### steps by hand -/
section
variable {call : Call} {env env1 env2 : Ev} {a b : E} {i j : Int} {s : S} {ss : Ss} {n : Nat} {r : R} {X : Res Fl}
def EvI (call : Call) (env : Ev) (e : E) (i : Int) : Prop := evE call e env = .ok (.val (.int i), env)
theorem ei_lit : EvI call env (.lit (.int i)) i := by simp [EvI, evE]
theorem ei_nm (h : get env n = .val (.int i)) : EvI call env (.nm n) i := by simp [EvI, evE, h]
theorem ei_add (ha : EvI call env a i) (hb : EvI call env b j) : EvI call env (.bin .add a b) (i + j) := by
  unfold EvI at *
  simp only [evE, ha, hb, Res.bind_ok, asT, Res.of_some, Sf.binT]
theorem ei_sub (ha : EvI call env a i) (hb : EvI call env b j) : EvI call env (.bin .sub a b) (i - j) := by
  unfold EvI at *
  simp only [evE, ha, hb, Res.bind_ok, asT, Res.of_some, Sf.binT]
theorem ei_mul (ha : EvI call env a i) (hb : EvI call env b j) (h : mulOk i j = true) : EvI call env (.bin .mul a b) (i * j) := by
  unfold EvI at *
  simp only [evE, ha, hb, Res.bind_ok, asT, Res.of_some, Sf.binT, h, if_true]
theorem ei_mod (ha : EvI call env a i) (hb : EvI call env b j) (h : 0 < j) : EvI call env (.bin .mod a b) (i % j) := by
  unfold EvI at *
  simp only [evE, ha, hb, Res.bind_ok, asT, Res.of_some, Sf.binT]
  rw [if_pos h]
  first | done | rfl
theorem ei_div (ha : EvI call env a i) (hb : EvI call env b j) (h : 0 < j ∧ j < 1606938044258990275541962092341162602522202993782792835301376) : EvI call env (.bin .fdiv a b) (i / j) := by
  unfold EvI at *
  simp only [evE, ha, hb, Res.bind_ok, asT, Res.of_some, Sf.binT]
  rw [if_pos ⟨h.1, by have := h.2; simpa using this⟩]
  first | done | rfl
theorem st_set {t : T} (ha : evE call a env = .ok (.val t, env1)) (hb : ∀ o, get env1 n ≠ .bor o) : evS call (.set n a) env = .ok (.nx (put env1 n (.val t))) := by
  have e : setR env1 n (.val t) = .ok (put env1 n (.val t)) := by
    unfold setR
    split
    · rename_i o e; exact absurd e (hb o)
    · rfl
  simp only [evS, ha, Res.bind_ok, e]
theorem ss_nx (h : evS call s env = .ok (.nx env1)) : evSs call (.cons s ss) env = evSs call ss env1 := by simp only [evSs, h, Res.bind_ok]
theorem ss_rt (h : evS call s env = .ok (.rt r env1)) : evSs call (.cons s ss) env = .ok (.rt r env1) := by simp only [evSs, h, Res.bind_ok]
theorem st_rv {t : T} (ha : evE call a env = .ok (.val t, env1)) : evS call (.ret a) env = .ok (.rt (.val t) env1) := by simp only [evS, ha, Res.bind_ok, retR]
theorem st_ite {c : E} {k : Bool} {x y : Ss} (h : evT call c env = .ok (k, env1)) : evS call (.ite c x y) env = if k = true then evSs call x env1 else evSs call y env1 := by simp only [evS, h, Res.bind_ok]
theorem run_of {F : Nat → Option Fn} {f : Nat} {fn : Fn} {args : List Arg} (h : F f = some fn) : callN F (n + 1) f args = runFn (callN F n) fn args := by
  show (match F f with
    | none => Res.bad
    | some fn => runFn (callN F n) fn args) = _
  rw [h]
end
theorem mk_l {i j : Int} (h : i.natAbs < 18446744073709551616) : mulOk i j = true := mulOk_l (by simpa using h)
theorem mk_r {i j : Int} (h : j.natAbs < 18446744073709551616) : mulOk i j = true := mulOk_r (by simpa using h)
theorem mk_mod {a c j : Int} (h : 0 < c ∧ c < 1152921504606846976) : mulOk (a % c) j = true := mulOk_l (mod_bd a h.1 (by simpa using h.2)).2.2
end Sf

/-! Sf, part 14: the end of a law. -/
namespace Sf
open PySem L2
def CXE : CXT := fun outer H s E u s' => ∃ (P : Program) (w : World), CX P w outer H s E u s'
theorem FnOk.cxe {P : Program} {w : World} {K : Frag} {mg : Str → Option Value} {base : Heap} {k : Nat} {f : Addr} {fd : FuncData} {ps : List Str} {sp : Sp} (F : FnOk P w K mg base (CX P w) k f fd ps sp) : FnOk P w K mg base CXE k f fd ps sp :=
  ⟨F.len, fun A outer s H args us vs Q E hr he hb hv hs => codeAny_mono (F.run A outer s H args us vs Q E hr he hb hv hs) fun r s' hq => by
    cases r with
    | error e => exact ⟨P, w, hq⟩
    | ok fl => cases fl <;> exact hq⟩
theorem cxe_end (H : Hp) (s : Shared) (e : Value) (s' : Shared) : CXE [] H s (fun _ _ _ => False) e s' → False := fun ⟨P, w, _, _, _, _, _, _, _, _, _, _, _, _, z⟩ => z
theorem reps_nums {K : Frag} {Z : Hp} : ∀ ns : List Int, Reps K Z (ns.map V.int) (ns.map T.int)
  | [] => by simp [Reps]
  | n :: ns => by
    simp only [List.map_cons]
    exact .cons' (by simp only [Rep]) (reps_nums ns)
theorem law_end {K : Frag} {call : Call} {id : Nat} {ns : List Int} {H : Hp} {a : Addr} (h : call id [.val (.ro (ns.map T.int))] = .ok (.val (.bl true), [.val (.ro (ns.map T.int))])) (hS : SqL K H a (ns.map V.int)) :
    spF K call id 1 [.ref a] H (fun v _ => v = .bl true) fun _ _ _ => False := by
  refine ⟨fun _ => none, H, [.val (.ro (ns.map T.int))], rfl, Le.refl H, (fun _ _ z => by cases z), (fun _ _ z => by cases z), ⟨?_, trivial⟩, (fun i j b o o' _ _ z => ?_), ?_⟩
  · show Rep K H _ (.ro (ns.map T.int))
    simp only [Rep]
    exact ⟨a, _, rfl, hS, reps_nums ns⟩
  · cases i with
    | zero => simp at z
    | succ i => simp at z
  · rw [h]
    intro Z' H' _ _ _ _ _ v rv
    have rv : Rep K Z' v (.bl true) := rv
    simpa only [Rep] using rv
end Sf

namespace SfH
open PySem Sf
/-- parts -/
def c0 : Ss := (.cons (.ite (.or (.cmp .eq (.idx (.nm 0) (.lit (.int 0))) (.lit (.str "num"))) (.cmp .eq (.idx (.nm 0) (.lit (.int 0))) (.lit (.str "name")))) (.cons (.ret (.lst .nil))
   .nil) .nil)
  (.cons (.ret (.lst (.cons (.idx (.nm 0) (.lit (.int 1))) (.cons (.idx (.nm 0) (.lit (.int 2))) .nil))))
  .nil))
def f0 : Fn := ⟨[false], 1, c0⟩
/-- names_in -/
def c1 : Ss := (.cons (.ite (.cmp .eq (.idx (.nm 0) (.lit (.int 0))) (.lit (.str "name"))) (.cons (.ret (.lst (.cons (.idx (.nm 0) (.lit (.int 1))) .nil)))
   .nil) .nil)
  (.cons (.set 1 (.lst .nil))
  (.cons (.loop [2] (.seq (.call 0 (.val (.nm 0) .nil))) (.cons (.ext 1 (.comp (.nm 3) [3] (.seq (.call 1 (.val (.nm 2) .nil))) (.some (.cmp .notin (.nm 3) (.nm 1)))))
   .nil))
  (.cons (.ret (.nm 1))
  .nil))))
def f1 : Fn := ⟨[false], 4, c1⟩
/-- worth -/
def c2 : Ss := (.cons (.ite (.cmp .eq (.idx (.nm 0) (.lit (.int 0))) (.lit (.str "num"))) (.cons (.ret (.idx (.nm 0) (.lit (.int 1))))
   .nil) .nil)
  (.cons (.ite (.cmp .eq (.idx (.nm 0) (.lit (.int 0))) (.lit (.str "name"))) (.cons (.ret (.getd 1 (.idx (.nm 0) (.lit (.int 1))) (.lit (.int 0))))
   .nil) .nil)
  (.cons (.set 2 (.call 2 (.val (.idx (.nm 0) (.lit (.int 1))) (.io 1 .nil))))
  (.cons (.set 3 (.call 2 (.val (.idx (.nm 0) (.lit (.int 2))) (.io 1 .nil))))
  (.cons (.ite (.cmp .eq (.idx (.nm 0) (.lit (.int 0))) (.lit (.str "sum"))) (.cons (.ret (.bin .mod (.bin .add (.nm 2) (.nm 3)) (.lit (.int 1000003))))
   .nil) .nil)
  (.cons (.ite (.cmp .eq (.idx (.nm 0) (.lit (.int 0))) (.lit (.str "less"))) (.cons (.ret (.bin .mod (.bin .sub (.nm 2) (.nm 3)) (.lit (.int 1000003))))
   .nil) .nil)
  (.cons (.ret (.bin .mod (.bin .mul (.nm 2) (.nm 3)) (.lit (.int 1000003))))
  .nil)))))))
def f2 : Fn := ⟨[false, true], 4, c2⟩
/-- _law_cell -/
def c3 : Ss := (.cons (.set 2 (.ife (.cmp .lt (.nm 1) (.bi .len (.nm 0))) (.idx (.nm 0) (.nm 1)) (.lit (.int 0))))
  (.cons (.set 3 (.bin .mod (.bin .mul (.bin .add (.bin .mod (.nm 2) (.lit (.int 2147483629))) (.bin .mul (.lit (.int 7919)) (.bin .add (.nm 1) (.lit (.int 1))))) (.lit (.int 48271))) (.lit (.int 2147483647))))
  (.cons (.set 3 (.bin .mod (.bin .mul (.bin .mod (.bin .mul (.nm 3) (.nm 3)) (.lit (.int 2147483629))) (.lit (.int 69621))) (.lit (.int 2147483647))))
  (.cons (.ret (.bin .add (.bin .mul (.bin .add (.bin .mul (.bin .fdiv (.nm 2) (.lit (.int 2147483629))) (.lit (.int 2147483647))) (.nm 3)) (.lit (.int 2147483629))) (.bin .mod (.bin .mul (.nm 3) (.nm 3)) (.lit (.int 2147483629)))))
  .nil))))
def f3 : Fn := ⟨[false, false], 4, c3⟩
/-- _law_mixed -/
def c4 : Ss := (.cons (.set 2 (.bin .mod (.bin .add (.bin .mul (.nm 0) (.lit (.int 48271))) (.bin .mul (.bin .add (.nm 1) (.lit (.int 1))) (.lit (.int 1299721)))) (.lit (.int 2147483647))))
  (.cons (.ret (.bin .mod (.bin .mul (.nm 2) (.bin .add (.bin .mod (.bin .fdiv (.nm 2) (.lit (.int 7))) (.lit (.int 65536))) (.lit (.int 3)))) (.lit (.int 2147483647))))
  .nil))
def f4 : Fn := ⟨[false, false], 3, c4⟩
/-- _law_words -/
def c5 : Ss := (.cons (.set 2 (.lit (.str "abcdefghijklmnopqrstuvwxyz")))
  (.cons (.set 3 (.bin .mul (.idx (.nm 2) (.bin .mod (.nm 0) (.lit (.int 26)))) (.bin .add (.lit (.int 1)) (.bin .mod (.bin .fdiv (.nm 0) (.lit (.int 26))) (.lit (.int 8))))))
  (.cons (.set 4 (.bin .mod (.bin .fdiv (.nm 0) (.lit (.int 208))) (.bi .len (.nm 3))))
  (.cons (.ite (.cmp .eq (.bin .mod (.bin .fdiv (.nm 0) (.lit (.int 1664))) (.lit (.int 3))) (.lit (.int 1))) (.cons (.ret (.comp (.bin .mul (.idx (.nm 2) (.bin .mod (.nm 0) (.lit (.int 26)))) (.bin .add (.lit (.int 1)) (.nm 5))) [5] (.rng (.nm 1)) .none))
   .nil) .nil)
  (.cons (.ret (.comp (.bin .add (.bin .add (.slc (.nm 3) .none (.some (.nm 4))) (.idx (.nm 2) (.bin .mod (.bin .add (.bin .fdiv (.nm 0) (.lit (.int 4992))) (.bin .mul (.lit (.int 5)) (.nm 5))) (.lit (.int 26))))) (.slc (.nm 3) (.some (.bin .add (.nm 4) (.lit (.int 1)))) .none)) [5] (.rng (.nm 1)) .none))
  .nil)))))
def f5 : Fn := ⟨[false, false], 6, c5⟩
/-- _law_term -/
def c6 : Ss := (.cons (.set 3 (.bin .mod (.nm 0) (.lit (.int 6))))
  (.cons (.ite (.cmp .eq (.nm 3) (.lit (.int 0))) (.cons (.ret (.tup (.cons (.lit (.str "num")) (.cons (.bin .mod (.bin .fdiv (.nm 0) (.lit (.int 6))) (.lit (.int 3))) .nil))))
   .nil) .nil)
  (.cons (.ite (.cmp .eq (.nm 3) (.lit (.int 1))) (.cons (.ret (.tup (.cons (.lit (.str "num")) (.cons (.bin .mod (.bin .fdiv (.nm 0) (.lit (.int 6))) (.lit (.int 1000003))) .nil))))
   .nil) .nil)
  (.cons (.ite (.or (.cmp .lt (.nm 3) (.lit (.int 4))) (.cmp .eq (.nm 2) (.lit (.int 0)))) (.cons (.ret (.tup (.cons (.lit (.str "name")) (.cons (.idx (.nm 1) (.bin .mod (.bin .fdiv (.nm 0) (.lit (.int 6))) (.bi .len (.nm 1)))) .nil))))
   .nil) .nil)
  (.cons (.set 4 (.idx (.lst (.cons (.lit (.str "sum")) (.cons (.lit (.str "less")) (.cons (.lit (.str "times")) .nil)))) (.bin .mod (.bin .fdiv (.nm 0) (.lit (.int 6))) (.lit (.int 3)))))
  (.cons (.ret (.tup (.cons (.nm 4) (.cons (.call 6 (.val (.call 4 (.val (.nm 0) (.val (.lit (.int 1)) .nil))) (.val (.nm 1) (.val (.bin .sub (.nm 2) (.lit (.int 1))) .nil)))) (.cons (.call 6 (.val (.call 4 (.val (.nm 0) (.val (.lit (.int 2)) .nil))) (.val (.nm 1) (.val (.bin .sub (.nm 2) (.lit (.int 1))) .nil)))) .nil)))))
  .nil))))))
def f6 : Fn := ⟨[false, false, false], 5, c6⟩
/-- _law_names -/
def c7 : Ss := (.cons (.ite (.cmp .eq (.idx (.nm 0) (.lit (.int 0))) (.lit (.str "name"))) (.cons (.ret (.lst (.cons (.idx (.nm 0) (.lit (.int 1))) .nil)))
   .nil) .nil)
  (.cons (.ite (.cmp .eq (.idx (.nm 0) (.lit (.int 0))) (.lit (.str "num"))) (.cons (.ret (.lst .nil))
   .nil) .nil)
  (.cons (.ret (.bin .add (.call 7 (.val (.idx (.nm 0) (.lit (.int 1))) .nil)) (.call 7 (.val (.idx (.nm 0) (.lit (.int 2))) .nil))))
  .nil)))
def f7 : Fn := ⟨[false], 1, c7⟩
/-- _law_worth -/
def c8 : Ss := (.cons (.ite (.cmp .eq (.idx (.nm 0) (.lit (.int 0))) (.lit (.str "num"))) (.cons (.ret (.idx (.nm 0) (.lit (.int 1))))
   .nil) .nil)
  (.cons (.ite (.cmp .eq (.idx (.nm 0) (.lit (.int 0))) (.lit (.str "name"))) (.cons (.ret (.getd 1 (.idx (.nm 0) (.lit (.int 1))) (.lit (.int 0))))
   .nil) .nil)
  (.cons (.set 2 (.call 8 (.val (.idx (.nm 0) (.lit (.int 1))) (.io 1 .nil))))
  (.cons (.set 3 (.call 8 (.val (.idx (.nm 0) (.lit (.int 2))) (.io 1 .nil))))
  (.cons (.ite (.cmp .eq (.idx (.nm 0) (.lit (.int 0))) (.lit (.str "less"))) (.cons (.set 3 (.neg (.nm 3)))
   .nil) .nil)
  (.cons (.ite (.cmp .eq (.idx (.nm 0) (.lit (.int 0))) (.lit (.str "times"))) (.cons (.ret (.bin .mod (.bin .mul (.nm 2) (.nm 3)) (.lit (.int 1000003))))
   .nil) .nil)
  (.cons (.ret (.bin .mod (.bin .add (.nm 2) (.nm 3)) (.lit (.int 1000003))))
  .nil)))))))
def f8 : Fn := ⟨[false, true], 4, c8⟩
/-- _law_numbers -/
def c9 : Ss := (.cons (.ite (.nots (.isin (.nm 0) .list)) (.cons (.ret (.lit (.bl false)))
   .nil) .nil)
  (.cons (.loop [1] (.seq (.nm 0)) (.cons (.ite (.or (.nots (.isin (.nm 1) .int)) (.isin (.nm 1) .bool)) (.cons (.ret (.lit (.bl false)))
    .nil) .nil)
   .nil))
  (.cons (.ret (.lit (.bl true)))
  .nil)))
def f9 : Fn := ⟨[false], 2, c9⟩
/-- _law_once -/
def c10 : Ss := (.cons (.set 1 (.lst .nil))
  (.cons (.loop [2] (.seq (.nm 0)) (.cons (.ite (.cmp .notin (.nm 2) (.nm 1)) (.cons (.app 1 (.nm 2))
    .nil) .nil)
   .nil))
  (.cons (.ret (.nm 1))
  .nil)))
def f10 : Fn := ⟨[false], 3, c10⟩
/-- _law_told -/
def c11 : Ss := (.cons (.set 2 (.call 1 (.val (.nm 0) .nil)))
  (.cons (.set 3 (.call 2 (.val (.nm 0) (.io 1 .nil))))
  (.cons (.ite (.or (.nots (.isin (.nm 2) .list)) (.or (.cmp .ne (.nm 2) (.call 10 (.val (.call 7 (.val (.nm 0) .nil)) .nil))) (.nots (.call 9 (.val (.lst (.cons (.nm 3) .nil)) .nil))))) (.cons (.ret (.lit (.bl false)))
   .nil) .nil)
  (.cons (.loop [4] (.seq (.nm 2)) (.cons (.ite (.nots (.isin (.nm 4) .str)) (.cons (.ret (.lit (.bl false)))
    .nil) .nil)
   .nil))
  (.cons (.app 2 (.lit (.str "more")))
  (.cons (.ret (.and (.cmp .eq (.nm 3) (.call 8 (.val (.nm 0) (.io 1 .nil)))) (.cmp .eq (.call 1 (.val (.nm 0) .nil)) (.call 10 (.val (.call 7 (.val (.nm 0) .nil)) .nil)))))
  .nil))))))
def f11 : Fn := ⟨[false, true], 5, c11⟩
/-- law -/
def c12 : Ss := (.cons (.set 1 (.call 5 (.val (.call 3 (.val (.nm 0) (.val (.lit (.int 0)) .nil))) (.val (.lit (.int 5)) .nil))))
  (.cons (.set 2 (.call 6 (.val (.call 3 (.val (.nm 0) (.val (.lit (.int 1)) .nil))) (.val (.nm 1) (.val (.bin .mod (.call 3 (.val (.nm 0) (.val (.lit (.int 2)) .nil))) (.lit (.int 4))) .nil)))))
  (.cons (.ite (.cmp .eq (.bin .mod (.bin .fdiv (.call 3 (.val (.nm 0) (.val (.lit (.int 2)) .nil))) (.lit (.int 16))) (.lit (.int 6))) (.lit (.int 1))) (.cons (.loop [3] (.rng (.bin .mod (.bin .fdiv (.call 3 (.val (.nm 0) (.val (.lit (.int 2)) .nil))) (.lit (.int 96))) (.lit (.int 16)))) (.cons (.set 4 (.tup (.cons (.lit (.str "name")) (.cons (.idx (.nm 1) (.bin .mod (.nm 3) (.lit (.int 5)))) .nil))))
    (.cons (.set 2 (.idx (.lst (.cons (.tup (.cons (.lit (.str "sum")) (.cons (.nm 2) (.cons (.tup (.cons (.lit (.str "num")) (.cons (.nm 3) .nil))) .nil)))) (.cons (.tup (.cons (.lit (.str "less")) (.cons (.nm 4) (.cons (.nm 2) .nil)))) (.cons (.tup (.cons (.lit (.str "times")) (.cons (.nm 2) (.cons (.tup (.cons (.lit (.str "num")) (.cons (.lit (.int 1000002)) .nil))) .nil)))) .nil)))) (.bin .mod (.nm 3) (.lit (.int 3)))))
    .nil)))
   .nil) .nil)
  (.cons (.set 5 (.dlit (.lit (.str "other")) (.lit (.int 7))))
  (.cons (.loop [3] (.rng (.bin .mod (.bin .fdiv (.call 3 (.val (.nm 0) (.val (.lit (.int 2)) .nil))) (.lit (.int 4))) (.lit (.int 4)))) (.cons (.sto 5 (.idx (.nm 1) (.bin .mod (.bin .add (.call 3 (.val (.nm 0) (.val (.lit (.int 3)) .nil))) (.bin .mul (.lit (.int 2)) (.nm 3))) (.lit (.int 5)))) (.bin .mod (.call 4 (.val (.call 3 (.val (.nm 0) (.val (.lit (.int 4)) .nil))) (.val (.nm 3) .nil))) (.idx (.lst (.cons (.lit (.int 3)) (.cons (.lit (.int 1000003)) .nil))) (.bin .mod (.nm 3) (.lit (.int 2))))))
   .nil))
  (.cons (.set 6 (.dcopy 5))
  (.cons (.ite (.or (.nots (.call 11 (.val (.nm 2) (.io 5 .nil)))) (.deq true 5 6)) (.cons (.ret (.lit (.bl false)))
   .nil) .nil)
  (.cons (.sto 5 (.idx (.nm 1) (.bin .mod (.call 3 (.val (.nm 0) (.val (.lit (.int 5)) .nil))) (.lit (.int 5)))) (.bin .mod (.call 3 (.val (.nm 0) (.val (.lit (.int 6)) .nil))) (.lit (.int 1000003))))
  (.cons (.set 6 (.dcopy 5))
  (.cons (.ret (.and (.call 11 (.val (.nm 2) (.io 5 .nil))) (.deq false 5 6)))
  .nil))))))))))
def f12 : Fn := ⟨[false], 7, c12⟩
end SfH

namespace SfH
open PySem L2 Sf

inductive O3 where | sum | less | times
def O3.w : O3 → Str
  | .sum => "sum"
  | .less => "less"
  | .times => "times"
inductive Tm where
  | num (n : Int) | nam (x : Str) | bin (o : O3) (a b : Tm)
def Tm.enc : Tm → T
  | .num n => .tup [.str "num", .int n]
  | .nam x => .tup [.str "name", .str x]
  | .bin o a b => .tup [.str o.w, a.enc, b.enc]
def Tm.deep : Tm → Nat
  | .num _ => 0
  | .nam _ => 0
  | .bin _ a b => max a.deep b.deep + 1
def Tm.size : Tm → Nat
  | .num _ => 1
  | .nam _ => 1
  | .bin _ a b => a.size + b.size
def Tm.kids : Tm → List T
  | .bin _ a b => [a.enc, b.enc]
  | _ => []
/-- the names, each once, in their order -/
def Tm.ns : Tm → List Str
  | .num _ => []
  | .nam x => [x]
  | .bin _ a b => a.ns ++ b.ns.filter fun x => decide (x ∉ a.ns)
theorem ns_len : ∀ t : Tm, t.ns.length ≤ t.size
  | .num _ => by simp [Tm.ns, Tm.size]
  | .nam _ => by simp [Tm.ns, Tm.size]
  | .bin _ a b => by
    have h1 := ns_len a
    have h2 := ns_len b
    have h3 := List.length_filter_le (fun x => decide (x ∉ a.ns)) b.ns
    simp only [Tm.ns, Tm.size, List.length_append]
    omega
variable {F : Nat → Option Fn}
theorem parts_spec (h0 : F 0 = some f0) (t : Tm) (n : Nat) : callN F (n + 1) 0 [.val t.enc] = .ok (.own (.lst t.kids), [.val t.enc]) := by
  cases t with
  | num k => simp [callN, h0, f0, runFn, initE, c0, evSs, evS, evT, evE, evEs, asT, idxT, Tm.enc, cmpT, retR, outs, lim, Tm.kids]
  | nam k => simp [callN, h0, f0, runFn, initE, c0, evSs, evS, evT, evE, evEs, asT, idxT, Tm.enc, cmpT, retR, outs, lim, Tm.kids]
  | bin o a b =>
    have e1 : atI [T.str o.w, a.enc, b.enc] 1 = some a.enc := rfl
    have e2 : atI [T.str o.w, a.enc, b.enc] 2 = some b.enc := rfl
    cases o <;> simp [callN, h0, f0, runFn, initE, c0, evSs, evS, evT, evE, evEs, asT, idxT, Tm.enc, cmpT, retR, outs, lim, Tm.kids, O3.w, e1, e2, frz] <;> rfl

def bNames : Ss := .cons (.ext 1 (.comp (.nm 3) [3] (.seq (.call 1 (.val (.nm 2) .nil))) (.some (.cmp .notin (.nm 3) (.nm 1))))) .nil
theorem filter_strs (p : Str → Bool) : ∀ ys : List Str, (ys.map T.str).filterMap (fun t => match t with
    | .str y => if p y = true then some (T.str y) else none
    | _ => none) = (ys.filter p).map T.str
  | [] => rfl
  | y :: ys => by
    rw [List.map_cons, List.filterMap_cons, filter_strs p ys, List.filter_cons]
    by_cases h : p y = true <;> simp [h]
theorem names_step {call : Call} {t u : T} {fs us : List Str} (hc : call 1 [.val u] = .ok (.own (.lst (us.map T.str)), [.val u])) (hl : us.length < lim) (hl2 : fs.length + us.length < lim) :
    evSs call bNames [.val t, .own (.lst (fs.map T.str)), .val u, .un] = .ok (.nx [.val t, .own (.lst ((fs ++ us.filter fun x => decide (x ∉ fs)).map T.str)), .val u, .un]) := by
  have hw : Walk.still ⟨us.map T.str, none⟩ [.val t, .own (.lst (fs.map T.str)), .val u, .un] = true := rfl
  have hfl : (us.filter fun x => decide (x ∉ fs)).length ≤ us.length := List.length_filter_le _ _
  simp only [bNames, evSs, evS, lstAt, get_zero, get_succ, Res.of_some, Res.bind_ok, evE, evI, evAs, frz, hc, wb, walkOf, List.all_cons, List.all_nil, free1, Bool.and_self, if_true, lock, wipeE, put_zero, put_succ]
  rw [comp_inv (g := fun t => match t with
    | .str y => if decide (y ∉ fs) = true then some (T.str y) else none
    | _ => none) hw]
  · simp only [List.nil_append, filter_strs (fun y => decide (y ∉ fs)), Res.calm, Res.bind_ok, unlock, backE, frz, lstAt, put_zero, put_succ, get_zero, get_succ, Res.of_some, setM, List.length_map]
    rw [if_pos (by omega)]
    simp
  · intro x hx
    obtain ⟨y, hy, rfl⟩ := List.mem_map.mp hx
    by_cases h : y ∈ fs
    · simp [bindT, bindAll, evC, evT, evE, asT, cmpT, h]
    · simp [bindT, bindAll, evC, evT, evE, asT, cmpT, h, frz]
  · simpa using hl
theorem c1_eq : c1 = .cons (.ite (.cmp .eq (.idx (.nm 0) (.lit (.int 0))) (.lit (.str "name"))) (.cons (.ret (.lst (.cons (.idx (.nm 0) (.lit (.int 1))) .nil))) .nil) .nil)
    (.cons (.set 1 (.lst .nil)) (.cons (.loop [2] (.seq (.call 0 (.val (.nm 0) .nil))) bNames) (.cons (.ret (.nm 1)) .nil))) := rfl
theorem names_spec (h0 : F 0 = some f0) (h1 : F 1 = some f1) : ∀ (t : Tm) (n : Nat), t.deep + 1 < n → t.size < lim → callN F n 1 [.val t.enc] = .ok (.own (.lst (t.ns.map T.str)), [.val t.enc])
  | .num k, n + 1, hn, hs => by
    have hp := parts_spec h0 (.num k) (n - 1)
    have en : n - 1 + 1 = n := by simp only [Tm.deep] at hn; omega
    rw [en] at hp
    simp only [Tm.enc, Tm.kids] at hp
    simp [callN, h1, f1, runFn, initE, c1, evSs, evS, evT, evE, evEs, evI, evAs, asT, idxT, Tm.enc, cmpT, retR, outs, lim, Tm.kids, Tm.ns, frz, hp, wb, walkOf, loopS, Walk.still, setR, lock, unlock]
  | .nam k, n + 1, hn, hs => by
    simp [callN, h1, f1, runFn, initE, c1, evSs, evS, evT, evE, evEs, evI, evAs, asT, idxT, Tm.enc, cmpT, retR, outs, lim, Tm.kids, Tm.ns, frz]
    rfl
  | .bin o a b, n + 1, hn, hs => by
    have hp := parts_spec h0 (.bin o a b) (n - 1)
    have en : n - 1 + 1 = n := by simp only [Tm.deep] at hn; omega
    rw [en] at hp
    simp only [Tm.kids] at hp
    simp only [Tm.deep] at hn
    simp only [Tm.size] at hs
    have ia := names_spec h0 h1 a n (by omega) (by omega)
    have ib := names_spec h0 h1 b n (by omega) (by omega)
    have la := ns_len a
    have lb := ns_len b
    have sa := names_step (call := callN F n) (t := (Tm.bin o a b).enc) (fs := []) ia (by omega) (by simp only [List.length_nil]; omega)
    have sb := names_step (call := callN F n) (t := (Tm.bin o a b).enc) (fs := a.ns) ib (by omega) (by omega)
    have ht : evT (callN F n) (.cmp .eq (.idx (.nm 0) (.lit (.int 0))) (.lit (.str "name"))) [.val (Tm.bin o a b).enc, .un, .un, .un] = .ok (false, [.val (Tm.bin o a b).enc, .un, .un, .un]) := by
      cases o <;> simp [evT, evE, asT, idxT, cmpT, Tm.enc, O3.w]
    have e0 : List.filter (fun x => decide (x ∉ ([] : List Str))) a.ns = a.ns := by simp
    rw [e0, List.nil_append] at sa
    simp only [List.map_nil] at sa
    simp only [callN, h1, f1, runFn, initE, c1_eq, Option.map_some, List.cons_append, List.nil_append, List.length_cons, List.length_nil, Nat.reduceAdd, Nat.reduceSub, List.replicate, evSs, evS, ht, Res.bind_ok, Bool.false_eq_true, if_false,
      evE, evEs, setR, get_zero, get_succ, put_zero, put_succ, evI, evAs, frz, hp, wb, walkOf, Res.of_some, lock, loopS, Walk.still, if_true, bindT, bindAll, unlock, Nat.zero_le, sa, sb]
    simp [retR, outs, Tm.ns]

/-! ### worth -/
def cv (kvs : List (Str × T)) (x : Str) : Int := match look kvs x with
  | some (.int v) => v
  | _ => 0
def CellsOk (kvs : List (Str × T)) : Prop := ∀ x t, look kvs x = some t → ∃ v, t = .int v ∧ 0 ≤ v ∧ v ≤ 1000002
theorem cell_get {kvs : List (Str × T)} (hk : CellsOk kvs) (x : Str) : (look kvs x).getD (.int 0) = .int (cv kvs x) := by
  unfold cv
  cases e : look kvs x with
  | none => rfl
  | some t =>
    obtain ⟨v, rfl, _⟩ := hk x t e
    rfl
theorem cell_bd {kvs : List (Str × T)} (hk : CellsOk kvs) (x : Str) : 0 ≤ cv kvs x ∧ cv kvs x ≤ 1000002 := by
  unfold cv
  cases e : look kvs x with
  | none => simp
  | some t =>
    obtain ⟨v, rfl, h1, h2⟩ := hk x t e
    exact ⟨h1, h2⟩
def Tm.wv (kvs : List (Str × T)) : Tm → Int
  | .num n => n
  | .nam x => cv kvs x
  | .bin .sum a b => (a.wv kvs + b.wv kvs) % 1000003
  | .bin .less a b => (a.wv kvs - b.wv kvs) % 1000003
  | .bin .times a b => a.wv kvs * b.wv kvs % 1000003
def Tm.nok : Tm → Prop
  | .num n => 0 ≤ n ∧ n ≤ 1000002
  | .nam x => okS x = true
  | .bin _ a b => a.nok ∧ b.nok
theorem wv_bd {kvs : List (Str × T)} (hk : CellsOk kvs) : ∀ {t : Tm}, t.nok → 0 ≤ t.wv kvs ∧ t.wv kvs ≤ 1000002
  | .num n, h => h
  | .nam x, _ => cell_bd hk x
  | .bin .sum a b, _ => by simp only [Tm.wv]; omega
  | .bin .less a b, _ => by simp only [Tm.wv]; omega
  | .bin .times a b, _ => by simp only [Tm.wv]; omega
theorem bd_mul {i j : Int} (h : 0 ≤ i ∧ i ≤ 1000002) : mulOk i j = true := mulOk_l (by have : (2 : Nat) ^ 64 = 18446744073709551616 := by decide
                                                                                       omega)
theorem worth_spec (h2 : F 2 = some f2) {kvs : List (Str × T)} (hk : CellsOk kvs) : ∀ (t : Tm) (n : Nat), t.deep < n → t.nok → callN F n 2 [.val t.enc, .io (.dct kvs)] = .ok (.val (.int (t.wv kvs)), [.val t.enc, .io (.dct kvs)])
  | .num k, n + 1, hn, hs => by
    have e1 : atI [T.str "num", T.int k] 1 = some (T.int k) := rfl
    simp [callN, runFn, initE, Option.map_some, List.cons_append, List.nil_append, List.length_cons, List.length_nil, Nat.reduceAdd, Nat.reduceSub, List.replicate, evSs, evS, evT, evE, evEs, evAs, evI, evO, Res.bind_ok, Bool.false_eq_true, if_false, if_true, setR, get_zero, get_succ, put_zero, put_succ, frz, wb, setM, asT, retR, outs, Res.of_some, isUn, dctAt, lstAt, cmpT, idxT, biT, Nat.zero_le, Option.map_none, Option.map_some, bindT, bindAll, walkOf, lock, unlock, Walk.still, Nat.lt_irrefl, Sf.binT, h2, f2, c2, Tm.enc, e1, Tm.wv]
  | .nam k, n + 1, hn, hs => by
    have e1 : atI [T.str "name", T.str k] 1 = some (T.str k) := rfl
    simp [callN, runFn, initE, Option.map_some, List.cons_append, List.nil_append, List.length_cons, List.length_nil, Nat.reduceAdd, Nat.reduceSub, List.replicate, evSs, evS, evT, evE, evEs, evAs, evI, evO, Res.bind_ok, Bool.false_eq_true, if_false, if_true, setR, get_zero, get_succ, put_zero, put_succ, frz, wb, setM, asT, retR, outs, Res.of_some, isUn, dctAt, lstAt, cmpT, idxT, biT, Nat.zero_le, Option.map_none, Option.map_some, bindT, bindAll, walkOf, lock, unlock, Walk.still, Nat.lt_irrefl, Sf.binT, h2, f2, c2, Tm.enc, e1, Tm.wv, cell_get hk]
  | .bin o a b, n + 1, hn, hs => by
    simp only [Tm.deep] at hn
    have ia := worth_spec h2 hk a n (by omega) hs.1
    have ib := worth_spec h2 hk b n (by omega) hs.2
    have e1 : atI [T.str o.w, a.enc, b.enc] 1 = some a.enc := rfl
    have e2 : atI [T.str o.w, a.enc, b.enc] 2 = some b.enc := rfl
    have em : mulOk (a.wv kvs) (b.wv kvs) = true := bd_mul (wv_bd hk hs.1)
    cases o <;> simp [callN, runFn, initE, Option.map_some, List.cons_append, List.nil_append, List.length_cons, List.length_nil, Nat.reduceAdd, Nat.reduceSub, List.replicate, evSs, evS, evT, evE, evEs, evAs, evI, evO, Res.bind_ok, Bool.false_eq_true, if_false, if_true, setR, get_zero, get_succ, put_zero, put_succ, frz, wb, setM, asT, retR, outs, Res.of_some, isUn, dctAt, lstAt, cmpT, idxT, biT, Nat.zero_le, Option.map_none, Option.map_some, bindT, bindAll, walkOf, lock, unlock, Walk.still, Nat.lt_irrefl, Sf.binT, h2, f2, c2, Tm.enc, O3.w, e1, e2, ia, ib, Tm.wv, em] <;> simp [O3.w] at e1 e2 <;> simp [e1, e2, ia, ib, callN, runFn, initE, Option.map_some, List.cons_append, List.nil_append, List.length_cons, List.length_nil, Nat.reduceAdd, Nat.reduceSub, List.replicate, evSs, evS, evT, evE, evEs, evAs, evI, evO, Res.bind_ok, Bool.false_eq_true, if_false, if_true, setR, get_zero, get_succ, put_zero, put_succ, frz, wb, setM, asT, retR, outs, Res.of_some, isUn, dctAt, lstAt, cmpT, idxT, biT, Nat.zero_le, Option.map_none, Option.map_some, bindT, bindAll, walkOf, lock, unlock, Walk.still, Nat.lt_irrefl, Sf.binT, em]

/-! ### the law's own -/
theorem lworth_spec (h8 : F 8 = some f8) {kvs : List (Str × T)} (hk : CellsOk kvs) : ∀ (t : Tm) (n : Nat), t.deep < n → t.nok → callN F n 8 [.val t.enc, .io (.dct kvs)] = .ok (.val (.int (t.wv kvs)), [.val t.enc, .io (.dct kvs)])
  | .num k, n + 1, hn, hs => by
    have e1 : L2.atI [T.str "num", T.int k] 1 = some (T.int k) := rfl
    simp [callN, runFn, initE, Option.map_some, List.cons_append, List.nil_append, List.length_cons, List.length_nil, Nat.reduceAdd, Nat.reduceSub, List.replicate, evSs, evS, evT, evE, evEs, evAs, evI, evO, Res.bind_ok, Bool.false_eq_true, if_false, if_true, setR, get_zero, get_succ, put_zero, put_succ, frz, wb, setM, asT, retR, outs, Res.of_some, isUn, dctAt, lstAt, cmpT, idxT, biT, Nat.zero_le, Option.map_none, Option.map_some, bindT, bindAll, walkOf, lock, unlock, Walk.still, Nat.lt_irrefl, Sf.binT, h8, f8, c8, Tm.enc, e1, Tm.wv]
  | .nam k, n + 1, hn, hs => by
    have e1 : L2.atI [T.str "name", T.str k] 1 = some (T.str k) := rfl
    simp [callN, runFn, initE, Option.map_some, List.cons_append, List.nil_append, List.length_cons, List.length_nil, Nat.reduceAdd, Nat.reduceSub, List.replicate, evSs, evS, evT, evE, evEs, evAs, evI, evO, Res.bind_ok, Bool.false_eq_true, if_false, if_true, setR, get_zero, get_succ, put_zero, put_succ, frz, wb, setM, asT, retR, outs, Res.of_some, isUn, dctAt, lstAt, cmpT, idxT, biT, Nat.zero_le, Option.map_none, Option.map_some, bindT, bindAll, walkOf, lock, unlock, Walk.still, Nat.lt_irrefl, Sf.binT, h8, f8, c8, Tm.enc, e1, Tm.wv, cell_get hk]
  | .bin o a b, n + 1, hn, hs => by
    simp only [Tm.deep] at hn
    have ia := lworth_spec h8 hk a n (by omega) hs.1
    have ib := lworth_spec h8 hk b n (by omega) hs.2
    have e1 : L2.atI [T.str o.w, a.enc, b.enc] 1 = some a.enc := rfl
    have e2 : L2.atI [T.str o.w, a.enc, b.enc] 2 = some b.enc := rfl
    have em : mulOk (a.wv kvs) (b.wv kvs) = true := bd_mul (wv_bd hk hs.1)
    cases o <;> simp [O3.w] at e1 e2 <;> simp [callN, runFn, initE, Option.map_some, List.cons_append, List.nil_append, List.length_cons, List.length_nil, Nat.reduceAdd, Nat.reduceSub, List.replicate, evSs, evS, evT, evE, evEs, evAs, evI, evO, Res.bind_ok, Bool.false_eq_true, if_false, if_true, setR, get_zero, get_succ, put_zero, put_succ, frz, wb, setM, asT, retR, outs, Res.of_some, isUn, dctAt, lstAt, cmpT, idxT, biT, Nat.zero_le, Option.map_none, Option.map_some, bindT, bindAll, walkOf, lock, unlock, Walk.still, Nat.lt_irrefl, Sf.binT, h8, f8, c8, Tm.enc, O3.w, e1, e2, ia, ib, Tm.wv, em] <;> rfl
def Tm.ln : Tm → List Str
  | .num _ => []
  | .nam x => [x]
  | .bin _ a b => a.ln ++ b.ln
theorem ln_len : ∀ t : Tm, t.ln.length ≤ t.size
  | .num _ => by simp [Tm.ln, Tm.size]
  | .nam _ => by simp [Tm.ln, Tm.size]
  | .bin _ a b => by
    have h1 := ln_len a
    have h2 := ln_len b
    simp only [Tm.ln, Tm.size, List.length_append]
    omega
theorem lnames_spec (h7 : F 7 = some f7) : ∀ (t : Tm) (n : Nat), t.deep < n → t.size < lim → callN F n 7 [.val t.enc] = .ok (.own (.lst (t.ln.map T.str)), [.val t.enc])
  | .num k, n + 1, hn, hs => by
    simp [callN, runFn, initE, Option.map_some, List.cons_append, List.nil_append, List.length_cons, List.length_nil, Nat.reduceAdd, Nat.reduceSub, List.replicate, evSs, evS, evT, evE, evEs, evAs, evI, evO, Res.bind_ok, Bool.false_eq_true, if_false, if_true, setR, get_zero, get_succ, put_zero, put_succ, frz, wb, setM, asT, retR, outs, Res.of_some, isUn, dctAt, lstAt, cmpT, idxT, biT, Nat.zero_le, Option.map_none, Option.map_some, bindT, bindAll, walkOf, lock, unlock, Walk.still, Nat.lt_irrefl, Sf.binT, h7, f7, c7, Tm.enc, Tm.ln]
  | .nam k, n + 1, hn, hs => by
    have e1 : L2.atI [T.str "name", T.str k] 1 = some (T.str k) := rfl
    simp [callN, runFn, initE, Option.map_some, List.cons_append, List.nil_append, List.length_cons, List.length_nil, Nat.reduceAdd, Nat.reduceSub, List.replicate, evSs, evS, evT, evE, evEs, evAs, evI, evO, Res.bind_ok, Bool.false_eq_true, if_false, if_true, setR, get_zero, get_succ, put_zero, put_succ, frz, wb, setM, asT, retR, outs, Res.of_some, isUn, dctAt, lstAt, cmpT, idxT, biT, Nat.zero_le, Option.map_none, Option.map_some, bindT, bindAll, walkOf, lock, unlock, Walk.still, Nat.lt_irrefl, Sf.binT, h7, f7, c7, Tm.enc, e1, Tm.ln, lim]
  | .bin o a b, n + 1, hn, hs => by
    simp only [Tm.deep] at hn
    simp only [Tm.size] at hs
    have ia := lnames_spec h7 a n (by omega) (by omega)
    have ib := lnames_spec h7 b n (by omega) (by omega)
    have la := ln_len a
    have lb := ln_len b
    have e1 : L2.atI [T.str o.w, a.enc, b.enc] 1 = some a.enc := rfl
    have e2 : L2.atI [T.str o.w, a.enc, b.enc] 2 = some b.enc := rfl
    have el : a.ln.length + b.ln.length ≤ lim := by omega
    cases o <;> simp [O3.w] at e1 e2 <;> simp [callN, runFn, initE, Option.map_some, List.cons_append, List.nil_append, List.length_cons, List.length_nil, Nat.reduceAdd, Nat.reduceSub, List.replicate, evSs, evS, evT, evE, evEs, evAs, evI, evO, Res.bind_ok, Bool.false_eq_true, if_false, if_true, setR, get_zero, get_succ, put_zero, put_succ, frz, wb, setM, asT, retR, outs, Res.of_some, isUn, dctAt, lstAt, cmpT, idxT, biT, Nat.zero_le, Option.map_none, Option.map_some, bindT, bindAll, walkOf, lock, unlock, Walk.still, Nat.lt_irrefl, Sf.binT, h7, f7, c7, Tm.enc, O3.w, e1, e2, ia, ib, Tm.ln, el]
def onceA (fs : List Str) : List Str → List Str
  | [] => fs
  | y :: ys => if y ∈ fs then onceA fs ys else onceA (fs ++ [y]) ys
theorem onceA_app (fs l m : List Str) : onceA fs (l ++ m) = onceA (onceA fs l) m := by
  induction l generalizing fs with
  | nil => rfl
  | cons y l ih =>
    simp only [List.cons_append, onceA]
    split <;> exact ih _
theorem onceA_ns : ∀ (t : Tm) (fs : List Str), onceA fs t.ln = fs ++ t.ns.filter fun x => decide (x ∉ fs)
  | .num _, fs => by simp [Tm.ln, Tm.ns, onceA]
  | .nam x, fs => by
    by_cases h : x ∈ fs <;> simp [Tm.ln, Tm.ns, onceA, h]
  | .bin _ a b, fs => by
    rw [Tm.ln, onceA_app, onceA_ns a, onceA_ns b, Tm.ns, List.filter_append, List.append_assoc, List.filter_filter]
    congr 2
    refine List.filter_congr fun x _ => ?_
    by_cases h1 : x ∈ fs <;> by_cases h2 : x ∈ a.ns <;> simp [h1, h2]
theorem onceA_len (fs l : List Str) : (onceA fs l).length ≤ fs.length + l.length := by
  induction l generalizing fs with
  | nil => simp [onceA]
  | cons y l ih =>
    simp only [onceA, List.length_cons]
    split
    · have := ih fs; omega
    · have := ih (fs ++ [y]); simp only [List.length_append, List.length_singleton] at this; omega
def bOnce : Ss := .cons (.ite (.cmp .notin (.nm 2) (.nm 1)) (.cons (.app 1 (.nm 2)) .nil) .nil) .nil
theorem c10_eq : c10 = .cons (.set 1 (.lst .nil)) (.cons (.loop [2] (.seq (.nm 0)) bOnce) (.cons (.ret (.nm 1)) .nil)) := rfl
theorem once_loop {call : Call} {a : T} {w : Walk} (hw : w.guard = none) : ∀ (ys fs : List Str) (s2 : Slot), (s2 = .un ∨ ∃ t, s2 = .val t) → fs.length + ys.length < lim →
    ∃ s3, loopS w (fun t e => (bindT [2] t e).bind fun e => evSs call bOnce e) (ys.map T.str) [.val a, .own (.lst (fs.map T.str)), s2] = .ok (.nx [.val a, .own (.lst ((onceA fs ys).map T.str)), s3])
  | [], fs, s2, _, _ => ⟨s2, by simp [loopS, Walk.still, hw, onceA]⟩
  | y :: ys, fs, s2, h2, hl => by
    simp only [List.length_cons] at hl
    by_cases hy : y ∈ fs
    · obtain ⟨s3, e⟩ := once_loop (call := call) (a := a) hw ys fs (.val (.str y)) (.inr ⟨_, rfl⟩) (by omega)
      refine ⟨s3, ?_⟩
      have e1 : ((bindT [2] (T.str y) [.val a, .own (.lst (fs.map T.str)), s2]).bind fun e => evSs call bOnce e) = .ok (.nx [.val a, .own (.lst (fs.map T.str)), .val (.str y)]) := by
        rcases h2 with rfl | ⟨t, rfl⟩ <;> simp [callN, runFn, initE, Option.map_some, List.cons_append, List.nil_append, List.length_cons, List.length_nil, Nat.reduceAdd, Nat.reduceSub, List.replicate, evSs, evS, evT, evE, evEs, evAs, evI, evO, Res.bind_ok, Bool.false_eq_true, if_false, if_true, setR, get_zero, get_succ, put_zero, put_succ, frz, wb, setM, asT, retR, outs, Res.of_some, isUn, dctAt, lstAt, cmpT, idxT, biT, Nat.zero_le, Option.map_none, Option.map_some, bindT, bindAll, walkOf, lock, unlock, Walk.still, Nat.lt_irrefl, Sf.binT, bOnce, hy]
      simp only [List.map_cons, loopS, Walk.still, hw, if_true, e1, Res.bind_ok, onceA, if_pos hy]
      exact e
    · obtain ⟨s3, e⟩ := once_loop (call := call) (a := a) hw ys (fs ++ [y]) (.val (.str y)) (.inr ⟨_, rfl⟩) (by simp only [List.length_append, List.length_singleton]; omega)
      refine ⟨s3, ?_⟩
      have hz : fs.length < lim := by omega
      have e1 : ((bindT [2] (T.str y) [.val a, .own (.lst (fs.map T.str)), s2]).bind fun e => evSs call bOnce e) = .ok (.nx [.val a, .own (.lst ((fs ++ [y]).map T.str)), .val (.str y)]) := by
        rcases h2 with rfl | ⟨t, rfl⟩ <;> simp [callN, runFn, initE, Option.map_some, List.cons_append, List.nil_append, List.length_cons, List.length_nil, Nat.reduceAdd, Nat.reduceSub, List.replicate, evSs, evS, evT, evE, evEs, evAs, evI, evO, Res.bind_ok, Bool.false_eq_true, if_false, if_true, setR, get_zero, get_succ, put_zero, put_succ, frz, wb, setM, asT, retR, outs, Res.of_some, isUn, dctAt, lstAt, cmpT, idxT, biT, Nat.zero_le, Option.map_none, Option.map_some, bindT, bindAll, walkOf, lock, unlock, Walk.still, Nat.lt_irrefl, Sf.binT, bOnce, hy, hz]
      simp only [List.map_cons, loopS, Walk.still, hw, if_true, e1, Res.bind_ok, onceA, if_neg hy]
      exact e
theorem once_spec (h10 : F 10 = some f10) (ys : List Str) (n : Nat) (hl : ys.length < lim) : callN F (n + 1) 10 [.val (.lst (ys.map T.str))] = .ok (.own (.lst ((onceA [] ys).map T.str)), [.val (.lst (ys.map T.str))]) := by
  obtain ⟨s3, e⟩ := once_loop (call := callN F n) (a := .lst (ys.map T.str)) (w := ⟨ys.map T.str, none⟩) rfl ys [] .un (.inl rfl) (by simpa using hl)
  simp only [List.map_nil] at e
  simp [callN, runFn, initE, Option.map_some, List.cons_append, List.nil_append, List.length_cons, List.length_nil, Nat.reduceAdd, Nat.reduceSub, List.replicate, evSs, evS, evT, evE, evEs, evAs, evI, evO, Res.bind_ok, Bool.false_eq_true, if_false, if_true, setR, get_zero, get_succ, put_zero, put_succ, frz, wb, setM, asT, retR, outs, Res.of_some, isUn, dctAt, lstAt, cmpT, idxT, biT, Nat.zero_le, Option.map_none, Option.map_some, walkOf, lock, unlock, Walk.still, Nat.lt_irrefl, Sf.binT, h10, f10, c10_eq, e]
theorem numbers_spec (h9 : F 9 = some f9) (i : Int) (n : Nat) : callN F (n + 1) 9 [.val (.lst [.int i])] = .ok (.val (.bl true), [.val (.lst [.int i])]) := by
  simp [callN, runFn, initE, Option.map_some, List.cons_append, List.nil_append, List.length_cons, List.length_nil, Nat.reduceAdd, Nat.reduceSub, List.replicate, evSs, evS, evT, evE, evEs, evAs, evI, evO, Res.bind_ok, Bool.false_eq_true, if_false, if_true, setR, get_zero, get_succ, put_zero, put_succ, frz, wb, setM, asT, retR, outs, Res.of_some, isUn, dctAt, lstAt, cmpT, idxT, biT, Nat.zero_le, Option.map_none, Option.map_some, bindT, bindAll, walkOf, lock, unlock, Walk.still, Nat.lt_irrefl, Sf.binT, h9, f9, c9, isTy, truT, loopS]
end SfH

namespace SfH
open PySem Sf
variable {F : Nat → Option Fn}
theorem ns_ok : ∀ {t : Tm}, t.nok → ∀ x ∈ t.ns, okS x = true
  | .num _, _, x, h => by simp [Tm.ns] at h
  | .nam y, hk, x, h => by
    simp only [Tm.ns, List.mem_singleton] at h
    rw [h]; exact hk
  | .bin _ a b, hk, x, h => by
    simp only [Tm.ns, List.mem_append, List.mem_filter] at h
    rcases h with h | ⟨h, _⟩
    · exact ns_ok hk.1 x h
    · exact ns_ok hk.2 x h
theorem once_ns (t : Tm) : onceA [] t.ln = t.ns := by rw [onceA_ns]; simp
def bTold : Ss := .cons (.ite (.nots (.isin (.nm 4) .str)) (.cons (.ret (.lit (.bl false))) .nil) .nil) .nil
theorem c11_eq : c11 = .cons (.set 2 (.call 1 (.val (.nm 0) .nil)))
  (.cons (.set 3 (.call 2 (.val (.nm 0) (.io 1 .nil))))
  (.cons (.ite (.or (.nots (.isin (.nm 2) .list)) (.or (.cmp .ne (.nm 2) (.call 10 (.val (.call 7 (.val (.nm 0) .nil)) .nil))) (.nots (.call 9 (.val (.lst (.cons (.nm 3) .nil)) .nil))))) (.cons (.ret (.lit (.bl false))) .nil) .nil)
  (.cons (.loop [4] (.seq (.nm 2)) bTold)
  (.cons (.app 2 (.lit (.str "more")))
  (.cons (.ret (.and (.cmp .eq (.nm 3) (.call 8 (.val (.nm 0) (.io 1 .nil)))) (.cmp .eq (.call 1 (.val (.nm 0) .nil)) (.call 10 (.val (.call 7 (.val (.nm 0) .nil)) .nil)))))
  .nil))))) := rfl
theorem told_loop {call : Call} {a v : T} {d : M} {xs : List T} {w : Walk} (hw : w.guard = some (2, xs)) : ∀ (ys : List Str) (s4 : Slot), (s4 = .un ∨ ∃ t, s4 = .val t) →
    ∃ s5, loopS w (fun t e => (bindT [4] t e).bind fun e => evSs call bTold e) (ys.map T.str) [.val a, .bor d, .bor (.lst xs), .val v, s4] = .ok (.nx [.val a, .bor d, .bor (.lst xs), .val v, s5])
  | [], s4, _ => ⟨s4, by simp [loopS, Walk.still, hw]⟩
  | y :: ys, s4, h4 => by
    obtain ⟨s5, e⟩ := told_loop (call := call) (a := a) (v := v) (d := d) hw ys (.val (.str y)) (.inr ⟨_, rfl⟩)
    refine ⟨s5, ?_⟩
    have e1 : ((bindT [4] (T.str y) [.val a, .bor d, .bor (.lst xs), .val v, s4]).bind fun e => evSs call bTold e) = .ok (.nx [.val a, .bor d, .bor (.lst xs), .val v, .val (.str y)]) := by
      rcases h4 with rfl | ⟨t, rfl⟩ <;> simp [callN, runFn, initE, Option.map_some, List.cons_append, List.nil_append, List.length_cons, List.length_nil, Nat.reduceAdd, Nat.reduceSub, List.replicate, evSs, evS, evT, evE, evEs, evAs, evI, evO, Res.bind_ok, Bool.false_eq_true, if_false, if_true, setR, get_zero, get_succ, put_zero, put_succ, frz, wb, setM, asT, retR, outs, Res.of_some, isUn, dctAt, lstAt, cmpT, idxT, biT, Nat.zero_le, Option.map_none, Option.map_some, bindT, bindAll, walkOf, lock, unlock, Walk.still, Nat.lt_irrefl, Sf.binT, bTold, isTy]
    have st : w.still [.val a, .bor d, .bor (.lst xs), .val v, s4] = true := by simp [Walk.still, hw]
    simp only [List.map_cons, loopS, st, if_true, e1, Res.bind_ok]
    exact e
theorem told_spec (h0 : F 0 = some f0) (h1 : F 1 = some f1) (h2 : F 2 = some f2) (h7 : F 7 = some f7) (h8 : F 8 = some f8) (h9 : F 9 = some f9) (h10 : F 10 = some f10) (h11 : F 11 = some f11) {kvs : List (Str × T)} (hk : CellsOk kvs) (t : Tm) (n : Nat) (hn : t.deep + 2 < n) (hs : t.size < lim) (ht : t.nok) :
    callN F (n + 1) 11 [.val t.enc, .io (.dct kvs)] = .ok (.val (.bl true), [.val t.enc, .io (.dct kvs)]) := by
  have e1 := names_spec h0 h1 t n (by omega) hs
  have e2 := worth_spec h2 hk t n (by omega) ht
  have e7 := lnames_spec h7 t n (by omega) hs
  have e8 := lworth_spec h8 hk t n (by omega) ht
  obtain ⟨m, rfl⟩ : ∃ m, n = m + 1 := ⟨n - 1, by omega⟩
  have e9 := numbers_spec h9 (t.wv kvs) m
  have e10 := once_spec h10 t.ln m (Nat.lt_of_le_of_lt (ln_len t) hs)
  rw [once_ns] at e10
  have eq := eqT_strs (xs := t.ns) (ys := t.ns) (ns_ok ht) (ns_ok ht)
  have hl : t.ns.length < lim := Nat.lt_of_le_of_lt (ns_len t) hs
  obtain ⟨s5, el⟩ := told_loop (call := callN F (m + 1)) (a := t.enc) (v := .int (t.wv kvs)) (d := .dct kvs) (xs := t.ns.map T.str) (w := ⟨t.ns.map T.str, some (2, t.ns.map T.str)⟩) rfl t.ns .un (.inl rfl)
  generalize hm : m + 1 = n' at *
  simp [callN, runFn, initE, Option.map_some, List.cons_append, List.nil_append, List.length_cons, List.length_nil, Nat.reduceAdd, Nat.reduceSub, List.replicate, evSs, evS, evT, evE, evEs, evAs, evI, evO, Res.bind_ok, Bool.false_eq_true, if_false, if_true, setR, get_zero, get_succ, put_zero, put_succ, frz, wb, setM, asT, retR, outs, Res.of_some, isUn, dctAt, lstAt, cmpT, idxT, biT, Nat.zero_le, Option.map_none, Option.map_some, walkOf, lock, unlock, Walk.still, Nat.lt_irrefl, Sf.binT, h11, f11, c11_eq, e1, e2, e7, e8, e9, e10, eq, isTy, truT, hl, el]
end SfH

namespace SfH
open PySem Sf
variable {F : Nat → Option Fn}
def mk1 (x k : Int) : Int := (x % 2147483629 + 7919 * (k + 1)) * 48271 % 2147483647
def mk2 (x k : Int) : Int := mk1 x k * mk1 x k % 2147483629 * 69621 % 2147483647
def cellV (x k : Int) : Int := (x / 2147483629 * 2147483647 + mk2 x k) * 2147483629 + mk2 x k * mk2 x k % 2147483629
theorem mk1_ok (x k j : Int) : mulOk (mk1 x k) j = true := mk_mod (by decide)
theorem mk2_ok (x k j : Int) : mulOk (mk2 x k) j = true := mk_mod (by decide)
def celV (ns : List Int) (k : Nat) : Int := cellV ((ns[k]?).getD 0) k
def m1E : E := .bin .mod (.bin .mul (.bin .add (.bin .mod (.nm 2) (.lit (.int 2147483629))) (.bin .mul (.lit (.int 7919)) (.bin .add (.nm 1) (.lit (.int 1))))) (.lit (.int 48271))) (.lit (.int 2147483647))
def m2E : E := .bin .mod (.bin .mul (.bin .mod (.bin .mul (.nm 3) (.nm 3)) (.lit (.int 2147483629))) (.lit (.int 69621))) (.lit (.int 2147483647))
def m3E : E := .bin .add (.bin .mul (.bin .add (.bin .mul (.bin .fdiv (.nm 2) (.lit (.int 2147483629))) (.lit (.int 2147483647))) (.nm 3)) (.lit (.int 2147483629))) (.bin .mod (.bin .mul (.nm 3) (.nm 3)) (.lit (.int 2147483629)))
theorem cell_tail {call : Call} {a : T} {x k : Int} : evSs call (.cons (.set 3 m1E) (.cons (.set 3 m2E) (.cons (.ret m3E) .nil))) [.val a, .val (.int k), .val (.int x), .un] = .ok (.rt (.val (.int (cellV x k))) [.val a, .val (.int k), .val (.int x), .val (.int (mk2 x k))]) := by
  have e1 : EvI call [.val a, .val (.int k), .val (.int x), .un] m1E (mk1 x k) :=
    ei_mod (ei_mul (ei_add (ei_mod (ei_nm rfl) ei_lit (by decide)) (ei_mul ei_lit (ei_add (ei_nm rfl) ei_lit) (mk_l (by decide)))) ei_lit (mk_r (by decide))) ei_lit (by decide)
  rw [ss_nx (st_set e1 (by intro o; simp))]
  show evSs call _ [.val a, .val (.int k), .val (.int x), .val (.int (mk1 x k))] = _
  have e2 : EvI call [.val a, .val (.int k), .val (.int x), .val (.int (mk1 x k))] m2E (mk2 x k) :=
    ei_mod (ei_mul (ei_mod (ei_mul (ei_nm rfl) (ei_nm rfl) (mk1_ok x k _)) ei_lit (by decide)) ei_lit (mk_r (by decide))) ei_lit (by decide)
  rw [ss_nx (st_set e2 (by intro o; simp))]
  show evSs call _ [.val a, .val (.int k), .val (.int x), .val (.int (mk2 x k))] = _
  have e3 : EvI call [.val a, .val (.int k), .val (.int x), .val (.int (mk2 x k))] m3E (cellV x k) :=
    ei_add (ei_mul (ei_add (ei_mul (ei_div (ei_nm rfl) ei_lit (by decide)) ei_lit (mk_r (by decide))) (ei_nm rfl)) ei_lit (mk_r (by decide))) (ei_mod (ei_mul (ei_nm rfl) (ei_nm rfl) (mk2_ok x k _)) ei_lit (by decide))
  exact ss_rt (st_rv e3)
theorem c3_eq : c3 = .cons (.set 2 (.ife (.cmp .lt (.nm 1) (.bi .len (.nm 0))) (.idx (.nm 0) (.nm 1)) (.lit (.int 0)))) (.cons (.set 3 m1E) (.cons (.set 3 m2E) (.cons (.ret m3E) .nil))) := rfl
theorem cell_spec (h3 : F 3 = some f3) (ns : List Int) (k : Nat) (n : Nat) : callN F (n + 1) 3 [.val (.ro (ns.map T.int)), .val (.int k)] = .ok (.val (.int (celV ns k)), [.val (.ro (ns.map T.int)), .val (.int k)]) := by
  have e0 : evS (callN F n) (.set 2 (.ife (.cmp .lt (.nm 1) (.bi .len (.nm 0))) (.idx (.nm 0) (.nm 1)) (.lit (.int 0)))) [.val (.ro (ns.map T.int)), .val (.int k), .un, .un] = .ok (.nx [.val (.ro (ns.map T.int)), .val (.int k), .val (.int ((ns[k]?).getD 0)), .un]) := by
    by_cases hk : k < ns.length
    · have e1 : L2.atI (ns.map T.int) (k : Int) = some (.int ns[k]) := by
        rw [atI_nat _ _ (by simpa using hk)]
        simp [hk]
      have e2 : (k : Int) < (ns.length : Int) := by omega
      simp [callN, runFn, initE, Option.map_some, List.cons_append, List.nil_append, List.length_cons, List.length_nil, Nat.reduceAdd, Nat.reduceSub, List.replicate, evSs, evS, evT, evE, evEs, evAs, evI, evO, Res.bind_ok, Bool.false_eq_true, if_false, if_true, setR, get_zero, get_succ, put_zero, put_succ, frz, wb, setM, asT, retR, outs, Res.of_some, isUn, dctAt, lstAt, cmpT, idxT, biT, Nat.zero_le, Option.map_none, Option.map_some, bindT, bindAll, walkOf, lock, unlock, Walk.still, Nat.lt_irrefl, Sf.binT, e1, e2, hk]
    · have e2 : ¬ (k : Int) < (ns.length : Int) := by omega
      have e3 : ns[k]? = none := List.getElem?_eq_none (by omega)
      simp [callN, runFn, initE, Option.map_some, List.cons_append, List.nil_append, List.length_cons, List.length_nil, Nat.reduceAdd, Nat.reduceSub, List.replicate, evSs, evS, evT, evE, evEs, evAs, evI, evO, Res.bind_ok, Bool.false_eq_true, if_false, if_true, setR, get_zero, get_succ, put_zero, put_succ, frz, wb, setM, asT, retR, outs, Res.of_some, isUn, dctAt, lstAt, cmpT, idxT, biT, Nat.zero_le, Option.map_none, Option.map_some, bindT, bindAll, walkOf, lock, unlock, Walk.still, Nat.lt_irrefl, Sf.binT, e2, e3]
  have e : evSs (callN F n) c3 [.val (.ro (ns.map T.int)), .val (.int k), .un, .un] = .ok (.rt (.val (.int (celV ns k))) [.val (.ro (ns.map T.int)), .val (.int k), .val (.int ((ns[k]?).getD 0)), .val (.int (mk2 ((ns[k]?).getD 0) k))]) := by
    rw [c3_eq, ss_nx e0]
    exact cell_tail
  rw [run_of h3]
  simp only [runFn, initE, Option.map_some, f3, List.length_cons, List.length_nil, Nat.reduceAdd, Nat.reduceSub, List.replicate, List.cons_append, List.nil_append, e, Res.bind_ok, outs]
def mixV (c k : Int) : Int := (c * 48271 + (k + 1) * 1299721) % 2147483647 * ((c * 48271 + (k + 1) * 1299721) % 2147483647 / 7 % 65536 + 3) % 2147483647
theorem mix_bd (c k : Int) : 0 ≤ mixV c k := by unfold mixV; omega
def x1E : E := .bin .mod (.bin .add (.bin .mul (.nm 0) (.lit (.int 48271))) (.bin .mul (.bin .add (.nm 1) (.lit (.int 1))) (.lit (.int 1299721)))) (.lit (.int 2147483647))
def x2E : E := .bin .mod (.bin .mul (.nm 2) (.bin .add (.bin .mod (.bin .fdiv (.nm 2) (.lit (.int 7))) (.lit (.int 65536))) (.lit (.int 3)))) (.lit (.int 2147483647))
theorem c4_eq : c4 = .cons (.set 2 x1E) (.cons (.ret x2E) .nil) := rfl
theorem mixed_spec (h4 : F 4 = some f4) (c k : Int) (n : Nat) : callN F (n + 1) 4 [.val (.int c), .val (.int k)] = .ok (.val (.int (mixV c k)), [.val (.int c), .val (.int k)]) := by
  have e : evSs (callN F n) c4 [.val (.int c), .val (.int k), .un] = .ok (.rt (.val (.int (mixV c k))) [.val (.int c), .val (.int k), .val (.int ((c * 48271 + (k + 1) * 1299721) % 2147483647))]) := by
    have e1 : EvI (callN F n) [.val (.int c), .val (.int k), .un] x1E ((c * 48271 + (k + 1) * 1299721) % 2147483647) :=
      ei_mod (ei_add (ei_mul (ei_nm rfl) ei_lit (mk_r (by decide))) (ei_mul (ei_add (ei_nm rfl) ei_lit) ei_lit (mk_r (by decide)))) ei_lit (by decide)
    rw [c4_eq, ss_nx (st_set e1 (by intro o; simp))]
    have e2 : EvI (callN F n) [.val (.int c), .val (.int k), .val (.int ((c * 48271 + (k + 1) * 1299721) % 2147483647))] x2E (mixV c k) :=
      ei_mod (ei_mul (ei_nm rfl) (ei_add (ei_mod (ei_div (ei_nm rfl) ei_lit (by decide)) ei_lit (by decide)) ei_lit) (mk_mod (by decide))) ei_lit (by decide)
    exact ss_rt (st_rv e2)
  rw [run_of h4]
  simp only [runFn, initE, Option.map_some, f4, List.length_cons, List.length_nil, Nat.reduceAdd, Nat.reduceSub, List.replicate, List.cons_append, List.nil_append, e, Res.bind_ok, outs]

/-! ### words -/
def ltrs : Str := "abcdefghijklmnopqrstuvwxyz"
theorem ltr_cps : ltrs.cps.toList = [97, 98, 99, 100, 101, 102, 103, 104, 105, 106, 107, 108, 109, 110, 111, 112, 113, 114, 115, 116, 117, 118, 119, 120, 121, 122] := by decide +kernel
theorem ltr_len : ltrs.length = 26 := by decide +kernel
def ltr (c : Int) : Nat := 97 + (c % 26).toNat
theorem ltr_at (c : Int) : L2.atI ltrs.cps.toList (c % 26) = some (ltr c) := by
  have h1 : 0 ≤ c % 26 := Int.emod_nonneg c (by decide)
  have h2 : c % 26 < 26 := Int.emod_lt_of_pos c (by decide)
  rw [atI_int _ _ h1 (by rw [ltr_cps]; simpa using h2), ltr_cps]
  unfold ltr
  obtain ⟨j, hj⟩ : ∃ j : Nat, (c % 26).toNat = j := ⟨_, rfl⟩
  have hj2 : j < 26 := by omega
  rw [hj]
  have all : ∀ j : Fin 26, ([97, 98, 99, 100, 101, 102, 103, 104, 105, 106, 107, 108, 109, 110, 111, 112, 113, 114, 115, 116, 117, 118, 119, 120, 121, 122] : List Nat)[j.val]? = some (97 + j.val) := by decide
  exact all ⟨j, hj2⟩
theorem ltr_ix (c : Int) : idxT (.str ltrs) (.int (c % 26)) = some (.str ⟨#[ltr c]⟩) := by
  simp only [idxT]
  rw [if_pos (by rw [ltr_len]; decide), ltr_at]
  rfl
/-- a word: some small letters -/
def Wd (m : Nat) (s : Str) : Prop := 1 ≤ s.length ∧ s.length ≤ m ∧ ∀ c ∈ s.cps.toList, 97 ≤ c ∧ c ≤ 122
theorem Wd.ok {m : Nat} {s : Str} (h : Wd m s) : okS s = true := by
  unfold okS
  simp only [List.all_eq_true, decide_eq_true_eq]
  intro c hc
  have := h.2.2 c hc
  omega
theorem ltr_bd (c : Int) : 97 ≤ ltr c ∧ ltr c ≤ 122 := by
  unfold ltr
  have h2 : c % 26 < 26 := Int.emod_lt_of_pos c (by decide)
  omega
def rep (ch : Nat) (j : Int) : Str := ⟨(List.replicate j.toNat [ch]).flatten.toArray⟩
theorem rep_mem {ch x : Nat} {n : Nat} (h : x ∈ (List.replicate n [ch]).flatten) : x = ch := by
  obtain ⟨l, h1, h2⟩ := List.mem_flatten.mp h
  rw [(List.mem_replicate.mp h1).2] at h2
  simpa using h2
theorem rep_len (ch : Nat) (j : Int) : (rep ch j).length = j.toNat := by
  unfold rep Str.length
  simp
theorem rep_wd (c : Int) {j : Int} {m : Nat} (h1 : 1 ≤ j) (h2 : j ≤ m) : Wd m (rep (ltr c) j) := by
  refine ⟨by rw [rep_len]; omega, by rw [rep_len]; omega, fun x hx => ?_⟩
  have : x ∈ (List.replicate j.toNat [ltr c]).flatten := by simpa [rep] using hx
  rw [rep_mem this]
  exact ltr_bd c
theorem mul_str (ch : Nat) {j : Int} (h1 : 1 ≤ j) (h2 : j ≤ 1000) : binT .mul (.str ⟨#[ch]⟩) (.int j) = some (.val (.str (rep ch j))) := by
  simp only [binT]
  rw [if_pos ⟨h1, h2, by unfold Str.length; simp⟩]
  rfl
theorem comp_range {w : Walk} {step : T → Ev → Res (Option T × Ev)} {env : Ev} {m : Int} (f : Nat → T) (hst : w.still env = true) (h : ∀ k : Nat, k < m.toNat → step (.int k) env = .ok (some (f k), env)) (hm : m.toNat < lim) :
    compLoop w step (rangeT 0 m) [] env = .ok ((List.range m.toNat).map f, env) := by
  have e : rangeT 0 m = (List.range m.toNat).map fun k : Nat => T.int (k : Int) := by
    unfold rangeT
    rw [Int.sub_zero]
    refine List.map_congr_left fun k _ => by rw [Int.zero_add]
  rw [e, comp_inv (g := fun t => match t with
    | .int i => some (f i.toNat)
    | _ => none) hst]
  · rw [List.nil_append, List.filterMap_map]
    congr 2
    have : ((fun t => match t with
      | .int i => some (f i.toNat)
      | _ => none) ∘ fun k : Nat => T.int (k : Int)) = fun k => some (f k) := by
      funext k
      simp
    rw [this]
    rw [List.filterMap_eq_map']
  · intro t ht
    obtain ⟨k, hk, rfl⟩ := List.mem_map.mp ht
    simp [h k (List.mem_range.mp hk)]
  · simpa using hm
/-- base with one sign changed -/
def wd2 (c : Int) (k : Nat) : Str := L2.cutS (rep (ltr c) (1 + c / 26 % 8)) none (some (c / 208 % (1 + c / 26 % 8))) ++ ⟨#[ltr (c / 4992 + 5 * k)]⟩ ++ L2.cutS (rep (ltr c) (1 + c / 26 % 8)) (some (c / 208 % (1 + c / 26 % 8) + 1)) none
def wd1 (c : Int) (k : Nat) : Str := rep (ltr c) (1 + k)
theorem cut_mem {z : Str} {lo hi : Option Int} {x : Nat} (h : x ∈ (L2.cutS z lo hi).cps.toList) : x ∈ z.cps.toList := by
  unfold L2.cutS at h
  exact List.mem_of_mem_drop (List.mem_of_mem_take (by simpa using h))
theorem cut_len {z : Str} {lo hi : Option Int} : (L2.cutS z lo hi).length ≤ z.length := by
  unfold L2.cutS Str.length
  simp
  omega
theorem app_len (a b : Str) : (a ++ b).length = a.length + b.length := by
  show (Str.append a b).length = _
  unfold Str.append Str.length
  simp
theorem app_cps (a b : Str) : (a ++ b).cps.toList = a.cps.toList ++ b.cps.toList := by
  show (Str.append a b).cps.toList = _
  unfold Str.append
  simp
theorem wd2_wd (c : Int) (k : Nat) : Wd 24 (wd2 c k) := by
  have hb : 1 ≤ 1 + c / 26 % 8 ∧ 1 + c / 26 % 8 ≤ 8 := by omega
  have hl := rep_len (ltr c) (1 + c / 26 % 8)
  have c1 := cut_len (z := rep (ltr c) (1 + c / 26 % 8)) (lo := none) (hi := some (c / 208 % (1 + c / 26 % 8)))
  have c2 := cut_len (z := rep (ltr c) (1 + c / 26 % 8)) (lo := some (c / 208 % (1 + c / 26 % 8) + 1)) (hi := none)
  have one : (⟨#[ltr (c / 4992 + 5 * k)]⟩ : Str).length = 1 := rfl
  refine ⟨?_, ?_, fun x hx => ?_⟩
  · unfold wd2
    rw [app_len, app_len, one]
    omega
  · unfold wd2
    rw [app_len, app_len, one]
    omega
  · unfold wd2 at hx
    rw [app_cps, app_cps, List.mem_append, List.mem_append] at hx
    have big : ∀ x ∈ (rep (ltr c) (1 + c / 26 % 8)).cps.toList, 97 ≤ x ∧ x ≤ 122 := (rep_wd c (m := 8) hb.1 hb.2).2.2
    rcases hx with (hx | hx) | hx
    · exact big x (cut_mem hx)
    · have : x = ltr (c / 4992 + 5 * k) := by simpa using hx
      rw [this]
      exact ltr_bd _
    · exact big x (cut_mem hx)
def wdV (c : Int) (k : Nat) : Str := if c / 1664 % 3 = 1 then wd1 c k else wd2 c k
theorem wdV_wd (c : Int) {k : Nat} (h : k < 24) : Wd 24 (wdV c k) := by
  unfold wdV
  split
  · exact rep_wd c (by omega) (by omega)
  · exact wd2_wd c k
def wdsV (c m : Int) : List Str := (List.range m.toNat).map (wdV c)
def w1E : E := .bin .mul (.idx (.nm 2) (.bin .mod (.nm 0) (.lit (.int 26)))) (.bin .add (.lit (.int 1)) (.bin .mod (.bin .fdiv (.nm 0) (.lit (.int 26))) (.lit (.int 8))))
def w2E : E := .bin .mod (.bin .fdiv (.nm 0) (.lit (.int 208))) (.bi .len (.nm 3))
def w3E : E := .bin .mod (.bin .fdiv (.nm 0) (.lit (.int 1664))) (.lit (.int 3))
def w4E : E := .bin .mul (.idx (.nm 2) (.bin .mod (.nm 0) (.lit (.int 26)))) (.bin .add (.lit (.int 1)) (.nm 5))
def w5E : E := .bin .add (.bin .add (.slc (.nm 3) .none (.some (.nm 4))) (.idx (.nm 2) (.bin .mod (.bin .add (.bin .fdiv (.nm 0) (.lit (.int 4992))) (.bin .mul (.lit (.int 5)) (.nm 5))) (.lit (.int 26))))) (.slc (.nm 3) (.some (.bin .add (.nm 4) (.lit (.int 1)))) .none)
theorem c5_eq : c5 = .cons (.set 2 (.lit (.str "abcdefghijklmnopqrstuvwxyz"))) (.cons (.set 3 w1E) (.cons (.set 4 w2E)
  (.cons (.ite (.cmp .eq w3E (.lit (.int 1))) (.cons (.ret (.comp w4E [5] (.rng (.nm 1)) .none)) .nil) .nil) (.cons (.ret (.comp w5E [5] (.rng (.nm 1)) .none)) .nil)))) := rfl
section
variable {call : Call} {env : Ev}
theorem ev_ltr {c : Int} {a : E} (h2 : get env 2 = .val (.str ltrs)) (ha : EvI call env a (c % 26)) : evE call (.idx (.nm 2) a) env = .ok (.val (.str ⟨#[ltr c]⟩), env) := by
  unfold EvI at ha
  simp only [evE, h2, Res.bind_ok, ha, asT, Res.of_some, ltr_ix]
theorem ev_rep {c j : Int} {a b : E} (ha : evE call a env = .ok (.val (.str ⟨#[ltr c]⟩), env)) (hb : EvI call env b j) (h1 : 1 ≤ j) (h2 : j ≤ 1000) : evE call (.bin .mul a b) env = .ok (.val (.str (rep (ltr c) j)), env) := by
  unfold EvI at hb
  simp only [evE, ha, hb, Res.bind_ok, asT, Res.of_some, mul_str (ltr c) h1 h2]
theorem ev_len {z : Str} {i : Nat} (h : get env i = .val (.str z)) (hl : z.length ≤ lim) : EvI call env (.bi .len (.nm i)) z.length := by
  unfold EvI
  simp only [evE, h, Res.bind_ok, asT, Res.of_some, biT, hl, if_true]
theorem ev_cat {x y : Str} {a b : E} (ha : evE call a env = .ok (.val (.str x), env)) (hb : evE call b env = .ok (.val (.str y), env)) (hl : x.length + y.length ≤ lim) : evE call (.bin .add a b) env = .ok (.val (.str (x ++ y)), env) := by
  simp only [evE, ha, hb, Res.bind_ok, asT, Res.of_some, Sf.binT, hl, if_true]
theorem ev_slcS {z : Str} {i : Nat} {lo hi : Oe} {l h : Option Int} (hz : get env i = .val (.str z)) (h1 : evO call lo env = .ok (l, env)) (h2 : evO call hi env = .ok (h, env)) (hl : z.length ≤ lim) : evE call (.slc (.nm i) lo hi) env = .ok (.val (.str (L2.cutS z l h)), env) := by
  simp only [evE, hz, Res.bind_ok, asT, Res.of_some, h1, h2, slcT, hl, if_true]
theorem eo_none : evO call .none env = .ok (none, env) := by simp only [evO]
theorem eo_some {a : E} {i : Int} (h : EvI call env a i) : evO call (.some a) env = .ok (some i, env) := by
  unfold EvI at h
  simp only [evO, h, Res.bind_ok]
theorem et_eq {a b : E} {i j : Int} (ha : EvI call env a i) (hb : EvI call env b j) : evT call (.cmp .eq a b) env = .ok (decide (i = j), env) := by
  unfold EvI at ha hb
  simp only [evT, ha, hb, Res.bind_ok, asT, Res.of_some, cmpT, eqT_int]
/-- one-name comprehension over a range, no test, the block's slot the last -/
theorem ev_comp {elt : E} {k : Nat} {r : E} {m : Int} (f : Nat → T) (hr : EvI call env r m) (hk : get env k = .un) (hm0 : 0 ≤ m ∨ m ≤ 0) (hm : m.toNat < lim) (hs : small m = true)
    (h : ∀ j : Nat, j < m.toNat → evE call elt (put env k (.val (.int j))) = .ok (.val (f j), put env k (.val (.int j)))) : evE call (.comp elt [k] (.rng r) .none) env = .ok (.own (.lst ((List.range m.toNat).map f)), env) := by
  have pu : put env k .un = env := by
    by_cases hl : k < env.length
    · have : ∀ {e : Ev} {k : Nat}, get e k = .un → put e k .un = e := by
        intro e
        induction e with
        | nil => intro k _; rfl
        | cons s r ih =>
          intro k hk
          cases k with
          | zero => rw [put_zero, show s = .un from hk]
          | succ k => rw [put_succ, ih hk]
      exact this hk
    · induction env generalizing k with
      | nil => rfl
      | cons s r ih =>
        cases k with
        | zero => exact absurd (Nat.succ_pos _) hl
        | succ k =>
          have : put r k .un = r := by
            have : ∀ {e : Ev} {k : Nat}, get e k = .un → put e k .un = e := by
              intro e
              induction e with
              | nil => intro k _; rfl
              | cons s r ih =>
                intro k hk
                cases k with
                | zero => rw [put_zero, show s = .un from hk]
                | succ k => rw [put_succ, ih hk]
            exact this hk
          rw [put_succ, this]
  have pp : ∀ {e : Ev} {k : Nat} {s : Slot}, put (put e k s) k .un = put e k .un := by
    intro e
    induction e with
    | nil => intros; rfl
    | cons s r ih =>
      intro k t
      cases k with
      | zero => rfl
      | succ k => simp only [put_succ, ih]
  unfold EvI at hr
  simp only [evE, evI, hr, Res.bind_ok, hs, if_true, List.all_cons, List.all_nil, free1, hk, Bool.and_self, lock, wipeE, pu]
  rw [comp_range f (by rfl)]
  · simp only [Res.calm, Res.bind_ok, unlock, backE, hk, pu]
  · intro j hj
    simp only [bindT, bindAll, hk, Res.bind_ok, evC, if_true, h j hj, frz, wipeE, pp, pu]
  · exact hm
end
theorem words_spec (h5 : F 5 = some f5) (c m : Int) (h0 : 0 ≤ m) (hm : m ≤ 24) (n : Nat) : callN F (n + 1) 5 [.val (.int c), .val (.int m)] = .ok (.own (.lst ((wdsV c m).map T.str)), [.val (.int c), .val (.int m)]) := by
  have hb : 1 ≤ 1 + c / 26 % 8 ∧ 1 + c / 26 % 8 ≤ 8 := by omega
  have hl := rep_len (ltr c) (1 + c / 26 % 8)
  have elen : ((rep (ltr c) (1 + c / 26 % 8)).length : Int) = 1 + c / 26 % 8 := by rw [hl]; omega
  have llen : (rep (ltr c) (1 + c / 26 % 8)).length ≤ lim := by rw [hl]; unfold lim; omega
  have hs : small m = true := by
    unfold small
    simp
    omega
  have mt : m.toNat < lim := by unfold lim; omega
  generalize hcall : callN F n = call
  have e : ∃ env', evSs call c5 [.val (.int c), .val (.int m), .un, .un, .un, .un] = .ok (.rt (.own (.lst ((wdsV c m).map T.str))) env') ∧ get env' 0 = .val (.int c) ∧ get env' 1 = .val (.int m) := by
    rw [c5_eq, ss_nx (st_set (t := .str ltrs) (by simp only [evE]; rfl) (by intro o; simp))]
    show ∃ env', evSs call _ [.val (.int c), .val (.int m), .val (.str ltrs), .un, .un, .un] = _ ∧ _
    have q1 : evE call w1E [.val (.int c), .val (.int m), .val (.str ltrs), .un, .un, .un] = .ok (.val (.str (rep (ltr c) (1 + c / 26 % 8))), [.val (.int c), .val (.int m), .val (.str ltrs), .un, .un, .un]) :=
      ev_rep (ev_ltr rfl (ei_mod (ei_nm rfl) ei_lit (by decide))) (ei_add ei_lit (ei_mod (ei_div (ei_nm rfl) ei_lit (by decide)) ei_lit (by decide))) hb.1 (by omega)
    rw [ss_nx (st_set q1 (by intro o; simp))]
    show ∃ env', evSs call _ [.val (.int c), .val (.int m), .val (.str ltrs), .val (.str (rep (ltr c) (1 + c / 26 % 8))), .un, .un] = _ ∧ _
    have q2 : EvI call [.val (.int c), .val (.int m), .val (.str ltrs), .val (.str (rep (ltr c) (1 + c / 26 % 8))), .un, .un] w2E (c / 208 % (rep (ltr c) (1 + c / 26 % 8)).length) :=
      ei_mod (ei_div (ei_nm rfl) ei_lit (by decide)) (ev_len rfl llen) (by omega)
    rw [elen] at q2
    rw [ss_nx (st_set q2 (by intro o; simp))]
    show ∃ env', evSs call _ [.val (.int c), .val (.int m), .val (.str ltrs), .val (.str (rep (ltr c) (1 + c / 26 % 8))), .val (.int (c / 208 % (1 + c / 26 % 8))), .un] = _ ∧ _
    have q3 : EvI call [.val (.int c), .val (.int m), .val (.str ltrs), .val (.str (rep (ltr c) (1 + c / 26 % 8))), .val (.int (c / 208 % (1 + c / 26 % 8))), .un] w3E (c / 1664 % 3) := ei_mod (ei_div (ei_nm rfl) ei_lit (by decide)) ei_lit (by decide)
    have q4 := st_ite (x := .cons (.ret (.comp w4E [5] (.rng (.nm 1)) .none)) .nil) (y := .nil) (et_eq q3 (ei_lit (i := 1)))
    by_cases hc : c / 1664 % 3 = 1
    · rw [decide_eq_true hc, if_pos rfl] at q4
      have q5 := ev_comp (call := call) (env := [.val (.int c), .val (.int m), .val (.str ltrs), .val (.str (rep (ltr c) (1 + c / 26 % 8))), .val (.int (c / 208 % (1 + c / 26 % 8))), .un]) (elt := w4E) (k := 5) (r := .nm 1) (m := m) (fun k => .str (wd1 c k)) (ei_nm rfl) rfl (.inl h0) mt hs
        fun j hj => ev_rep (ev_ltr rfl (ei_mod (ei_nm rfl) ei_lit (by decide))) (ei_add ei_lit (ei_nm rfl)) (by omega) (by omega)
      refine ⟨_, ss_rt (r := .own (.lst ((wdsV c m).map T.str))) (env1 := [.val (.int c), .val (.int m), .val (.str ltrs), .val (.str (rep (ltr c) (1 + c / 26 % 8))), .val (.int (c / 208 % (1 + c / 26 % 8))), .un]) ?_, rfl, rfl⟩
      rw [q4]
      refine ss_rt ?_
      simp only [evS, q5, Res.bind_ok, retR]
      congr 3
      unfold wdsV
      rw [List.map_map]
      have : (T.str ∘ wdV c) = fun k => T.str (wd1 c k) := by funext k; simp [wdV, hc]
      rw [this]
    · rw [decide_eq_false hc, if_neg (by decide)] at q4
      rw [show ∀ e, evSs call .nil e = .ok (.nx e) from fun e => by simp only [evSs]] at q4
      rw [ss_nx q4]
      have q5 := ev_comp (call := call) (env := [.val (.int c), .val (.int m), .val (.str ltrs), .val (.str (rep (ltr c) (1 + c / 26 % 8))), .val (.int (c / 208 % (1 + c / 26 % 8))), .un]) (elt := w5E) (k := 5) (r := .nm 1) (m := m) (fun k => .str (wd2 c k)) (ei_nm rfl) rfl (.inl h0) mt hs
        fun j hj => by
          have c1 := cut_len (z := rep (ltr c) (1 + c / 26 % 8)) (lo := none) (hi := some (c / 208 % (1 + c / 26 % 8)))
          have c2 := cut_len (z := rep (ltr c) (1 + c / 26 % 8)) (lo := some (c / 208 % (1 + c / 26 % 8) + 1)) (hi := none)
          have one : (⟨#[ltr (c / 4992 + 5 * (j : Int))]⟩ : Str).length = 1 := rfl
          have lm : lim = 16000000 := rfl
          refine ev_cat (ev_cat (ev_slcS rfl eo_none (eo_some (ei_nm rfl)) llen) (ev_ltr rfl (ei_mod (ei_add (ei_div (ei_nm rfl) ei_lit (by decide)) (ei_mul ei_lit (ei_nm rfl) (mk_l (by decide)))) ei_lit (by decide))) ?_) (ev_slcS rfl (eo_some (ei_add (ei_nm rfl) ei_lit)) eo_none llen) ?_
          · rw [one]; omega
          · rw [app_len, one]; omega
      refine ⟨_, ss_rt (r := .own (.lst ((wdsV c m).map T.str))) (env1 := [.val (.int c), .val (.int m), .val (.str ltrs), .val (.str (rep (ltr c) (1 + c / 26 % 8))), .val (.int (c / 208 % (1 + c / 26 % 8))), .un]) ?_, rfl, rfl⟩
      simp only [evS, q5, Res.bind_ok, retR]
      congr 3
      unfold wdsV
      rw [List.map_map]
      have : (T.str ∘ wdV c) = fun k => T.str (wd2 c k) := by funext k; simp [wdV, hc]
      rw [this]
  obtain ⟨env', e, g0, g1⟩ := e
  rw [run_of h5, hcall]
  simp only [runFn, initE, Option.map_some, f5, List.length_cons, List.length_nil, Nat.reduceAdd, Nat.reduceSub, List.replicate, List.cons_append, List.nil_append, e, Res.bind_ok, outs]
end SfH

namespace SfH
open PySem Sf
variable {F : Nat → Option Fn}
section
variable {call : Call} {env : Ev}
theorem ss_end : evSs call .nil env = .ok (.nx env) := by simp only [evSs]
theorem et_lt {a b : E} {i j : Int} (ha : EvI call env a i) (hb : EvI call env b j) : evT call (.cmp .lt a b) env = .ok (decide (i < j), env) := by
  unfold EvI at ha hb
  simp only [evT, ha, hb, Res.bind_ok, asT, Res.of_some, cmpT]
theorem et_or {a b : E} {p q : Bool} (ha : evT call a env = .ok (p, env)) (hb : evT call b env = .ok (q, env)) : evT call (.or a b) env = .ok (p || q, env) := by
  simp only [evT, ha, hb, Res.bind_ok]
  cases p <;> rfl
theorem et_and {a b : E} {p q : Bool} (ha : evT call a env = .ok (p, env)) (hb : evT call b env = .ok (q, env)) : evT call (.and a b) env = .ok (p && q, env) := by
  simp only [evT, ha, hb, Res.bind_ok]
  cases p <;> rfl
theorem ite_no {c : E} {x y : Ss} (h : evT call c env = .ok (false, env)) : evS call (.ite c x .nil) env = .ok (.nx env) := by
  rw [st_ite h, if_neg (by decide), ss_end]
theorem ite_yes {c : E} {x y : Ss} (h : evT call c env = .ok (true, env)) : evS call (.ite c x y) env = evSs call x env := by
  rw [st_ite h, if_pos rfl]
theorem ev_len2 {i : Nat} {xs : List T} (h : get env i = .val (.lst xs)) : EvI call env (.bi .len (.nm i)) xs.length := by
  unfold EvI
  simp only [evE, h, Res.bind_ok, asT, Res.of_some, biT]
theorem ev_at {i : Nat} {xs : List T} {a : E} {j : Int} {t : T} (h : get env i = .val (.lst xs)) (ha : EvI call env a j) (ht : L2.atI xs j = some t) : evE call (.idx (.nm i) a) env = .ok (.val t, env) := by
  unfold EvI at ha
  simp only [evE, h, ha, Res.bind_ok, asT, Res.of_some, idxT, ht]
theorem ev_pair {a b : E} {x y : T} (ha : evE call a env = .ok (.val x, env)) (hb : evE call b env = .ok (.val y, env)) : evE call (.tup (.cons a (.cons b .nil))) env = .ok (.val (.tup [x, y]), env) := by
  simp [evE, evEs, ha, hb, frz]
theorem ev_three {a b c : E} {x y z : T} (ha : evE call a env = .ok (.val x, env)) (hb : evE call b env = .ok (.val y, env)) (hc : evE call c env = .ok (.val z, env)) : evE call (.tup (.cons a (.cons b (.cons c .nil)))) env = .ok (.val (.tup [x, y, z]), env) := by
  simp [evE, evEs, ha, hb, hc, frz]
theorem ev_lit {t : T} : evE call (.lit t) env = .ok (.val t, env) := by simp only [evE]
theorem ev_nm {i : Nat} {t : T} (h : get env i = .val t) : evE call (.nm i) env = .ok (.val t, env) := by simp only [evE, h]
end
def O3.of (i : Int) : O3 := if i = 0 then .sum else if i = 1 then .less else .times
theorem word_at (c : Int) : L2.atI [T.str "sum", T.str "less", T.str "times"] (c % 3) = some (.str (O3.of (c % 3)).w) := by
  have h1 : 0 ≤ c % 3 := Int.emod_nonneg c (by decide)
  have h2 : c % 3 < 3 := Int.emod_lt_of_pos c (by decide)
  have h : c % 3 = 0 ∨ c % 3 = 1 ∨ c % 3 = 2 := by omega
  rcases h with e | e | e <;> rw [e] <;> rfl
def Tm.inW (ws : List Str) : Tm → Prop
  | .num _ => True
  | .nam x => x ∈ ws
  | .bin _ a b => a.inW ws ∧ b.inW ws
def t0E : E := .bin .mod (.nm 0) (.lit (.int 6))
def t1E : E := .tup (.cons (.lit (.str "num")) (.cons (.bin .mod (.bin .fdiv (.nm 0) (.lit (.int 6))) (.lit (.int 3))) .nil))
def t2E : E := .tup (.cons (.lit (.str "num")) (.cons (.bin .mod (.bin .fdiv (.nm 0) (.lit (.int 6))) (.lit (.int 1000003))) .nil))
def t3E : E := .tup (.cons (.lit (.str "name")) (.cons (.idx (.nm 1) (.bin .mod (.bin .fdiv (.nm 0) (.lit (.int 6))) (.bi .len (.nm 1)))) .nil))
def t4E : E := .idx (.lst (.cons (.lit (.str "sum")) (.cons (.lit (.str "less")) (.cons (.lit (.str "times")) .nil)))) (.bin .mod (.bin .fdiv (.nm 0) (.lit (.int 6))) (.lit (.int 3)))
def t5E (i : Int) : E := .call 6 (.val (.call 4 (.val (.nm 0) (.val (.lit (.int i)) .nil))) (.val (.nm 1) (.val (.bin .sub (.nm 2) (.lit (.int 1))) .nil)))
theorem c6_eq : c6 = .cons (.set 3 t0E) (.cons (.ite (.cmp .eq (.nm 3) (.lit (.int 0))) (.cons (.ret t1E) .nil) .nil) (.cons (.ite (.cmp .eq (.nm 3) (.lit (.int 1))) (.cons (.ret t2E) .nil) .nil)
  (.cons (.ite (.or (.cmp .lt (.nm 3) (.lit (.int 4))) (.cmp .eq (.nm 2) (.lit (.int 0)))) (.cons (.ret t3E) .nil) .nil) (.cons (.set 4 t4E) (.cons (.ret (.tup (.cons (.nm 4) (.cons (t5E 1) (.cons (t5E 2) .nil))))) .nil))))) := rfl
def tlE : Ss := .cons (.set 4 t4E) (.cons (.ret (.tup (.cons (.nm 4) (.cons (t5E 1) (.cons (t5E 2) .nil))))) .nil)
def en6 (c : Int) (ws : List T) (d : Int) (s : Slot) : Ev := [.val (.int c), .val (.lst ws), .val (.int d), .val (.int (c % 6)), s]
def wAt (ws : List Str) (c : Int) : Str := ws.getD (c / 6 % (ws.length : Int)).toNat ""
theorem wAt_mem {ws : List Str} {c : Int} (h0 : ws ≠ []) : wAt ws c ∈ ws := by
  have hl : 0 < ws.length := List.length_pos_iff.mpr h0
  have b1 : 0 ≤ c / 6 % (ws.length : Int) := Int.emod_nonneg _ (by omega)
  have b2 : c / 6 % (ws.length : Int) < ws.length := Int.emod_lt_of_pos _ (by omega)
  have b3 : (c / 6 % (ws.length : Int)).toNat < ws.length := by omega
  unfold wAt
  rw [show ws.getD (c / 6 % (ws.length : Int)).toNat "" = ws[(c / 6 % (ws.length : Int)).toNat] from by simp [List.getD, b3]]
  exact List.getElem_mem _
theorem t_head {call : Call} {c : Int} {ns : List Str} {d : Int} (h0 : ns ≠ []) :
    evSs call c6 [.val (.int c), .val (.lst (ns.map T.str)), .val (.int d), .un, .un] =
      if c % 6 = 0 then .ok (.rt (.val (.tup [.str "num", .int (c / 6 % 3)])) (en6 c (ns.map T.str) d .un))
      else if c % 6 = 1 then .ok (.rt (.val (.tup [.str "num", .int (c / 6 % 1000003)])) (en6 c (ns.map T.str) d .un))
      else if c % 6 < 4 ∨ d = 0 then .ok (.rt (.val (.tup [.str "name", .str (wAt ns c)])) (en6 c (ns.map T.str) d .un))
      else evSs call tlE (en6 c (ns.map T.str) d .un) := by
  have hl : 0 < ns.length := List.length_pos_iff.mpr h0
  have b1 : 0 ≤ c / 6 % (ns.length : Int) := Int.emod_nonneg _ (by omega)
  have b2 : c / 6 % (ns.length : Int) < ns.length := Int.emod_lt_of_pos _ (by omega)
  have b3 : (c / 6 % (ns.length : Int)).toNat < ns.length := by omega
  have ew : L2.atI (ns.map T.str) (c / 6 % (ns.length : Int)) = some (.str (wAt ns c)) := by
    rw [atI_int _ _ b1 (by rw [List.length_map]; exact b2), List.getElem?_map, List.getElem?_eq_getElem b3]
    unfold wAt
    rw [show ns.getD (c / 6 % (ns.length : Int)).toNat "" = ns[(c / 6 % (ns.length : Int)).toNat] from by simp [List.getD, b3]]
    rfl
  have el : ((ns.map T.str).length : Int) = ns.length := by rw [List.length_map]
  generalize ns.map T.str = ws at *
  have s1 : evS call (.set 3 t0E) [.val (.int c), .val (.lst ws), .val (.int d), .un, .un] = .ok (.nx (en6 c ws d .un)) := st_set (a := t0E) (t := .int (c % 6)) (ei_mod (ei_nm rfl) ei_lit (by decide)) (by intro o; simp)
  rw [c6_eq, ss_nx s1]
  have q0 : evT call (.cmp .eq (.nm 3) (.lit (.int 0))) (en6 c ws d .un) = .ok (decide (c % 6 = 0), en6 c ws d .un) := et_eq (ei_nm rfl) ei_lit
  have q1 : evT call (.cmp .eq (.nm 3) (.lit (.int 1))) (en6 c ws d .un) = .ok (decide (c % 6 = 1), en6 c ws d .un) := et_eq (ei_nm rfl) ei_lit
  have q2 : evT call (.or (.cmp .lt (.nm 3) (.lit (.int 4))) (.cmp .eq (.nm 2) (.lit (.int 0)))) (en6 c ws d .un) = .ok (decide (c % 6 < 4) || decide (d = 0), en6 c ws d .un) := et_or (et_lt (ei_nm rfl) ei_lit) (et_eq (ei_nm rfl) ei_lit)
  by_cases e0 : c % 6 = 0
  · rw [if_pos e0]
    rw [decide_eq_true e0] at q0
    refine ss_rt ?_
    rw [ite_yes q0]
    have r : evE call t1E (en6 c ws d .un) = .ok (.val (.tup [.str "num", .int (c / 6 % 3)]), en6 c ws d .un) := ev_pair ev_lit (ei_mod (ei_div (ei_nm rfl) ei_lit (by decide)) ei_lit (by decide))
    exact ss_rt (st_rv r)
  rw [if_neg e0]
  rw [decide_eq_false e0] at q0
  rw [ss_nx (ite_no (y := .nil) q0)]
  by_cases e1 : c % 6 = 1
  · rw [if_pos e1]
    rw [decide_eq_true e1] at q1
    refine ss_rt ?_
    rw [ite_yes q1]
    have r : evE call t2E (en6 c ws d .un) = .ok (.val (.tup [.str "num", .int (c / 6 % 1000003)]), en6 c ws d .un) := ev_pair ev_lit (ei_mod (ei_div (ei_nm rfl) ei_lit (by decide)) ei_lit (by decide))
    exact ss_rt (st_rv r)
  rw [if_neg e1]
  rw [decide_eq_false e1] at q1
  rw [ss_nx (ite_no (y := .nil) q1)]
  have q2' : (decide (c % 6 < 4) || decide (d = 0)) = decide (c % 6 < 4 ∨ d = 0) := by simp
  rw [q2'] at q2
  by_cases e2 : c % 6 < 4 ∨ d = 0
  · rw [if_pos e2]
    rw [decide_eq_true e2] at q2
    refine ss_rt ?_
    rw [ite_yes q2]
    have r : evE call t3E (en6 c ws d .un) = .ok (.val (.tup [.str "name", .str (wAt ns c)]), en6 c ws d .un) :=
      ev_pair ev_lit (ev_at (j := c / 6 % (ns.length : Int)) rfl (by rw [← el]; exact ei_mod (ei_div (ei_nm rfl) ei_lit (by decide)) (ev_len2 rfl) (by omega)) ew)
    exact ss_rt (st_rv r)
  · rw [if_neg e2]
    rw [decide_eq_false e2] at q2
    rw [ss_nx (ite_no (y := .nil) q2)]
    rfl
theorem t_sub {n : Nat} (h4 : F 4 = some f4) {c d i : Int} {ws : List T} {s : Slot} {t : T} (hn : 1 ≤ n) (h : callN F n 6 [.val (.int (mixV c i)), .val (.lst ws), .val (.int (d - 1))] = .ok (.val t, [.val (.int (mixV c i)), .val (.lst ws), .val (.int (d - 1))])) :
    evE (callN F n) (t5E i) (en6 c ws d s) = .ok (.val t, en6 c ws d s) := by
  obtain ⟨m, rfl⟩ : ∃ m, n = m + 1 := ⟨n - 1, by omega⟩
  have hm := mixed_spec h4 c i m
  generalize m + 1 = n' at *
  have e1 : evE (callN F n') (.call 4 (.val (.nm 0) (.val (.lit (.int i)) .nil))) (en6 c ws d s) = .ok (.val (.int (mixV c i)), en6 c ws d s) := by
    simp [callN, runFn, initE, Option.map_some, List.cons_append, List.nil_append, List.length_cons, List.length_nil, Nat.reduceAdd, Nat.reduceSub, List.replicate, evSs, evS, evT, evE, evEs, evAs, evI, evO, Res.bind_ok, Bool.false_eq_true, if_false, if_true, setR, get_zero, get_succ, put_zero, put_succ, frz, wb, setM, asT, retR, outs, Res.of_some, isUn, dctAt, lstAt, cmpT, idxT, biT, Nat.zero_le, Option.map_none, Option.map_some, bindT, bindAll, walkOf, lock, unlock, Walk.still, Nat.lt_irrefl, Sf.binT, en6, hm]
  have e2 : evE (callN F n') (.nm 1) (en6 c ws d s) = .ok (.val (.lst ws), en6 c ws d s) := ev_nm rfl
  have e3 : evE (callN F n') (.bin .sub (.nm 2) (.lit (.int 1))) (en6 c ws d s) = .ok (.val (.int (d - 1)), en6 c ws d s) := ei_sub (ei_nm rfl) ei_lit
  generalize en6 c ws d s = en at *
  unfold t5E
  generalize E.call 4 (.val (.nm 0) (.val (.lit (.int i)) .nil)) = A at *
  generalize E.nm 1 = B at *
  generalize E.bin .sub (.nm 2) (.lit (.int 1)) = C at *
  simp only [evE, evAs, e1, e2, e3, Res.bind_ok, frz, h, wb]
theorem term_spec (h4 : F 4 = some f4) (h6 : F 6 = some f6) {ws : List Str} (hw : ∀ x ∈ ws, okS x = true) (h0 : ws ≠ []) : ∀ (d : Nat) (c : Int), ∃ t : Tm, t.nok ∧ t.deep ≤ d ∧ t.size ≤ 2 ^ d ∧ t.inW ws ∧
    ∀ n, d + 2 ≤ n → callN F n 6 [.val (.int c), .val (.lst (ws.map T.str)), .val (.int d)] = .ok (.val t.enc, [.val (.int c), .val (.lst (ws.map T.str)), .val (.int d)]) := by
  have fin : ∀ {d : Nat} {c : Int} {t : T} {n : Nat} {s : Slot}, evSs (callN F n) c6 [.val (.int c), .val (.lst (ws.map T.str)), .val (.int d), .un, .un] = .ok (.rt (.val t) (en6 c (ws.map T.str) d s)) →
      callN F (n + 1) 6 [.val (.int c), .val (.lst (ws.map T.str)), .val (.int d)] = .ok (.val t, [.val (.int c), .val (.lst (ws.map T.str)), .val (.int d)]) := fun {d c t n s} e => by
    rw [run_of h6]
    simp only [runFn, initE, Option.map_some, f6, List.length_cons, List.length_nil, Nat.reduceAdd, Nat.reduceSub, List.replicate, List.cons_append, List.nil_append, e, Res.bind_ok, outs]
  have hm0 : ws.map T.str ≠ [] := by simpa using h0
  intro d
  induction d with
  | zero =>
    intro c
    have hd := fun n => t_head (call := callN F n) (c := c) (ns := ws) (d := ((0 : Nat) : Int)) h0
    by_cases e0 : c % 6 = 0
    · refine ⟨.num (c / 6 % 3), by simp only [Tm.nok]; omega, Nat.le_refl _, Nat.le_refl _, trivial, fun n hn => ?_⟩
      obtain ⟨m, rfl⟩ : ∃ m, n = m + 1 := ⟨n - 1, by omega⟩
      exact fin ((hd m).trans (if_pos e0))
    by_cases e1 : c % 6 = 1
    · refine ⟨.num (c / 6 % 1000003), by simp only [Tm.nok]; omega, Nat.le_refl _, Nat.le_refl _, trivial, fun n hn => ?_⟩
      obtain ⟨m, rfl⟩ : ∃ m, n = m + 1 := ⟨n - 1, by omega⟩
      exact fin ((hd m).trans ((if_neg e0).trans (if_pos e1)))
    · refine ⟨.nam (wAt ws c), hw _ (wAt_mem h0), Nat.le_refl _, Nat.le_refl _, wAt_mem h0, fun n hn => ?_⟩
      obtain ⟨m, rfl⟩ : ∃ m, n = m + 1 := ⟨n - 1, by omega⟩
      exact fin ((hd m).trans ((if_neg e0).trans ((if_neg e1).trans (if_pos (.inr rfl)))))
  | succ d ih =>
    intro c
    have hd := fun n => t_head (call := callN F n) (c := c) (ns := ws) (d := ((d + 1 : Nat) : Int)) h0
    have one : 1 ≤ 2 ^ (d + 1) := Nat.one_le_two_pow
    by_cases e0 : c % 6 = 0
    · refine ⟨.num (c / 6 % 3), by simp only [Tm.nok]; omega, Nat.zero_le _, one, trivial, fun n hn => ?_⟩
      obtain ⟨m, rfl⟩ : ∃ m, n = m + 1 := ⟨n - 1, by omega⟩
      exact fin ((hd m).trans (if_pos e0))
    by_cases e1 : c % 6 = 1
    · refine ⟨.num (c / 6 % 1000003), by simp only [Tm.nok]; omega, Nat.zero_le _, one, trivial, fun n hn => ?_⟩
      obtain ⟨m, rfl⟩ : ∃ m, n = m + 1 := ⟨n - 1, by omega⟩
      exact fin ((hd m).trans ((if_neg e0).trans (if_pos e1)))
    by_cases e2 : c % 6 < 4 ∨ ((d + 1 : Nat) : Int) = 0
    · refine ⟨.nam (wAt ws c), hw _ (wAt_mem h0), Nat.zero_le _, one, wAt_mem h0, fun n hn => ?_⟩
      obtain ⟨m, rfl⟩ : ∃ m, n = m + 1 := ⟨n - 1, by omega⟩
      exact fin ((hd m).trans ((if_neg e0).trans ((if_neg e1).trans (if_pos e2))))
    · obtain ⟨a, a1, a2, a3, a4, a5⟩ := ih (mixV c 1)
      obtain ⟨b, b1, b2, b3, b4, b5⟩ := ih (mixV c 2)
      refine ⟨.bin (O3.of (c / 6 % 3)) a b, ⟨a1, b1⟩, by simp only [Tm.deep]; omega, by simp only [Tm.size, Nat.pow_succ]; omega, ⟨a4, b4⟩, fun n hn => ?_⟩
      obtain ⟨m, rfl⟩ : ∃ m, n = m + 1 := ⟨n - 1, by omega⟩
      refine fin (s := .val (.str (O3.of (c / 6 % 3)).w)) ((hd m).trans ((if_neg e0).trans ((if_neg e1).trans ((if_neg e2).trans ?_))))
      have ed : ((d + 1 : Nat) : Int) - 1 = (d : Int) := by omega
      have ha := a5 m (by omega)
      have hb := b5 m (by omega)
      rw [← ed] at ha hb
      have w4 : evE (callN F m) t4E (en6 c (ws.map T.str) ((d + 1 : Nat) : Int) .un) = .ok (.val (.str (O3.of (c / 6 % 3)).w), en6 c (ws.map T.str) ((d + 1 : Nat) : Int) .un) := by
        have q : EvI (callN F m) (en6 c (ws.map T.str) ((d + 1 : Nat) : Int) .un) (.bin .mod (.bin .fdiv (.nm 0) (.lit (.int 6))) (.lit (.int 3))) (c / 6 % 3) := ei_mod (ei_div (ei_nm rfl) ei_lit (by decide)) ei_lit (by decide)
        unfold EvI at q
        unfold t4E
        generalize E.bin .mod (.bin .fdiv (.nm 0) (.lit (.int 6))) (.lit (.int 3)) = A at *
        have l3 : ([T.str "sum", T.str "less", T.str "times"] : List T).length ≤ lim := by decide
        simp only [evE, evEs, frz, q, asT, idxT, word_at (c / 6), Res.bind_ok, Res.of_some, l3, if_true]
      unfold tlE
      rw [ss_nx (st_set w4 (by intro o; simp [en6]))]
      show evSs (callN F m) _ (en6 c (ws.map T.str) ((d + 1 : Nat) : Int) (.val (.str (O3.of (c / 6 % 3)).w))) = _
      exact ss_rt (st_rv (ev_three (ev_nm rfl) (t_sub h4 (by omega) ha) (t_sub h4 (by omega) hb)))
end SfH

namespace SfH
open PySem Sf
variable {F : Nat → Option Fn}
/-! ### the cells -/
def KOk (kvs : List (Str × T)) : Prop := (∀ p ∈ kvs, ∃ v, p.2 = .int v ∧ 0 ≤ v ∧ v ≤ 1000002) ∧ (kvs.map (·.1)).Nodup
theorem KOk.cells {kvs : List (Str × T)} (h : KOk kvs) : CellsOk kvs := by
  intro x t e
  have hm : ∃ p ∈ kvs, p.2 = t := by
    clear h
    induction kvs with
    | nil => simp [look] at e
    | cons p r ih =>
      rw [look_cons] at e
      split at e
      · cases e; exact ⟨p, List.mem_cons_self, rfl⟩
      · obtain ⟨q, h1, h2⟩ := ih e
        exact ⟨q, List.mem_cons_of_mem _ h1, h2⟩
  obtain ⟨p, h1, h2⟩ := hm
  obtain ⟨v, h3, h4⟩ := h.1 p h1
  exact ⟨v, by rw [← h2, h3], h4⟩
theorem store_mem {kvs : List (Str × T)} {k : Str} {v : T} {p : Str × T} (h : p ∈ store kvs k v) : p ∈ kvs ∨ p = (k, v) := by
  unfold store at h
  split at h
  · obtain ⟨q, h1, h2⟩ := List.mem_map.mp h
    split at h2
    · rename_i e; right; rw [← h2, e]
    · left; rw [← h2]; exact h1
  · rcases List.mem_append.mp h with h | h
    · exact .inl h
    · exact .inr (by simpa using h)
theorem store_keys {kvs : List (Str × T)} {k : Str} {v : T} : (store kvs k v).map (·.1) = if k ∈ kvs.map (·.1) then kvs.map (·.1) else kvs.map (·.1) ++ [k] := by
  have hany : (kvs.any fun kv => decide (kv.1 = k)) = decide (k ∈ kvs.map (·.1)) := by
    rw [Bool.eq_iff_iff]
    simp
  unfold store
  rw [hany]
  by_cases h : k ∈ kvs.map (·.1)
  · rw [if_pos h, if_pos (by simpa using h), List.map_map]
    refine List.map_congr_left fun p _ => ?_
    simp only [Function.comp]
    split <;> rfl
  · rw [if_neg h, if_neg (by simpa using h)]
    simp
theorem KOk.store {kvs : List (Str × T)} (h : KOk kvs) {k : Str} {v : Int} (h1 : 0 ≤ v) (h2 : v ≤ 1000002) : KOk (Sf.store kvs k (.int v)) := by
  refine ⟨fun p hp => ?_, ?_⟩
  · rcases store_mem hp with hp | hp
    · exact h.1 p hp
    · exact ⟨v, by rw [hp], h1, h2⟩
  · rw [store_keys]
    split
    · exact h.2
    · rename_i hk
      exact List.nodup_append.mpr ⟨h.2, by simp, fun a ha b hb e => hk (by rw [List.mem_singleton] at hb; rw [← hb, ← e]; exact ha)⟩
theorem store_len {kvs : List (Str × T)} {k : Str} {v : T} : (store kvs k v).length ≤ kvs.length + 1 := by
  unfold store
  split
  · simp
  · simp
theorem KOk.eq {kvs : List (Str × T)} (h : KOk kvs) : eqKv kvs kvs = true := by
  unfold eqKv
  simp only [T.beqs_refl, decide_true, Bool.and_true, Bool.true_and, Bool.and_eq_true, decide_eq_true_eq, List.all_eq_true]
  refine ⟨h.2, fun p hp => ?_⟩
  obtain ⟨v, e, _⟩ := h.1 p hp
  rw [e]
  rfl

/-! ### steps -/
section
variable {call : Call} {env env1 : Ev} {a b : E} {n i : Nat} {s : S} {ss : Ss}
theorem st_setO {o : M} (ha : evE call a env = .ok (.own o, env1)) (hb : ∀ o, get env1 n ≠ .bor o) : evS call (.set n a) env = .ok (.nx (put env1 n (.own o))) := by
  have e : setR env1 n (.own o) = .ok (put env1 n (.own o)) := by
    unfold setR
    split
    · rename_i o e; exact absurd e (hb o)
    · rfl
  simp only [evS, ha, Res.bind_ok, e]
def cellE (k : Int) : E := .call 3 (.val (.nm 0) (.val (.lit (.int k)) .nil))
end
theorem ei_cell (h3 : F 3 = some f3) {n : Nat} {env : Ev} {ns : List Int} (k : Nat) (h : get env 0 = .val (.ro (ns.map T.int))) : EvI (callN F (n + 1)) env (cellE k) (celV ns k) := by
  have hc := cell_spec h3 ns k n
  unfold EvI cellE
  generalize callN F (n + 1) = call at *
  simp only [evE, evAs, h, Res.bind_ok, frz, hc, wb]
def wordAt (ws : List Str) (i : Int) : Str := ws.getD i.toNat ""
theorem wordAt_mem {ws : List Str} {i : Int} (h1 : 0 ≤ i) (h2 : i < ws.length) : wordAt ws i ∈ ws := by
  have h3 : i.toNat < ws.length := by omega
  unfold wordAt
  rw [show ws.getD i.toNat "" = ws[i.toNat] from by simp [List.getD, h3]]
  exact List.getElem_mem _
theorem at_word {ws : List Str} {i : Int} (h1 : 0 ≤ i) (h2 : i < ws.length) : L2.atI (ws.map T.str) i = some (.str (wordAt ws i)) := by
  have h3 : i.toNat < ws.length := by omega
  rw [atI_int _ _ h1 (by rw [List.length_map]; exact h2), List.getElem?_map, List.getElem?_eq_getElem h3]
  unfold wordAt
  rw [show ws.getD i.toNat "" = ws[i.toNat] from by simp [List.getD, h3]]
  rfl
/-! the first loop: the term grows -/
def b3a : S := .set 4 (.tup (.cons (.lit (.str "name")) (.cons (.idx (.nm 1) (.bin .mod (.nm 3) (.lit (.int 5)))) .nil)))
def b3b : S := .set 2 (.idx (.lst (.cons (.tup (.cons (.lit (.str "sum")) (.cons (.nm 2) (.cons (.tup (.cons (.lit (.str "num")) (.cons (.nm 3) .nil))) .nil)))) (.cons (.tup (.cons (.lit (.str "less")) (.cons (.nm 4) (.cons (.nm 2) .nil)))) (.cons (.tup (.cons (.lit (.str "times")) (.cons (.nm 2) (.cons (.tup (.cons (.lit (.str "num")) (.cons (.lit (.int 1000002)) .nil))) .nil)))) .nil)))) (.bin .mod (.nm 3) (.lit (.int 3))))
def b3 : Ss := .cons b3a (.cons b3b .nil)
def FreeS (s : Sf.Slot) : Prop := s = .un ∨ ∃ t, s = .val t
def en7 (sc wt te : T) (s3 s4 s5 s6 : Sf.Slot) : Ev := [.val sc, .val wt, .val te, s3, s4, s5, s6]
theorem grow_step {call : Call} {sc : T} {ws : List Str} (hw : ∀ x ∈ ws, okS x = true) (h5 : ws.length = 5) {t : Tm} {s3 s4 : Sf.Slot} (f3 : FreeS s3) (f4 : FreeS s4) {i : Nat} (hi : i ≤ 15) (ht : t.nok) :
    ∃ t' : Tm, t'.nok ∧ t'.deep ≤ t.deep + 1 ∧ t'.size ≤ t.size + 1 ∧ ∃ s4', FreeS s4' ∧
      ((bindT [3] (.int i) (en7 sc (.lst (ws.map T.str)) t.enc s3 s4 .un .un)).bind fun e => evSs call b3 e) = .ok (.nx (en7 sc (.lst (ws.map T.str)) t'.enc (.val (.int i)) s4' .un .un)) := by
  have hb : bindT [3] (.int i) (en7 sc (.lst (ws.map T.str)) t.enc s3 s4 .un .un) = .ok (en7 sc (.lst (ws.map T.str)) t.enc (.val (.int i)) s4 .un .un) := by
    rcases f3 with rfl | ⟨u, rfl⟩ <;> simp [bindT, bindAll, en7]
  rw [hb, Res.bind_ok]
  have m1 : 0 ≤ (i : Int) % 5 := by omega
  have m2 : (i : Int) % 5 < ws.length := by omega
  have ea : evS call b3a (en7 sc (.lst (ws.map T.str)) t.enc (.val (.int i)) s4 .un .un) = .ok (.nx (en7 sc (.lst (ws.map T.str)) t.enc (.val (.int i)) (.val (.tup [.str "name", .str (wordAt ws (i % 5))])) .un .un)) := by
    have q := st_set (call := call) (n := 4) (ev_pair (call := call) (env := en7 sc (.lst (ws.map T.str)) t.enc (.val (.int i)) s4 .un .un) (ev_lit (t := .str "name")) (ev_at (i := 1) (a := .bin .mod (.nm 3) (.lit (.int 5))) rfl (ei_mod (ei_nm (n := 3) rfl) ei_lit (by decide)) (at_word m1 m2))) (by
      intro o
      rcases f4 with rfl | ⟨u, rfl⟩ <;> simp [en7])
    exact q
  have hwx := hw _ (wordAt_mem m1 m2)
  unfold b3
  rw [ss_nx ea]
  generalize wordAt ws ((i : Int) % 5) = x at *
  have l3 : ([T.tup [.str "sum", t.enc, .tup [.str "num", .int i]], .tup [.str "less", .tup [.str "name", .str x], t.enc], .tup [.str "times", t.enc, .tup [.str "num", .int 1000002]]] : List T).length ≤ lim := by simp
  obtain ⟨t', n1, n2, n3, en⟩ : ∃ t' : Tm, t'.nok ∧ t'.deep ≤ t.deep + 1 ∧ t'.size ≤ t.size + 1 ∧ L2.atI [T.tup [.str "sum", t.enc, .tup [.str "num", .int i]], .tup [.str "less", .tup [.str "name", .str x], t.enc], .tup [.str "times", t.enc, .tup [.str "num", .int 1000002]]] ((i : Int) % 3) = some t'.enc := by
    have h : (i : Int) % 3 = 0 ∨ (i : Int) % 3 = 1 ∨ (i : Int) % 3 = 2 := by omega
    rcases h with e | e | e
    · exact ⟨.bin .sum t (.num i), ⟨ht, by simp only [Tm.nok]; omega⟩, by simp only [Tm.deep]; omega, by simp only [Tm.size]; omega, by rw [e]; rfl⟩
    · exact ⟨.bin .less (.nam x) t, ⟨hwx, ht⟩, by simp only [Tm.deep]; omega, by simp only [Tm.size]; omega, by rw [e]; rfl⟩
    · exact ⟨.bin .times t (.num 1000002), ⟨ht, by simp only [Tm.nok]; omega⟩, by simp only [Tm.deep]; omega, by simp only [Tm.size]; omega, by rw [e]; rfl⟩
  refine ⟨t', n1, n2, n3, .val (.tup [.str "name", .str x]), .inr ⟨_, rfl⟩, ?_⟩
  have q : EvI call (en7 sc (.lst (ws.map T.str)) t.enc (.val (.int i)) (.val (.tup [.str "name", .str x])) .un .un) (.bin .mod (.nm 3) (.lit (.int 3))) ((i : Int) % 3) := ei_mod (ei_nm rfl) ei_lit (by decide)
  unfold EvI at q
  unfold b3b
  generalize E.bin .mod (.nm 3) (.lit (.int 3)) = A at *
  have e2 : evE call (.idx (.lst (.cons (.tup (.cons (.lit (.str "sum")) (.cons (.nm 2) (.cons (.tup (.cons (.lit (.str "num")) (.cons (.nm 3) .nil))) .nil)))) (.cons (.tup (.cons (.lit (.str "less")) (.cons (.nm 4) (.cons (.nm 2) .nil)))) (.cons (.tup (.cons (.lit (.str "times")) (.cons (.nm 2) (.cons (.tup (.cons (.lit (.str "num")) (.cons (.lit (.int 1000002)) .nil))) .nil)))) .nil)))) A)
      (en7 sc (.lst (ws.map T.str)) t.enc (.val (.int i)) (.val (.tup [.str "name", .str x])) .un .un) = .ok (.val t'.enc, en7 sc (.lst (ws.map T.str)) t.enc (.val (.int i)) (.val (.tup [.str "name", .str x])) .un .un) := by
    simp [evE, evEs, en7, frz, asT, idxT] at q ⊢
    simp [q, asT, en]
  rw [ss_nx (st_set e2 (by intro o; simp [en7])), ss_end]
  rfl
end SfH

namespace SfH
open PySem Sf
variable {F : Nat → Option Fn}
theorem range_at {m : Int} {i : Nat} {t : T} (h : (rangeT 0 m)[i]? = some t) : t = .int i ∧ (i : Int) < m := by
  unfold rangeT at h
  simp only [Int.sub_zero, Int.zero_add, List.getElem?_map, Option.map_eq_some_iff] at h
  obtain ⟨a, h1, h2⟩ := h
  obtain ⟨h3, h4⟩ := List.getElem?_eq_some_iff.mp h1
  have e : i = a := by simpa using h4
  subst e
  exact ⟨h2.symm, by simp at h3; omega⟩
theorem range_len {m : Int} : (rangeT 0 m).length = m.toNat := by simp [rangeT]
theorem grow_loop {call : Call} {sc : T} {ws : List Str} (hw : ∀ x ∈ ws, okS x = true) (h5 : ws.length = 5) {t : Tm} (ht : t.nok) {m : Int} (hm : m ≤ 15) {s3 s4 : Sf.Slot} (f3 : FreeS s3) (f4 : FreeS s4) :
    ∃ t' : Tm, t'.nok ∧ t'.deep ≤ t.deep + 15 ∧ t'.size ≤ t.size + 15 ∧ ∃ s3' s4', FreeS s3' ∧ FreeS s4' ∧
      loopS ⟨rangeT 0 m, none⟩ (fun t e => (bindT [3] t e).bind fun e => evSs call b3 e) (rangeT 0 m) (en7 sc (.lst (ws.map T.str)) t.enc s3 s4 .un .un) = .ok (.nx (en7 sc (.lst (ws.map T.str)) t'.enc s3' s4' .un .un)) := by
  obtain ⟨e', h1, h2⟩ := loop_inv (w := ⟨rangeT 0 m, none⟩) (step := fun t e => (bindT [3] t e).bind fun e => evSs call b3 e) (items := rangeT 0 m) (k := 0) (env := en7 sc (.lst (ws.map T.str)) t.enc s3 s4 .un .un)
    (fun k e => k ≤ 15 → ∃ t' : Tm, t'.nok ∧ t'.deep ≤ t.deep + k ∧ t'.size ≤ t.size + k ∧ ∃ s3' s4', FreeS s3' ∧ FreeS s4' ∧ e = en7 sc (.lst (ws.map T.str)) t'.enc s3' s4' .un .un)
    (fun _ => ⟨t, ht, Nat.le_refl _, Nat.le_refl _, s3, s4, f3, f4, rfl⟩) (fun _ _ _ => rfl) (fun i u e hu hp => by
      obtain ⟨rfl, hi⟩ := range_at hu
      obtain ⟨t', a1, a2, a3, s3', s4', g3, g4, rfl⟩ := hp (by omega)
      obtain ⟨t2, b1, b2, b3, s5, g5, es⟩ := grow_step (call := call) (sc := sc) hw h5 (t := t') g3 g4 (i := i) (by omega) a1
      exact ⟨_, es, fun _ => ⟨t2, b1, by omega, by omega, _, s5, .inr ⟨_, rfl⟩, g5, rfl⟩⟩)
  rw [range_len, Nat.zero_add] at h2
  obtain ⟨t', a1, a2, a3, s3', s4', g3, g4, rfl⟩ := h2 (by omega)
  exact ⟨t', a1, by omega, by omega, s3', s4', g3, g4, h1⟩
/-! the second loop: the cells -/
def kE : E := .idx (.nm 1) (.bin .mod (.bin .add (cellE 3) (.bin .mul (.lit (.int 2)) (.nm 3))) (.lit (.int 5)))
def vE : E := .bin .mod (.call 4 (.val (cellE 4) (.val (.nm 3) .nil))) (.idx (.lst (.cons (.lit (.int 3)) (.cons (.lit (.int 1000003)) .nil))) (.bin .mod (.nm 3) (.lit (.int 2))))
def b5 : Ss := .cons (.sto 5 kE vE) .nil
theorem cells_step (h3 : F 3 = some f3) (h4 : F 4 = some f4) {n : Nat} {ns : List Int} {ws : List Str} (h5 : ws.length = 5) {te : T} {s3 s4 : Sf.Slot} (g3 : FreeS s3) {kvs : List (Str × T)} (hk : KOk kvs) (hl : kvs.length < 10) (i : Nat) :
    ∃ kvs', KOk kvs' ∧ kvs'.length ≤ kvs.length + 1 ∧
      ((bindT [3] (.int i) (en7 (.ro (ns.map T.int)) (.lst (ws.map T.str)) te s3 s4 (.own (.dct kvs)) .un)).bind fun e => evSs (callN F (n + 1)) b5 e) = .ok (.nx (en7 (.ro (ns.map T.int)) (.lst (ws.map T.str)) te (.val (.int i)) s4 (.own (.dct kvs')) .un)) := by
  have hb : bindT [3] (.int i) (en7 (.ro (ns.map T.int)) (.lst (ws.map T.str)) te s3 s4 (.own (.dct kvs)) .un) = .ok (en7 (.ro (ns.map T.int)) (.lst (ws.map T.str)) te (.val (.int i)) s4 (.own (.dct kvs)) .un) := by
    rcases g3 with rfl | ⟨u, rfl⟩ <;> simp [bindT, bindAll, en7]
  rw [hb, Res.bind_ok]
  generalize hen : en7 (.ro (ns.map T.int)) (.lst (ws.map T.str)) te (.val (.int i)) s4 (.own (.dct kvs)) .un = en
  have g0 : get en 0 = .val (.ro (ns.map T.int)) := by rw [← hen]; rfl
  have g1 : get en 1 = .val (.lst (ws.map T.str)) := by rw [← hen]; rfl
  have g3 : get en 3 = .val (.int i) := by rw [← hen]; rfl
  have g5 : get en 5 = .own (.dct kvs) := by rw [← hen]; rfl
  have c4' := mixed_spec h4 (celV ns 4) i n
  have ec4 := ei_cell h3 (n := n) (env := en) (ns := ns) 4 g0
  have ec3 := ei_cell h3 (n := n) (env := en) (ns := ns) 3 g0
  have en3 : EvI (callN F (n + 1)) en (.nm 3) i := ei_nm g3
  generalize callN F (n + 1) = call at *
  have eq : ∃ q : Int, (q = 3 ∨ q = 1000003) ∧ EvI call en (.idx (.lst (.cons (.lit (.int 3)) (.cons (.lit (.int 1000003)) .nil))) (.bin .mod (.nm 3) (.lit (.int 2)))) q := by
    have q2 : EvI call en (.bin .mod (.nm 3) (.lit (.int 2))) ((i : Int) % 2) := ei_mod en3 ei_lit (by decide)
    have h : (i : Int) % 2 = 0 ∨ (i : Int) % 2 = 1 := by omega
    unfold EvI at q2
    generalize E.bin .mod (.nm 3) (.lit (.int 2)) = A at *
    rcases h with e | e
    · refine ⟨3, .inl rfl, ?_⟩
      rw [e] at q2
      unfold EvI
      simp [evE, evEs, frz, asT, idxT, q2]
    · refine ⟨1000003, .inr rfl, ?_⟩
      rw [e] at q2
      have ea : L2.atI [T.int 3, T.int 1000003] 1 = some (T.int 1000003) := rfl
      unfold EvI
      simp [evE, evEs, frz, asT, idxT, q2, ea]
  obtain ⟨q, hq, eq⟩ := eq
  have em : EvI call en (.call 4 (.val (cellE 4) (.val (.nm 3) .nil))) (mixV (celV ns 4) i) := by
    unfold EvI at *
    have ec4 : evE call (cellE 4) en = .ok (.val (.int (celV ns 4)), en) := ec4
    generalize cellE 4 = A at *
    generalize E.nm 3 = B at *
    simp only [evE, evAs, ec4, en3, Res.bind_ok, frz, c4', wb]
  have ev : EvI call en vE (mixV (celV ns 4) i % q) := ei_mod em eq (by omega)
  have r1 : 0 ≤ mixV (celV ns 4) i % q := Int.emod_nonneg _ (by omega)
  have r2 : mixV (celV ns 4) i % q ≤ 1000002 := by
    have := Int.emod_lt_of_pos (mixV (celV ns 4) i) (show 0 < q by omega)
    omega
  have m1 : 0 ≤ (celV ns 3 + 2 * (i : Int)) % 5 := by omega
  have m2 : (celV ns 3 + 2 * (i : Int)) % 5 < ws.length := by omega
  have ek : evE call kE en = .ok (.val (.str (wordAt ws ((celV ns 3 + 2 * (i : Int)) % 5))), en) :=
    ev_at g1 (ei_mod (ei_add ec3 (ei_mul ei_lit en3 (mk_l (by decide)))) ei_lit (by decide)) (at_word m1 m2)
  refine ⟨store kvs (wordAt ws ((celV ns 3 + 2 * (i : Int)) % 5)) (.int (mixV (celV ns 4) i % q)), hk.store r1 r2, store_len, ?_⟩
  unfold EvI at ev
  have hz : kvs.length < lim := by unfold lim; omega
  have es : evS call (.sto 5 kE vE) en = .ok (.nx (setM en 5 (.dct (store kvs (wordAt ws ((celV ns 3 + 2 * (i : Int)) % 5)) (.int (mixV (celV ns 4) i % q)))))) := by
    simp only [evS, ev, ek, Res.bind_ok, dctAt, g5, Res.of_some, hz, if_true]
  unfold b5
  rw [ss_nx es, ss_end, ← hen]
  rfl
theorem cells_loop (h3 : F 3 = some f3) (h4 : F 4 = some f4) {n : Nat} {ns : List Int} {ws : List Str} (h5 : ws.length = 5) {te : T} {s3 s4 : Sf.Slot} (g3 : FreeS s3) {kvs : List (Str × T)} (hk : KOk kvs) (hl : kvs.length ≤ 1) {m : Int} (hm : m ≤ 3) :
    ∃ kvs' s3', FreeS s3' ∧ KOk kvs' ∧ kvs'.length ≤ 4 ∧
      loopS ⟨rangeT 0 m, none⟩ (fun t e => (bindT [3] t e).bind fun e => evSs (callN F (n + 1)) b5 e) (rangeT 0 m) (en7 (.ro (ns.map T.int)) (.lst (ws.map T.str)) te s3 s4 (.own (.dct kvs)) .un) = .ok (.nx (en7 (.ro (ns.map T.int)) (.lst (ws.map T.str)) te s3' s4 (.own (.dct kvs')) .un)) := by
  obtain ⟨e', h1, h2⟩ := loop_inv (w := ⟨rangeT 0 m, none⟩) (step := fun t e => (bindT [3] t e).bind fun e => evSs (callN F (n + 1)) b5 e) (items := rangeT 0 m) (k := 0) (env := en7 (.ro (ns.map T.int)) (.lst (ws.map T.str)) te s3 s4 (.own (.dct kvs)) .un)
    (fun k e => k ≤ 3 → ∃ kvs' s3', FreeS s3' ∧ KOk kvs' ∧ kvs'.length ≤ 1 + k ∧ e = en7 (.ro (ns.map T.int)) (.lst (ws.map T.str)) te s3' s4 (.own (.dct kvs')) .un)
    (fun _ => ⟨kvs, s3, g3, hk, hl, rfl⟩) (fun _ _ _ => rfl) (fun i u e hu hp => by
      obtain ⟨rfl, hi⟩ := range_at hu
      obtain ⟨k2, s2, a1, a2, a3, rfl⟩ := hp (by omega)
      obtain ⟨k3, b1, b2, es⟩ := cells_step h3 h4 (n := n) (ns := ns) h5 (te := te) (s4 := s4) a1 a2 (by omega) i
      exact ⟨_, es, fun _ => ⟨k3, _, .inr ⟨_, rfl⟩, b1, by omega, rfl⟩⟩)
  rw [range_len, Nat.zero_add] at h2
  obtain ⟨k2, s2, a1, a2, a3, rfl⟩ := h2 (by omega)
  exact ⟨k2, s2, a1, a2, by omega, h1⟩
/-! the law -/
def a1E : E := .call 5 (.val (cellE 0) (.val (.lit (.int 5)) .nil))
def a2E : E := .call 6 (.val (cellE 1) (.val (.nm 1) (.val (.bin .mod (cellE 2) (.lit (.int 4))) .nil)))
def a3T : E := .cmp .eq (.bin .mod (.bin .fdiv (cellE 2) (.lit (.int 16))) (.lit (.int 6))) (.lit (.int 1))
def a3R : E := .bin .mod (.bin .fdiv (cellE 2) (.lit (.int 96))) (.lit (.int 16))
def a5R : E := .bin .mod (.bin .fdiv (cellE 2) (.lit (.int 4))) (.lit (.int 4))
def tl : Ss := .cons (.set 6 (.dcopy 5)) (.cons (.ite (.or (.nots (.call 11 (.val (.nm 2) (.io 5 .nil)))) (.deq true 5 6)) (.cons (.ret (.lit (.bl false))) .nil) .nil)
  (.cons (.sto 5 (.idx (.nm 1) (.bin .mod (cellE 5) (.lit (.int 5)))) (.bin .mod (cellE 6) (.lit (.int 1000003))))
  (.cons (.set 6 (.dcopy 5)) (.cons (.ret (.and (.call 11 (.val (.nm 2) (.io 5 .nil))) (.deq false 5 6))) .nil))))
theorem c12_eq : c12 = .cons (.set 1 a1E) (.cons (.set 2 a2E) (.cons (.ite a3T (.cons (.loop [3] (.rng a3R) b3) .nil) .nil) (.cons (.set 5 (.dlit (.lit (.str "other")) (.lit (.int 7))))
  (.cons (.loop [3] (.rng a5R) b5) tl)))) := rfl
theorem tail_ok (h3 : F 3 = some f3) {n : Nat} {ns : List Int} {ws : List Str} (h5 : ws.length = 5) {te : T} {s3 s4 : Sf.Slot} {kvs : List (Str × T)} (hk : KOk kvs) (hl : kvs.length ≤ 4)
    (ht : ∀ {kvs : List (Str × T)}, KOk kvs → callN F (n + 1) 11 [.val te, .io (.dct kvs)] = .ok (.val (.bl true), [.val te, .io (.dct kvs)])) :
    ∃ e, evSs (callN F (n + 1)) tl (en7 (.ro (ns.map T.int)) (.lst (ws.map T.str)) te s3 s4 (.own (.dct kvs)) .un) = .ok (.rt (.val (.bl true)) e) ∧ get e 0 = .val (.ro (ns.map T.int)) := by
  have m1 : 0 ≤ celV ns 5 % 5 := by omega
  have m2 : celV ns 5 % 5 < ws.length := by omega
  have hk2 := hk.store (k := wordAt ws (celV ns 5 % 5)) (v := celV ns 6 % 1000003) (by omega) (by omega)
  have t1 := ht hk
  have t2 := ht hk2
  have q1 := hk.eq
  have q2 := hk2.eq
  have ec5 := fun en g => ei_cell h3 (n := n) (env := en) (ns := ns) 5 g
  have ec6 := fun en g => ei_cell h3 (n := n) (env := en) (ns := ns) 6 g
  generalize callN F (n + 1) = call at *
  have hz : kvs.length < lim := by unfold lim; omega
  let e1 : Ev := en7 (.ro (ns.map T.int)) (.lst (ws.map T.str)) te s3 s4 (.own (.dct kvs)) (.own (.dct kvs))
  let e2 : Ev := en7 (.ro (ns.map T.int)) (.lst (ws.map T.str)) te s3 s4 (.own (.dct (store kvs (wordAt ws (celV ns 5 % 5)) (.int (celV ns 6 % 1000003))))) (.own (.dct kvs))
  let e3 : Ev := en7 (.ro (ns.map T.int)) (.lst (ws.map T.str)) te s3 s4 (.own (.dct (store kvs (wordAt ws (celV ns 5 % 5)) (.int (celV ns 6 % 1000003))))) (.own (.dct (store kvs (wordAt ws (celV ns 5 % 5)) (.int (celV ns 6 % 1000003)))))
  have s1 : evS call (.set 6 (.dcopy 5)) (en7 (.ro (ns.map T.int)) (.lst (ws.map T.str)) te s3 s4 (.own (.dct kvs)) .un) = .ok (.nx e1) := st_setO (env1 := en7 (.ro (ns.map T.int)) (.lst (ws.map T.str)) te s3 s4 (.own (.dct kvs)) .un) (n := 6) (o := .dct kvs) (by simp [evE, en7, dctAt]) (by intro o; simp [en7])
  have s2 : evS call (.ite (.or (.nots (.call 11 (.val (.nm 2) (.io 5 .nil)))) (.deq true 5 6)) (.cons (.ret (.lit (.bl false))) .nil) .nil) e1 = .ok (.nx e1) := by
    refine ite_no (y := .nil) ?_
    simp [e1, evT, evE, evAs, en7, isUn, frz, t1, wb, setM, dctAt, q1]
  have x6 : EvI call e1 (.bin .mod (cellE 6) (.lit (.int 1000003))) (celV ns 6 % 1000003) := ei_mod (ec6 e1 rfl) ei_lit (by decide)
  have x5 : evE call (.idx (.nm 1) (.bin .mod (cellE 5) (.lit (.int 5)))) e1 = .ok (.val (.str (wordAt ws (celV ns 5 % 5))), e1) := ev_at rfl (ei_mod (ec5 e1 rfl) ei_lit (by decide)) (at_word m1 m2)
  unfold EvI at x6
  have s3 : evS call (.sto 5 (.idx (.nm 1) (.bin .mod (cellE 5) (.lit (.int 5)))) (.bin .mod (cellE 6) (.lit (.int 1000003)))) e1 = .ok (.nx e2) := by
    have d1 : dctAt e1 5 = some kvs := rfl
    simp only [evS, x6, x5, Res.bind_ok, d1, Res.of_some, hz, if_true]
    rfl
  have s4' : evS call (.set 6 (.dcopy 5)) e2 = .ok (.nx e3) := st_setO (env1 := e2) (n := 6) (o := .dct (store kvs (wordAt ws (celV ns 5 % 5)) (.int (celV ns 6 % 1000003)))) (by simp [evE, e2, en7, dctAt]) (by intro o; simp [e2, en7])
  have s5 : evS call (.ret (.and (.call 11 (.val (.nm 2) (.io 5 .nil))) (.deq false 5 6))) e3 = .ok (.rt (.val (.bl true)) e3) := by
    refine st_rv ?_
    simp [e3, evE, evAs, en7, isUn, frz, t2, wb, setM, dctAt, q2]
  refine ⟨e3, ?_, rfl⟩
  unfold tl
  rw [ss_nx s1, ss_nx s2, ss_nx s3, ss_nx s4']
  exact ss_rt s5
end SfH

namespace SfH
open PySem Sf
variable {F : Nat → Option Fn}
theorem law_spec (h0 : F 0 = some f0) (h1 : F 1 = some f1) (h2 : F 2 = some f2) (h3 : F 3 = some f3) (h4 : F 4 = some f4) (h5 : F 5 = some f5) (h6 : F 6 = some f6) (h7 : F 7 = some f7) (h8 : F 8 = some f8) (h9 : F 9 = some f9) (h10 : F 10 = some f10) (h11 : F 11 = some f11) (h12 : F 12 = some f12)
    (ns : List Int) (n : Nat) (hn : 60 ≤ n) : callN F (n + 1) 12 [.val (.ro (ns.map T.int))] = .ok (.val (.bl true), [.val (.ro (ns.map T.int))]) := by
  obtain ⟨m, rfl⟩ : ∃ m, n = m + 1 := ⟨n - 1, by omega⟩
  have hws := words_spec h5 (celV ns 0) 5 (by decide) (by decide) m
  have l5 : (wdsV (celV ns 0) 5).length = 5 := by simp [wdsV]
  have hok : ∀ x ∈ wdsV (celV ns 0) 5, okS x = true := fun x hx => by
    obtain ⟨k, hk, rfl⟩ := List.mem_map.mp hx
    exact (wdV_wd _ (by have := List.mem_range.mp hk; simp at this; omega)).ok
  generalize wdsV (celV ns 0) 5 = ws at *
  have hne : ws ≠ [] := by intro z; rw [z] at l5; cases l5
  obtain ⟨t, n1, n2, n3, _, n5⟩ := term_spec h4 h6 hok hne (celV ns 2 % 4).toNat (celV ns 1)
  have ed : (((celV ns 2 % 4).toNat : Nat) : Int) = celV ns 2 % 4 := by omega
  have hd4 : (celV ns 2 % 4).toNat ≤ 3 := by omega
  have ht := n5 (m + 1) (by omega)
  rw [ed] at ht
  have sz : t.size ≤ 8 := Nat.le_trans n3 (Nat.le_trans (Nat.pow_le_pow_right (by decide) hd4) (by decide))
  have told : ∀ {t : Tm}, t.nok → t.deep ≤ 20 → t.size ≤ 30 → ∀ {kvs : List (Str × T)}, KOk kvs → callN F (m + 1) 11 [.val t.enc, .io (.dct kvs)] = .ok (.val (.bl true), [.val t.enc, .io (.dct kvs)]) := fun {t} a b c {kvs} hk =>
    told_spec h0 h1 h2 h7 h8 h9 h10 h11 hk.cells t m (by omega) (by have : lim = 16000000 := rfl; omega) a
  have ec := fun k en g => ei_cell h3 (n := m) (env := en) (ns := ns) k g
  have gl := fun {t : Tm} (ht : t.nok) {mm : Int} (hm : mm ≤ 15) {s3 s4 : Sf.Slot} (f3 : FreeS s3) (f4 : FreeS s4) => grow_loop (call := callN F (m + 1)) (sc := .ro (ns.map T.int)) hok l5 ht hm f3 f4
  have cl := fun {te : T} {s3 s4 : Sf.Slot} (g3 : FreeS s3) {kvs : List (Str × T)} (hk : KOk kvs) (hl : kvs.length ≤ 1) {mm : Int} (hm : mm ≤ 3) => cells_loop h3 h4 (n := m) (ns := ns) l5 (te := te) (s4 := s4) g3 hk hl hm
  have tk := fun {te : T} {s3 s4 : Sf.Slot} {kvs : List (Str × T)} (hk : KOk kvs) (hl : kvs.length ≤ 4) (ht : ∀ {kvs : List (Str × T)}, KOk kvs → callN F (m + 1) 11 [.val te, .io (.dct kvs)] = .ok (.val (.bl true), [.val te, .io (.dct kvs)])) => tail_ok h3 (n := m) (ns := ns) l5 (s3 := s3) (s4 := s4) hk hl ht
  have main : ∃ e, evSs (callN F (m + 1)) c12 [.val (.ro (ns.map T.int)), .un, .un, .un, .un, .un, .un] = .ok (.rt (.val (.bl true)) e) ∧ get e 0 = .val (.ro (ns.map T.int)) := by
    generalize callN F (m + 1) = call at *
    have s1 : evS call (.set 1 a1E) [.val (.ro (ns.map T.int)), .un, .un, .un, .un, .un, .un] = .ok (.nx [.val (.ro (ns.map T.int)), .own (.lst (ws.map T.str)), .un, .un, .un, .un, .un]) := by
      refine st_setO (env1 := [.val (.ro (ns.map T.int)), .un, .un, .un, .un, .un, .un]) (n := 1) ?_ (by intro o; simp)
      have q := ec 0 [.val (.ro (ns.map T.int)), .un, .un, .un, .un, .un, .un] rfl
      unfold EvI at q
      unfold a1E
      generalize hA : cellE ((0 : Nat) : Int) = A at q
      simp only [evE, evAs, q, Res.bind_ok, frz, hws, wb]
    have s2 : evS call (.set 2 a2E) [.val (.ro (ns.map T.int)), .own (.lst (ws.map T.str)), .un, .un, .un, .un, .un] = .ok (.nx (en7 (.ro (ns.map T.int)) (.lst (ws.map T.str)) t.enc .un .un .un .un)) := by
      refine st_set (env1 := en7 (.ro (ns.map T.int)) (.lst (ws.map T.str)) .non .un .un .un .un |>.set 2 .un) (n := 2) ?_ (by intro o; simp [en7])
      have q1 := ec 1 [.val (.ro (ns.map T.int)), .own (.lst (ws.map T.str)), .un, .un, .un, .un, .un] rfl
      have q2 : EvI call [.val (.ro (ns.map T.int)), .val (.lst (ws.map T.str)), .un, .un, .un, .un, .un] (.bin .mod (cellE 2) (.lit (.int 4))) (celV ns 2 % 4) := ei_mod (ec 2 _ rfl) ei_lit (by decide)
      unfold EvI at q1 q2
      unfold a2E
      generalize hA : cellE ((1 : Nat) : Int) = A at q1
      generalize E.bin .mod (cellE 2) (.lit (.int 4)) = B at *
      simp only [evE, evAs, q1, q2, Res.bind_ok, frz, get_zero, get_succ, put_zero, put_succ, ht, wb, en7, List.set]
    have s3 : ∃ t' : Tm, t'.nok ∧ t'.deep ≤ 20 ∧ t'.size ≤ 30 ∧ ∃ s3' s4', FreeS s3' ∧ evS call (.ite a3T (.cons (.loop [3] (.rng a3R) b3) .nil) .nil) (en7 (.ro (ns.map T.int)) (.lst (ws.map T.str)) t.enc .un .un .un .un) = .ok (.nx (en7 (.ro (ns.map T.int)) (.lst (ws.map T.str)) t'.enc s3' s4' .un .un)) := by
      have q : evT call a3T (en7 (.ro (ns.map T.int)) (.lst (ws.map T.str)) t.enc .un .un .un .un) = .ok (decide (celV ns 2 / 16 % 6 = 1), en7 (.ro (ns.map T.int)) (.lst (ws.map T.str)) t.enc .un .un .un .un) :=
        et_eq (ei_mod (ei_div (ec 2 _ rfl) ei_lit (by decide)) ei_lit (by decide)) ei_lit
      by_cases h : celV ns 2 / 16 % 6 = 1
      · rw [decide_eq_true h] at q
        obtain ⟨t', a1, a2, a3, s3', s4', f3, f4, e⟩ := gl n1 (mm := celV ns 2 / 96 % 16) (by omega) (.inl rfl) (.inl rfl)
        refine ⟨t', a1, by omega, by omega, s3', s4', f3, ?_⟩
        rw [ite_yes q]
        have r : EvI call (en7 (.ro (ns.map T.int)) (.lst (ws.map T.str)) t.enc .un .un .un .un) a3R (celV ns 2 / 96 % 16) := ei_mod (ei_div (ec 2 _ rfl) ei_lit (by decide)) ei_lit (by decide)
        have sm : small (celV ns 2 / 96 % 16) = true := by unfold small; simp; omega
        have el : evS call (.loop [3] (.rng a3R) b3) (en7 (.ro (ns.map T.int)) (.lst (ws.map T.str)) t.enc .un .un .un .un) = .ok (.nx (en7 (.ro (ns.map T.int)) (.lst (ws.map T.str)) t'.enc s3' s4' .un .un)) := by
          unfold EvI at r
          simp only [evS, evI, r, Res.bind_ok, sm, if_true, lock, e, unlock]
        rw [ss_nx el, ss_end]
      · rw [decide_eq_false h] at q
        exact ⟨t, n1, by omega, by omega, .un, .un, .inl rfl, ite_no (y := .nil) q⟩
    obtain ⟨t', a1, a2, a3, s3', s4', f3, e3⟩ := s3
    have s5 : evS call (.set 5 (.dlit (.lit (.str "other")) (.lit (.int 7)))) (en7 (.ro (ns.map T.int)) (.lst (ws.map T.str)) t'.enc s3' s4' .un .un) = .ok (.nx (en7 (.ro (ns.map T.int)) (.lst (ws.map T.str)) t'.enc s3' s4' (.own (.dct [("other", .int 7)])) .un)) :=
      st_setO (env1 := en7 (.ro (ns.map T.int)) (.lst (ws.map T.str)) t'.enc s3' s4' .un .un) (n := 5) (o := .dct [("other", .int 7)]) (by simp [evE]) (by intro o; simp [en7])
    have k0 : KOk [("other", .int 7)] := ⟨fun p hp => ⟨7, by rw [List.mem_singleton.mp hp], by decide, by decide⟩, by simp⟩
    obtain ⟨kvs, s3'', g3, k1, k2, ec2⟩ := cl (te := t'.enc) (s4 := s4') f3 k0 (Nat.le_refl _) (mm := celV ns 2 / 4 % 4) (by omega)
    have s6 : evS call (.loop [3] (.rng a5R) b5) (en7 (.ro (ns.map T.int)) (.lst (ws.map T.str)) t'.enc s3' s4' (.own (.dct [("other", .int 7)])) .un) = .ok (.nx (en7 (.ro (ns.map T.int)) (.lst (ws.map T.str)) t'.enc s3'' s4' (.own (.dct kvs)) .un)) := by
      have r : EvI call (en7 (.ro (ns.map T.int)) (.lst (ws.map T.str)) t'.enc s3' s4' (.own (.dct [("other", .int 7)])) .un) a5R (celV ns 2 / 4 % 4) := ei_mod (ei_div (ec 2 _ rfl) ei_lit (by decide)) ei_lit (by decide)
      have sm : small (celV ns 2 / 4 % 4) = true := by unfold small; simp; omega
      unfold EvI at r
      simp only [evS, evI, r, Res.bind_ok, sm, if_true, lock, ec2, unlock]
    obtain ⟨e, w1, w2⟩ := tk (te := t'.enc) (s3 := s3'') (s4 := s4') k1 k2 (told a1 a2 a3)
    refine ⟨e, ?_, w2⟩
    rw [c12_eq, ss_nx s1, ss_nx s2, ss_nx e3, ss_nx s5, ss_nx s6, w1]
  obtain ⟨e, w1, w2⟩ := main
  rw [run_of h12]
  simp only [runFn, initE, Option.map_some, f12, List.length_cons, List.length_nil, Nat.reduceAdd, Nat.reduceSub, List.replicate, List.cons_append, List.nil_append, w1, Res.bind_ok, outs]
end SfH

namespace SfH
open PySem PySem.Spec PyProof.Rows L2 Sf
def top (i : Nat) : Stmt := PySem.Challenge.pw_safeturn_k01_terms.main.body.getD i (.Pass ⟨0, 0, 0, 0⟩)
def dd (x : Str) (i : Nat) : He.DefD := ⟨(x, none), x, x, defArgs (top i), defBody (top i), defScope (top i), [], []⟩
def ent (x : Str) (id : Nat) (ps N : List Str) (f : Fn) (i : Nat) : Ent := ⟨x, id, ps, N, f, defArgs (top i), defBody (top i), defScope (top i)⟩
def fn : List He.DefD := ([dd "parts" 2, dd "names_in" 3, dd "worth" 4, dd "_law_cell" 6, dd "_law_mixed" 7, dd "_law_words" 8, dd "_law_term" 9, dd "_law_names" 10, dd "_law_worth" 11, dd "_law_numbers" 12, dd "_law_once" 13, dd "_law_told" 14] : List He.DefD) ++ ([dd "law" 15] : List He.DefD)
def fa : List He.Fa := ([.glo "parts", .glo "names_in", .glo "worth", .glo "_law_cell", .glo "_law_mixed", .glo "_law_words", .glo "_law_term", .glo "_law_names", .glo "_law_worth", .glo "_law_numbers", .glo "_law_once", .glo "_law_told"] : List He.Fa) ++ ([.glo "law", .free "len", .free "range", .free "list", .free "tuple", .free "sorted", .free "set", .free "isinstance", .free "int", .free "str", .free "enumerate", .free "zip"] : List He.Fa) ++ ([.free "all", .free "max", .free "min", .free "bool", .free "dict", .int "BOUND" 1000003] : List He.Fa)
def tbl : List Ent := ([ent "parts" 0 ["term"] ["term"] f0 2, ent "names_in" 1 ["term"] ["term", "found", "part", "name"] f1 3, ent "worth" 2 ["term", "cells"] ["term", "cells", "one", "other"] f2 4, ent "_law_cell" 3 ["_law_script", "_law_k"] ["_law_script", "_law_k", "_law_cell_here", "_law_mark"] f3 6, ent "_law_mixed" 4 ["_law_cell_here", "_law_k"] ["_law_cell_here", "_law_k", "_law_mark"] f4 7, ent "_law_words" 5 ["_law_cell_here", "_law_many"] ["_law_cell_here", "_law_many", "_law_letters", "_law_base", "_law_at", "_law_k"] f5 8, ent "_law_term" 6 ["_law_cell_here", "_law_words_here", "_law_deep"] ["_law_cell_here", "_law_words_here", "_law_deep", "_law_kind", "_law_word"] f6 9, ent "_law_names" 7 ["_law_term_here"] ["_law_term_here"] f7 10, ent "_law_worth" 8 ["_law_term_here", "_law_cells"] ["_law_term_here", "_law_cells", "_law_one", "_law_other"] f8 11, ent "_law_numbers" 9 ["_law_found"] ["_law_found", "_law_number"] f9 12, ent "_law_once" 10 ["_law_names_here"] ["_law_names_here", "_law_found", "_law_name"] f10 13, ent "_law_told" 11 ["_law_term_here", "_law_cells"] ["_law_term_here", "_law_cells", "_law_found", "_law_number", "_law_name"] f11 14] : List Ent) ++ ([ent "law" 12 ["_law_script"] ["_law_script", "_law_words_here", "_law_term_here", "_law_k", "_law_name", "_law_cells", "_law_kept"] f12 15] : List Ent)
def gis : List (Str × Int) := [("BOUND", 1000003)]
def gss : List (Str × Str) := []
def free : List Str := (["len", "range", "list", "tuple", "sorted", "set", "isinstance", "int", "str", "enumerate", "zip", "all"] : List Str) ++ (["max", "min", "bool", "dict"] : List Str)
theorem good : tbl.all (Ent.good (tbOf tbl gis gss free)) = true := by decide +kernel
theorem idsNd : (tbl.map (·.id)).Nodup := by decide +kernel
abbrev R : PySem.W.OpenRow := PySem.W.OpenLaw.row PySem.Challenge.rw_safeturn_k01_terms
def loose : List PySem.Str := (["BOUND", "parts", "names_in", "worth", "_law_cell", "_law_mixed", "_law_words", "_law_term", "_law_names", "_law_worth", "_law_numbers", "_law_once"] : List PySem.Str) ++ (["_law_told"] : List PySem.Str)
abbrev hk : PySem.W.Hook := He.hookD 4 fa fn
def ob (s : PySem.W.SharedT) : He.AlD := He.obsDG 4 fa fn (HandSHeadRun.getT s)
theorem ob_eq (s : PySem.W.SharedT) : ob s = hk.obs s.abs := He.obsDG_eq (HandSHeadRun.getT_eq s)
theorem run (w : World) : HandSHeadRun.RunEq R (PySem.W.view R.prog [15]) hk ob 4000 loose w := by
  intro os
  kernel_rfl
section
variable {P : Program} {w : World} {K : PySem.W.Frag} {h : Heap} {mg : Str → Option Value}
theorem is_0 (X : K.In h) (G : h.Ns mainGlobals mg) (c : He.SaysD fa fn K) : EntIs K mg (ent "parts" 0 ["term"] ["term"] f0 2) := by
  obtain ⟨fd, D⟩ := c.def_ 0 (d := dd "parts" 2) rfl
  exact ⟨_, fd, D, He.glo_ok X G (c.fact 0 (f := .glo "parts") rfl), FunD.bindsN (ps := ["term"]) D fun _ _ _ _ _ _ us hl => match us, hl with | [_], _ => rfl⟩
theorem is_1 (X : K.In h) (G : h.Ns mainGlobals mg) (c : He.SaysD fa fn K) : EntIs K mg (ent "names_in" 1 ["term"] ["term", "found", "part", "name"] f1 3) := by
  obtain ⟨fd, D⟩ := c.def_ 1 (d := dd "names_in" 3) rfl
  exact ⟨_, fd, D, He.glo_ok X G (c.fact 1 (f := .glo "names_in") rfl), FunD.bindsN (ps := ["term"]) D fun _ _ _ _ _ _ us hl => match us, hl with | [_], _ => rfl⟩
theorem is_2 (X : K.In h) (G : h.Ns mainGlobals mg) (c : He.SaysD fa fn K) : EntIs K mg (ent "worth" 2 ["term", "cells"] ["term", "cells", "one", "other"] f2 4) := by
  obtain ⟨fd, D⟩ := c.def_ 2 (d := dd "worth" 4) rfl
  exact ⟨_, fd, D, He.glo_ok X G (c.fact 2 (f := .glo "worth") rfl), FunD.bindsN (ps := ["term", "cells"]) D fun _ _ _ _ _ _ us hl => match us, hl with | [_, _], _ => rfl⟩
theorem is_3 (X : K.In h) (G : h.Ns mainGlobals mg) (c : He.SaysD fa fn K) : EntIs K mg (ent "_law_cell" 3 ["_law_script", "_law_k"] ["_law_script", "_law_k", "_law_cell_here", "_law_mark"] f3 6) := by
  obtain ⟨fd, D⟩ := c.def_ 3 (d := dd "_law_cell" 6) rfl
  exact ⟨_, fd, D, He.glo_ok X G (c.fact 3 (f := .glo "_law_cell") rfl), FunD.bindsN (ps := ["_law_script", "_law_k"]) D fun _ _ _ _ _ _ us hl => match us, hl with | [_, _], _ => rfl⟩
theorem is_4 (X : K.In h) (G : h.Ns mainGlobals mg) (c : He.SaysD fa fn K) : EntIs K mg (ent "_law_mixed" 4 ["_law_cell_here", "_law_k"] ["_law_cell_here", "_law_k", "_law_mark"] f4 7) := by
  obtain ⟨fd, D⟩ := c.def_ 4 (d := dd "_law_mixed" 7) rfl
  exact ⟨_, fd, D, He.glo_ok X G (c.fact 4 (f := .glo "_law_mixed") rfl), FunD.bindsN (ps := ["_law_cell_here", "_law_k"]) D fun _ _ _ _ _ _ us hl => match us, hl with | [_, _], _ => rfl⟩
theorem is_5 (X : K.In h) (G : h.Ns mainGlobals mg) (c : He.SaysD fa fn K) : EntIs K mg (ent "_law_words" 5 ["_law_cell_here", "_law_many"] ["_law_cell_here", "_law_many", "_law_letters", "_law_base", "_law_at", "_law_k"] f5 8) := by
  obtain ⟨fd, D⟩ := c.def_ 5 (d := dd "_law_words" 8) rfl
  exact ⟨_, fd, D, He.glo_ok X G (c.fact 5 (f := .glo "_law_words") rfl), FunD.bindsN (ps := ["_law_cell_here", "_law_many"]) D fun _ _ _ _ _ _ us hl => match us, hl with | [_, _], _ => rfl⟩
theorem is_6 (X : K.In h) (G : h.Ns mainGlobals mg) (c : He.SaysD fa fn K) : EntIs K mg (ent "_law_term" 6 ["_law_cell_here", "_law_words_here", "_law_deep"] ["_law_cell_here", "_law_words_here", "_law_deep", "_law_kind", "_law_word"] f6 9) := by
  obtain ⟨fd, D⟩ := c.def_ 6 (d := dd "_law_term" 9) rfl
  exact ⟨_, fd, D, He.glo_ok X G (c.fact 6 (f := .glo "_law_term") rfl), FunD.bindsN (ps := ["_law_cell_here", "_law_words_here", "_law_deep"]) D fun _ _ _ _ _ _ us hl => match us, hl with | [_, _, _], _ => rfl⟩
theorem is_7 (X : K.In h) (G : h.Ns mainGlobals mg) (c : He.SaysD fa fn K) : EntIs K mg (ent "_law_names" 7 ["_law_term_here"] ["_law_term_here"] f7 10) := by
  obtain ⟨fd, D⟩ := c.def_ 7 (d := dd "_law_names" 10) rfl
  exact ⟨_, fd, D, He.glo_ok X G (c.fact 7 (f := .glo "_law_names") rfl), FunD.bindsN (ps := ["_law_term_here"]) D fun _ _ _ _ _ _ us hl => match us, hl with | [_], _ => rfl⟩
theorem is_8 (X : K.In h) (G : h.Ns mainGlobals mg) (c : He.SaysD fa fn K) : EntIs K mg (ent "_law_worth" 8 ["_law_term_here", "_law_cells"] ["_law_term_here", "_law_cells", "_law_one", "_law_other"] f8 11) := by
  obtain ⟨fd, D⟩ := c.def_ 8 (d := dd "_law_worth" 11) rfl
  exact ⟨_, fd, D, He.glo_ok X G (c.fact 8 (f := .glo "_law_worth") rfl), FunD.bindsN (ps := ["_law_term_here", "_law_cells"]) D fun _ _ _ _ _ _ us hl => match us, hl with | [_, _], _ => rfl⟩
theorem is_9 (X : K.In h) (G : h.Ns mainGlobals mg) (c : He.SaysD fa fn K) : EntIs K mg (ent "_law_numbers" 9 ["_law_found"] ["_law_found", "_law_number"] f9 12) := by
  obtain ⟨fd, D⟩ := c.def_ 9 (d := dd "_law_numbers" 12) rfl
  exact ⟨_, fd, D, He.glo_ok X G (c.fact 9 (f := .glo "_law_numbers") rfl), FunD.bindsN (ps := ["_law_found"]) D fun _ _ _ _ _ _ us hl => match us, hl with | [_], _ => rfl⟩
theorem is_10 (X : K.In h) (G : h.Ns mainGlobals mg) (c : He.SaysD fa fn K) : EntIs K mg (ent "_law_once" 10 ["_law_names_here"] ["_law_names_here", "_law_found", "_law_name"] f10 13) := by
  obtain ⟨fd, D⟩ := c.def_ 10 (d := dd "_law_once" 13) rfl
  exact ⟨_, fd, D, He.glo_ok X G (c.fact 10 (f := .glo "_law_once") rfl), FunD.bindsN (ps := ["_law_names_here"]) D fun _ _ _ _ _ _ us hl => match us, hl with | [_], _ => rfl⟩
theorem is_11 (X : K.In h) (G : h.Ns mainGlobals mg) (c : He.SaysD fa fn K) : EntIs K mg (ent "_law_told" 11 ["_law_term_here", "_law_cells"] ["_law_term_here", "_law_cells", "_law_found", "_law_number", "_law_name"] f11 14) := by
  obtain ⟨fd, D⟩ := c.def_ 11 (d := dd "_law_told" 14) rfl
  exact ⟨_, fd, D, He.glo_ok X G (c.fact 11 (f := .glo "_law_told") rfl), FunD.bindsN (ps := ["_law_term_here", "_law_cells"]) D fun _ _ _ _ _ _ us hl => match us, hl with | [_, _], _ => rfl⟩
theorem is_12 (X : K.In h) (G : h.Ns mainGlobals mg) (c : He.SaysD fa fn K) : EntIs K mg (ent "law" 12 ["_law_script"] ["_law_script", "_law_words_here", "_law_term_here", "_law_k", "_law_name", "_law_cells", "_law_kept"] f12 15) := by
  obtain ⟨fd, D⟩ := c.def_ 12 (d := dd "law" 15) rfl
  exact ⟨_, fd, D, He.glo_ok X G (c.fact 12 (f := .glo "law") rfl), FunD.bindsN (ps := ["_law_script"]) D fun _ _ _ _ _ _ us hl => match us, hl with | [_], _ => rfl⟩
theorem ents (X : K.In h) (G : h.Ns mainGlobals mg) (c : He.SaysD fa fn K) : ∀ e ∈ tbl, EntIs K mg e := by
  intro e he
  simp only [tbl, List.mem_append, List.mem_cons, List.not_mem_nil, or_false, or_assoc] at he
  rcases he with rfl | rfl | rfl | rfl | rfl | rfl | rfl | rfl | rfl | rfl | rfl | rfl | rfl
  · exact is_0 X G c
  · exact is_1 X G c
  · exact is_2 X G c
  · exact is_3 X G c
  · exact is_4 X G c
  · exact is_5 X G c
  · exact is_6 X G c
  · exact is_7 X G c
  · exact is_8 X G c
  · exact is_9 X G c
  · exact is_10 X G c
  · exact is_11 X G c
  · exact is_12 X G c
theorem tbf (X : K.In h) (G : h.Ns mainGlobals mg) (c : He.SaysD fa fn K) : TbF mg (tbOf tbl gis gss free) where
  int := by
    intro x i e
    simp only [tbOf, gis, List.lookup_cons, List.lookup_nil] at e
    split at e
    · rename_i hx
      cases e
      rw [show x = "BOUND" from by simpa using hx]
      exact He.int_ok X G (c.fact 29 (f := .int "BOUND" 1000003) rfl)
    · skip
      cases e
  str := by
    intro x i e
    simp [tbOf, gss] at e
  free := by
    intro x e
    have m : x ∈ free := by simpa [tbOf] using e
    simp only [free, List.mem_append, List.mem_cons, List.not_mem_nil, or_false, or_assoc] at m
    rcases m with rfl | rfl | rfl | rfl | rfl | rfl | rfl | rfl | rfl | rfl | rfl | rfl | rfl | rfl | rfl | rfl
    · exact He.free_ok X G (c.fact 13 (f := .free "len") rfl)
    · exact He.free_ok X G (c.fact 14 (f := .free "range") rfl)
    · exact He.free_ok X G (c.fact 15 (f := .free "list") rfl)
    · exact He.free_ok X G (c.fact 16 (f := .free "tuple") rfl)
    · exact He.free_ok X G (c.fact 17 (f := .free "sorted") rfl)
    · exact He.free_ok X G (c.fact 18 (f := .free "set") rfl)
    · exact He.free_ok X G (c.fact 19 (f := .free "isinstance") rfl)
    · exact He.free_ok X G (c.fact 20 (f := .free "int") rfl)
    · exact He.free_ok X G (c.fact 21 (f := .free "str") rfl)
    · exact He.free_ok X G (c.fact 22 (f := .free "enumerate") rfl)
    · exact He.free_ok X G (c.fact 23 (f := .free "zip") rfl)
    · exact He.free_ok X G (c.fact 24 (f := .free "all") rfl)
    · exact He.free_ok X G (c.fact 25 (f := .free "max") rfl)
    · exact He.free_ok X G (c.fact 26 (f := .free "min") rfl)
    · exact He.free_ok X G (c.fact 27 (f := .free "bool") rfl)
    · exact He.free_ok X G (c.fact 28 (f := .free "dict") rfl)
theorem fns (i : Nat) {e : Ent} (h : tbl[i]? = some e) : fnsOf tbl e.id = some e.fn := fns_at idsNd (List.mem_of_getElem? h)
theorem facts (X : K.In h) (G : h.Ns mainGlobals mg) {f : Addr} (hfa : mg ("law" : Str) = some (.ref f)) (c : He.SaysD fa fn K) :
    ∃ fd : FuncData, (∀ (s : Shared) (v : Value), BindsTo s fd ⟨[v], []⟩ [("_law_script", v)]) ∧ ∀ base : Heap, K.In base → base.Ns mainGlobals mg → FnOk P w K mg base CXE 65 f fd ["_law_script"] (spF K (callN (fnsOf tbl) 65) 12 1) := by
  obtain ⟨fd, D⟩ := c.def_ 12 (d := dd "law" 15) rfl
  have e := hfa.symm.trans (He.glo_ok X G (c.fact 12 (f := .glo "law") rfl))
  cases e
  have b := FunD.bindsA (ps := ["_law_script"]) D fun _ _ _ _ _ _ us hl => match us, hl with | [_], _ => rfl
  refine ⟨fd, fun s v => b s [v] rfl, fun base _ _ => ?_⟩
  have g := List.all_eq_true.mp good _ (List.mem_of_getElem? (i := 12) rfl)
  simp only [Ent.good, Bool.and_eq_true, decide_eq_true_eq] at g
  obtain ⟨⟨⟨⟨g1, g2⟩, g3⟩, g4⟩, g5⟩ := g
  exact Sf.FnOk.cxe (def_ok (P := P) (w := w) (base := base) (k := 64) D (sc_of g1) (fns 12 rfl) g2 g3 g4 g5 (all_ok (ents X G c) idsNd good (tbf X G c) 64) (tbf X G c))
end
theorem law_ok (ns : List Int) : callN (fnsOf tbl) 65 12 [.val (.ro (ns.map T.int))] = .ok (.val (.bl true), [.val (.ro (ns.map T.int))]) :=
  law_spec (fns 0 rfl) (fns 1 rfl) (fns 2 rfl) (fns 3 rfl) (fns 4 rfl) (fns 5 rfl) (fns 6 rfl) (fns 7 rfl) (fns 8 rfl) (fns 9 rfl) (fns 10 rfl) (fns 11 rfl) (fns 12 rfl) ns 64 (by decide)
end SfH
open PySem PySem.W PySem.Calls PyProof.Rows
theorem PySem.Challenge.cw_safeturn_k01_terms_holds : PySem.Challenge.rw_safeturn_k01_terms.Holds := by
  w_on; o_law
  refine HandSHeadRun.head_any (r := OpenLaw.row PySem.Challenge.rw_safeturn_k01_terms) (q := view (OpenLaw.row PySem.Challenge.rw_safeturn_k01_terms).prog [15]) (H := SfH.hk) (ob := SfH.ob) (M := 4000) (loose := SfH.loose) (d := HandSHeadRun.topDef (OpenLaw.row PySem.Challenge.rw_safeturn_k01_terms).prog 15) (kwd := []) SfH.ob_eq
    (by kernel_rfl) (fun s => by kernel_rfl) SfH.run (by kernel_rfl) (by kernel_rfl) (by kernel_rfl) (by rfl) (by first | assumption | decide +kernel) (by decide +kernel) ⟨rfl, rfl, rfl, rfl, rfl, by decide +kernel⟩ ?hw ?hc
  case hw => w_witness2
  case hc =>
    refine L2.walk_ofE (l := PySem.Challenge.rw_safeturn_k01_terms) (n := 63) (k := 65) (x := "_law_script") (CX := Sf.CXE) rfl (by decide) (by kernel_rfl) ⟨rfl, by decide, by decide⟩ ?F Sf.cxe_end
    intro w mg fa h Y G hmg0
    obtain ⟨K, KX, c⟩ := Y
    have hmg : mg ("law" : PySem.Str) = some (.ref fa) := by
      have e : (HandSHeadRun.topDef (OpenLaw.row PySem.Challenge.rw_safeturn_k01_terms).prog 15).name = ("law" : PySem.Str) := by kernel_rfl
      rw [← e]
      exact hmg0
    obtain ⟨fd, hb, hF⟩ := SfH.facts (P := (PySem.Challenge.rw_safeturn_k01_terms).prog) (w := w) KX G hmg c
    exact ⟨K, fd, Sf.spF K (Sf.callN (Sf.fnsOf SfH.tbl) 65) 12 1, KX, hb, fun H a ns hl _ hS => Sf.law_end (SfH.law_ok ns) hS, hF⟩
