import PyProof.Rows.All
import Wide.All
import OpenK.AllK
import Wide.FinOn
import KE.KStateDown
import KE.KDictKeyed
import KE.KDictWalk
import HandS.ForMost
import HandS.ForExc
import HandS.Flow
import HandS.Style
import HandS.IsInst
import HandS.Wide
import HandS.WideBits
import HandS.TupAny
import HandS.Defaults
import HandS.ExcField
import HandS.ExcIs
import HandS.ExcInit
import HandS.ExcSuper
import HandS.CallSlots
import HandS.EndBits
import HandS.HeadEnd
import HandS.HeadHook1
import HandS.HeadHook2
import HandS.Head2
import KE.OsArith
import PySem.Challenge.RW_everyworth_k02_built_semirings
set_option Elab.async false
set_option linter.all false
set_option maxRecDepth 100000
/-! M layer 1: pure values, the store, the monad, the operations. -/
namespace EW
open PySem

inductive D where
  | non | bl (b : Bool) | int (i : Int) | str (x : List Nat) | tup (xs : List D) | ref (n : Nat)
  deriving Inhabited

namespace D
mutual
def beq : D → D → Bool
  | .non, .non => true
  | .bl a, .bl b => a == b
  | .int a, .int b => a == b
  | .str a, .str b => a == b
  | .tup a, .tup b => beqs a b
  | .ref a, .ref b => a == b
  | _, _ => false
def beqs : List D → List D → Bool
  | [], [] => true
  | a :: as, b :: bs => beq a b && beqs as bs
  | _, _ => false
end
mutual
theorem beq_self : ∀ a : D, beq a a = true
  | .non => rfl
  | .bl a => by simp [beq]
  | .int a => by simp [beq]
  | .str a => by simp [beq]
  | .tup a => by rw [beq]; exact beqs_self a
  | .ref a => by simp [beq]
theorem beqs_self : ∀ a : List D, beqs a a = true
  | [] => rfl
  | a :: as => by rw [beqs, beq_self a, beqs_self as]; rfl
end
mutual
theorem eq_of_beq : ∀ a b : D, beq a b = true → a = b
  | .non, b, h => by cases b <;> first | rfl | cases h
  | .bl a, b, h => by cases b <;> first | (simp only [beq, beq_iff_eq] at h; rw [h]) | cases h
  | .int a, b, h => by cases b <;> first | (simp only [beq, beq_iff_eq] at h; rw [h]) | cases h
  | .str a, b, h => by cases b <;> first | (simp only [beq, beq_iff_eq] at h; rw [h]) | cases h
  | .tup a, b, h => by cases b <;> first | (rw [beq] at h; rw [eqs_of_beqs a _ h]) | cases h
  | .ref a, b, h => by cases b <;> first | (simp only [beq, beq_iff_eq] at h; rw [h]) | cases h
theorem eqs_of_beqs : ∀ a b : List D, beqs a b = true → a = b
  | [], b, h => by cases b <;> first | rfl | cases h
  | a :: as, b, h => by
    cases b with
    | nil => cases h
    | cons b bs =>
      rw [beqs, Bool.and_eq_true] at h
      rw [eq_of_beq a b h.1, eqs_of_beqs as bs h.2]
end
instance : DecidableEq D := fun a b => if h : beq a b = true then Decidable.isTrue (eq_of_beq a b h) else Decidable.isFalse fun e => h (e ▸ beq_self a)
end D

/-- a text by its signs -/
def S (s : String) : List Nat := (Str.ofString s).cps.toList
theorem S_inj {a b : String} : S a = S b ↔ a = b := by
  constructor
  · intro h
    unfold S at h
    rw [Str.ofString_eq_toList, Str.ofString_eq_toList] at h
    simp only at h
    have hm : ∀ (xs ys : List Char), xs.map Char.toNat = ys.map Char.toNat → xs = ys := by
      intro xs
      induction xs with
      | nil => intro ys e; cases ys with
        | nil => rfl
        | cons y ys => cases e
      | cons x xs ih => intro ys e; cases ys with
        | nil => cases e
        | cons y ys =>
          injection e with e1 e2
          rw [ih ys e2, Char.ext (UInt32.toNat_inj.mp e1)]
    exact String.toList_inj.mp (hm _ _ h)
  · intro h; rw [h]

inductive Ob where
  | lst (xs : List D) | rol (xs : List D) | dic (kvs : List (D × D)) | ins (c : Nat) (fs : List (Nat × D))
  deriving Inhabited

abbrev Sto := List Ob
structure Exn where
  c : Nat
  fs : List (Nat × D) := []
inductive Res (α : Type) where
  | ok (a : α) (s : Sto) | exc (x : Exn) (s : Sto) | no
def M (α : Type) : Type := Sto → Res α
namespace M
def pure {α : Type} (a : α) : M α := fun s => .ok a s
def bind {α β : Type} (x : M α) (f : α → M β) : M β := fun s => match x s with
  | .ok a s' => f a s'
  | .exc e s' => .exc e s'
  | .no => .no
instance : Monad M where
  pure := M.pure
  bind := M.bind
/-- no result is claimed -/
def stuck {α : Type} : M α := fun _ => .no
def raise {α : Type} (x : Exn) : M α := fun s => .exc x s
@[simp] theorem bind_ok {α β : Type} (x : M α) (f : α → M β) (s s' : Sto) (a : α) (h : x s = .ok a s') : (x >>= f) s = f a s' := by
  show M.bind x f s = _
  unfold M.bind; rw [h]
end M

/-! ### the store -/
def getO (n : Nat) : M Ob := fun s => match s[n]? with
  | some o => .ok o s
  | none => .no
def setO (n : Nat) (o : Ob) : M Unit := fun s => .ok () (s.set n o)
def newO (o : Ob) : M D := fun s => .ok (.ref s.length) (s ++ [o])

/-! ### the texts -/
def strOf (x : List Nat) : Str := ⟨x.toArray⟩

/-! ### truth -/
def tru (d : D) : M Bool := fun s => match d with
  | .non => .ok false s
  | .bl b => .ok b s
  | .int i => .ok (i != 0) s
  | .str x => if x.length ≤ sizeLine then .ok (!x.isEmpty) s else .no
  | .tup xs => .ok (!xs.isEmpty) s
  | .ref n => match s[n]? with
    | some (.lst xs) => .ok (!xs.isEmpty) s
    | some (.rol xs) => .ok (!xs.isEmpty) s
    | some (.dic kvs) => .ok (!kvs.isEmpty) s
    | _ => .no

/-! ### operators -/
inductive BO where
  | add | sub | mul | fdiv | mod | pow | and | or | xor | shl | shr
  deriving DecidableEq
def mulOk (i j : Int) : Bool := decide ((Builtin.Int.intBits i : Int) + (Builtin.Int.intBits j : Int) ≤ 134217728)
def bin (op : BO) (a b : D) : M D := fun s => match op, a, b with
  | .add, .int i, .int j => .ok (.int (i + j)) s
  | .sub, .int i, .int j => .ok (.int (i - j)) s
  | .mul, .int i, .int j => if mulOk i j then .ok (.int (i * j)) s else .no
  | .fdiv, .int i, .int j => if 0 < j ∧ j.natAbs.log2 < 9000 then .ok (.int (i / j)) s else .no
  | .mod, .int i, .int j => if 0 < j then .ok (.int (i % j)) s else .no
  | .pow, .int i, .int j => if 0 ≤ j ∧ j ≤ 1000000 ∧ i.natAbs < 2 ^ 64 then .ok (.int (i ^ j.toNat)) s else .no
  | .and, .int i, .int j => .ok (.int (Builtin.bitAnd i j)) s
  | .or, .int i, .int j => .ok (.int (Builtin.bitOr i j)) s
  | .xor, .int i, .int j => .ok (.int (Builtin.bitXor i j)) s
  | .shl, .int i, .int j => if 0 ≤ j ∧ (Builtin.Int.intBits i : Int) + j ≤ 2 ^ 27 then .ok (.int (i * 2 ^ j.toNat)) s else .no
  | .shr, .int i, .int j => if 0 ≤ j then .ok (.int (i / 2 ^ j.toNat)) s else .no
  | .add, .str x, .str y => if x.length + y.length ≤ sizeLine then .ok (.str (x ++ y)) s else .no
  | .add, .tup x, .tup y => if x.length + y.length ≤ sizeLine then .ok (.tup (x ++ y)) s else .no
  | .add, .ref m, .ref n => match s[m]?, s[n]? with
    | some (.lst x), some (.lst y) => if x.length + y.length ≤ sizeLine then .ok (.ref s.length) (s ++ [.lst (x ++ y)]) else .no
    | _, _ => .no
  | .mul, .str x, .int j => if 0 ≤ j ∧ j ≤ sizeLine ∧ x.length * j.toNat ≤ sizeLine then .ok (.str (List.replicate j.toNat x).flatten) s else .no
  | _, _, _ => .no

/-! ### comparisons -/
def omap {α β : Type} (f : α → Option β) : List α → Option (List β)
  | [] => some []
  | x :: xs => match f x with
    | none => none
    | some y => match omap f xs with
      | none => none
      | some ys => some (y :: ys)
/-- the data that a value is, at most n deep -/
def toPd (s : Sto) : Nat → D → Option PyData
  | _, .non => some .none
  | _, .bl b => some (.bool b)
  | _, .int i => some (.int i)
  | _, .str x => some (.str (strOf x))
  | 0, _ => none
  | n + 1, .tup xs => (omap (toPd s n) xs).map .tuple
  | n + 1, .ref i => match s[i]? with
    | some (.lst xs) => (omap (toPd s n) xs).map .list
    | some (.rol xs) => (omap (toPd s n) xs).map .list
    | _ => none
/-- a == b -/
def peq (s : Sto) (a b : D) : Option Bool := match toPd s 64 a, toPd s 64 b with
  | some x, some y => if SeqAt.shaped x && SeqAt.shaped y then some (PyData.eqv x y) else none
  | _, _ => none
inductive CO where
  | eq | ne | lt | le | gt | ge | is | isnot | isin | notin
  deriving DecidableEq
def cmpI : CO → Int → Int → Option Bool
  | .lt, i, j => some (decide (i < j))
  | .le, i, j => some (decide (i ≤ j))
  | .gt, i, j => some (decide (j < i))
  | .ge, i, j => some (decide (j ≤ i))
  | _, _, _ => none
/-! the key that a value is in a dict: ints and texts; nested tuples of these and None -/
mutual
def nk : D → Option NestedKey
  | .non => some .none
  | .int i => some (.num i)
  | .str x => some (.text (strOf x))
  | .tup xs => match nks xs with
    | some ks => some (.tup ks)
    | none => none
  | _ => none
def nks : List D → Option (List NestedKey)
  | [] => some []
  | x :: xs => match nk x, nks xs with
    | some k, some ks => some (k :: ks)
    | _, _ => none
end
def keyT : D → Bool
  | .tup _ => true
  | _ => false
/-- k may be asked for in a dict with these keys -/
def keyOk (kvs : List (D × D)) (k : D) : Bool := (match k with
    | .int _ => true
    | .str _ => true
    | .tup _ => (match nk k with
      | some x => decide (x.depth ≤ 8)
      | none => false)
    | _ => false) && kvs.all fun p => keyT p.1 == keyT k
def dget (kvs : List (D × D)) (k : D) : Option D := (kvs.find? fun p => decide (p.1 = k)).map (·.2)
def dput (kvs : List (D × D)) (k v : D) : List (D × D) :=
  if (kvs.any fun p => decide (p.1 = k)) = true then kvs.map (fun p => if p.1 = k then (p.1, v) else p) else kvs ++ [(k, v)]
def ddel (kvs : List (D × D)) (k : D) : List (D × D) := kvs.filter fun p => decide (p.1 ≠ k)

def cmp (op : CO) (a b : D) : M D := fun s => match op with
  | .eq => match peq s a b with
    | some k => .ok (.bl k) s
    | none => .no
  | .ne => match peq s a b with
    | some k => .ok (.bl (!k)) s
    | none => .no
  | .is => match b with
    | .non => .ok (.bl (decide (a = .non))) s
    | .bl y => match a with
      | .bl x => .ok (.bl (decide (x = y))) s
      | _ => .no
    | _ => .no
  | .isnot => match b with
    | .non => .ok (.bl (!decide (a = .non))) s
    | .bl y => match a with
      | .bl x => .ok (.bl (!decide (x = y))) s
      | _ => .no
    | _ => .no
  | .isin => .no
  | .notin => .no
  | o => match a, b with
    | .int i, .int j => match cmpI o i j with
      | some k => .ok (.bl k) s
      | none => .no
    | _, _ => .no
end EW

set_option Elab.async false
set_option linter.all false
set_option maxRecDepth 100000
/-! M layer 2: the small syntax and what it means. -/
namespace EW
open PySem

inductive Slot where
  | non | val (d : D) | exc (x : Exn)
  deriving Inhabited
abbrev Env := List Slot
inductive Ty where
  | int | bool | str | tup | lst | dic | cls (c : Nat)
  deriving DecidableEq
inductive IK where
  | plain | range1 | range2 | enum | items | values | zip
  deriving DecidableEq
inductive BI where
  | len | abs | int | str | min2 | max2 | minl | maxl | sum | all | any | sorted | tup | lst | dict | repr | gcd
  deriving DecidableEq
inductive BM where
  | append | extend | get1 | get2 | index | pop0 | pop1 | setdefault | update | split | join
  deriving DecidableEq
inductive Tg where
  | nm (i : Nat) | tp (is : List Nat) | tp2 (i : Nat) (js : List Nat)
  deriving DecidableEq

mutual
inductive CE where
  | var (i : Nat) | non | bl (b : Bool) | int (i : Int) | str (x : List Nat) | con (g : Nat)
  | bin (op : BO) (a b : CE) | neg (a : CE) | nt (a : CE) | andl (es : CEs) | orl (es : CEs)
  | cmp (op : CO) (a b : CE) | chn (op op2 : CO) (a b c : CE) | ife (t a b : CE)
  | fld (o : CE) (f : Nat) | ix (o i : CE) | slc (o lo hi : CE) | nope
  | tup (es : CEs) | lst (es : CEs) | dct (ks vs : CEs)
  | lc (own : List Nat) (tg : Tg) (k : IK) (src : CEs) (cond : CEs) (elt : CE)
  | call (f : Nat) (es : CEs) | make (c : Nat) (es : CEs) | meth (m : Nat) (o : CE) (es : CEs)
  | bi (b : BI) (es : CEs) | bm (b : BM) (o : CE) (es : CEs)
  | isi (e : CE) (ts : List Ty) | isx (i c : Nat) | xfl (i f : Nat)
inductive CEs where
  | nil | cons (e : CE) (r : CEs)
end
mutual
inductive CS where
  | expr (e : CE) | asg (t : Tg) (e : CE) | setf (o : CE) (f : Nat) (e : CE) | seti (o i e : CE) | deli (o i : CE)
  | ret (e : CE) | retn | ite (c : CE) (a b : CSs) | forS (t : Tg) (k : IK) (src : CEs) (b : CSs) | whl (c : CE) (b : CSs)
  | tryS (b : CSs) (c : Nat) (nm : Option Nat) (h : CSs) | raise (c : Nat) | raiseC (c f : Nat) (e : CE) | nop
inductive CSs where
  | nil | cons (s : CS) (r : CSs)
end
structure Fn where
  np : Nat
  ns : Nat
  body : CSs
/-- the program's tables: defs, methods by class, __init__ by class, subclasses of exceptions, constants, defaults -/
structure Prg where
  fns : List Fn
  meth : Nat → Nat → Option Nat
  init : Nat → Option Nat
  plain : Nat → Bool
  sub : Nat → Nat → Option Bool
  xr : Nat → Bool
  con : Nat → D
  dfl : Nat → Nat → List D
  np : Nat → Nat
  can : Nat → Nat → Bool
  flds : Nat → Nat → Bool
structure Cal where
  P : Prg
  L : Nat
  call : Nat → List D → M D

/-! ### iteration -/
structure Itr where
  n : Nat
  at_ : Nat → Sto → Option D
  fin : Sto → Bool
def lstAt (s : Sto) (m : Nat) : Option (List D) := match s[m]? with
  | some (.lst xs) => some xs
  | some (.rol xs) => some xs
  | _ => none
def itTup (xs : List D) : Itr := ⟨xs.length, fun i _ => xs[i]?, fun _ => true⟩
def itLst (m n : Nat) : Itr := ⟨n, fun i s => (lstAt s m).bind fun xs => xs[i]?, fun s => match lstAt s m with
  | some xs => decide (xs.length ≤ n)
  | none => false⟩
def itRng (lo : Int) (n : Nat) : Itr := ⟨n, fun i _ => some (.int (lo + i)), fun _ => true⟩
def b1 {α : Type} (f : D → M α) (vs : List D) : M α := fun s => match vs with
  | [d] => f d s
  | _ => .no
def b2 {α : Type} (f : D → D → M α) (vs : List D) : M α := fun s => match vs with
  | [d, e] => f d e s
  | _ => .no
def itPlain (d : D) : M Itr := fun s => match d with
  | .tup xs => .ok (itTup xs) s
  | .ref m => match lstAt s m with
    | some xs => .ok (itLst m xs.length) s
    | none => .no
  | _ => .no
def itR1 (d : D) : M Itr := fun s => match d with
  | .int j => if -(2 ^ 62) ≤ j ∧ j ≤ sizeLine then .ok (itRng 0 j.toNat) s else .no
  | _ => .no
def itR2 (d e : D) : M Itr := fun s => match d, e with
  | .int i, .int j => if -(2 ^ 62) ≤ i ∧ i < 2 ^ 62 ∧ -(2 ^ 62) ≤ j ∧ j < 2 ^ 62 ∧ j - i ≤ sizeLine then .ok (itRng i (j - i).toNat) s else .no
  | _, _ => .no
def mkIt (k : IK) : List D → M Itr := match k with
  | .plain => b1 itPlain
  | .range1 => b1 itR1
  | .range2 => b2 itR2
  | _ => fun _ => M.stuck
def setAll : List Nat → List D → Env → Env
  | i :: is, d :: ds, r => setAll is ds (r.set i (.val d))
  | _, _, r => r
def bindT : Tg → D → Env → M Env
  | .nm i, d, r => M.pure (r.set i (.val d))
  | .tp is, .tup ds, r => if is.length = ds.length then M.pure (setAll is ds r) else M.stuck
  | .tp2 i js, .tup [d, .tup ds], r => if js.length = ds.length then M.pure (setAll js ds (r.set i (.val d))) else M.stuck
  | _, _, _ => M.stuck
def wipeE : Env → List Nat → Env
  | r, [] => r
  | r, v :: vs => (wipeE r vs).set v .non
def lcGo (it : Itr) (body : D → M (Option D)) : Nat → Nat → List D → M (List D)
  | 0, _, acc => fun s => if it.fin s then .ok acc s else .no
  | n + 1, i, acc => fun s => match it.at_ i s with
    | none => .no
    | some x => match body x s with
      | .ok r s1 => lcGo it body n (i + 1) (acc ++ r.toList) s1
      | _ => .no

/-! ### operations by name -/
def ixN (n : Nat) (i : Int) : Option Nat := L2.ixN n i
def item (o i : D) : M D := fun s => match o, i with
  | .tup xs, .int j => match L2.atI xs j with
    | some d => .ok d s
    | none => .no
  | .str x, .int j => if x.length ≤ sizeLine then (match L2.atI x j with
    | some c => .ok (.str [c]) s
    | none => .no) else .no
  | .ref m, k => match s[m]? with
    | some (.lst xs) => (match k with
      | .int j => (match L2.atI xs j with
        | some d => .ok d s
        | none => .no)
      | _ => .no)
    | some (.rol xs) => (match k with
      | .int j => (match L2.atI xs j with
        | some d => .ok d s
        | none => .no)
      | _ => .no)
    | _ => .no
  | _, _ => .no
def setI (o i v : D) : M Unit := fun s => match o, i with
  | .ref m, .int j => match s[m]? with
    | some (.lst xs) => (match L2.ixN xs.length j with
      | some k => .ok () (s.set m (.lst (xs.set k v)))
      | none => .no)
    | _ => .no
  | _, _ => .no
def getF (P : Prg) (o : D) (f : Nat) : M D := fun s => match o with
  | .ref m => match s[m]? with
    | some (.ins c fs) => if P.flds c f then (match fs.lookup f with
      | some d => .ok d s
      | none => .no) else .no
    | _ => .no
  | _ => .no
def putA (f : Nat) (v : D) : List (Nat × D) → List (Nat × D)
  | [] => [(f, v)]
  | p :: r => if p.1 = f then (f, v) :: r else p :: putA f v r
def setF (P : Prg) (o : D) (f : Nat) (v : D) : M Unit := fun s => match o with
  | .ref m => match s[m]? with
    | some (.ins c fs) => if P.flds c f && decide (fs.length < 1000) then .ok () (s.set m (.ins c (putA f v fs))) else .no
    | _ => .no
  | _ => .no
/-- the def that o.m is -/
def methOf (P : Prg) (o : D) (m n : Nat) : M Nat := fun s => match o with
  | .ref i => match s[i]? with
    | some (.ins c _) => match P.meth c m with
      | some f => if P.can f n = true then .ok f s else .no
      | none => .no
    | _ => .no
  | _ => .no
def lenD (d : D) : M D := fun s => match d with
  | .tup xs => .ok (.int xs.length) s
  | .str x => if x.length ≤ sizeLine then .ok (.int x.length) s else .no
  | .ref m => match lstAt s m with
    | some xs => .ok (.int xs.length) s
    | none => .no
  | _ => .no
def absD (d : D) : M D := fun s => match d with
  | .int i => .ok (.int (if i < 0 then -i else i)) s
  | _ => .no
def intD (d : D) : M D := fun s => match d with
  | .int i => .ok (.int i) s
  | .bl b => .ok (.int (if b = true then 1 else 0)) s
  | _ => .no
def minD (a b : D) : M D := fun s => match a, b with
  | .int i, .int j => .ok (.int (if j < i then j else i)) s
  | _, _ => .no
def maxD (a b : D) : M D := fun s => match a, b with
  | .int i, .int j => .ok (.int (if j > i then j else i)) s
  | _, _ => .no
def blOf : D → Option Bool
  | .bl b => some b
  | _ => none
def allD (d : D) : M D := fun s => match d with
  | .ref m => match lstAt s m with
    | some xs => match omap blOf xs with
      | some bs => .ok (.bl (bs.all id)) s
      | none => .no
    | none => .no
  | _ => .no
def anyD (d : D) : M D := fun s => match d with
  | .ref m => match lstAt s m with
    | some xs => match omap blOf xs with
      | some bs => .ok (.bl (bs.any id)) s
      | none => .no
    | none => .no
  | _ => .no
def lstD (d : D) : M D := fun s => match d with
  | .ref m => match lstAt s m with
    | some xs => .ok (.ref s.length) (s ++ [.lst xs])
    | none => .no
  | .tup xs => .ok (.ref s.length) (s ++ [.lst xs])
  | _ => .no
def tupD (d : D) : M D := fun s => match d with
  | .ref m => match lstAt s m with
    | some xs => .ok (.tup xs) s
    | none => .no
  | .tup xs => .ok (.tup xs) s
  | _ => .no
def bis (b : BI) : List D → M D := match b with
  | .len => b1 lenD
  | .abs => b1 absD
  | .int => b1 intD
  | .min2 => b2 minD
  | .max2 => b2 maxD
  | .all => b1 allD
  | .any => b1 anyD
  | .lst => b1 lstD
  | .tup => b1 tupD
  | _ => fun _ => M.stuck
def appD (o v : D) : M D := fun s => match o with
  | .ref m => match s[m]? with
    | some (.lst xs) => if xs.length < sizeLine then .ok .non (s.set m (.lst (xs ++ [v]))) else .no
    | _ => .no
  | _ => .no
/-- what a method's receiver must be -/
def bmT : BM → Ty
  | .append | .extend | .index | .pop0 | .pop1 => .lst
  | .get1 | .get2 | .setdefault | .update => .dic
  | .split | .join => .str
def chkB (b : BM) (o : D) : M Unit := fun s => match bmT b, o with
  | .lst, .ref m => match s[m]? with
    | some (.lst _) => .ok () s
    | _ => .no
  | .dic, .ref m => match s[m]? with
    | some (.dic _) => .ok () s
    | _ => .no
  | .str, .str _ => .ok () s
  | _, _ => .no
def bms (b : BM) (o : D) (vs : List D) : M D := match b with
  | .append => b1 (appD o) vs
  | _ => M.stuck
def tyIs (s : Sto) (d : D) (t : Ty) : Option Bool := match d with
  | .non => some false
  | .bl _ => some (t == .bool || t == .int)
  | .int _ => some (t == .int)
  | .str _ => some (t == .str)
  | .tup _ => some (t == .tup)
  | .ref m => match s[m]? with
    | some (.lst _) => some (t == .lst)
    | some (.dic _) => some (t == .dic)
    | _ => none
def isiD (d : D) (ts : List Ty) : M D := fun s => match ts with
  | [t] => match tyIs s d t with
    | some b => .ok (.bl b) s
    | none => .no
  | _ => .no
def slotV (r : Env) (i : Nat) : M D := fun s => match r[i]? with
  | some (.val d) => .ok d s
  | _ => .no
def slotX (r : Env) (i : Nat) : M Exn := fun s => match r[i]? with
  | some (.exc x) => .ok x s
  | _ => .no
def neg (d : D) : M D := match d with
  | .int i => M.pure (.int (-i))
  | _ => M.stuck

def isxD (P : Prg) (x : Exn) (c : Nat) : M D := fun s => if x.fs = [] then (match P.sub x.c c with
    | some b => .ok (.bl b) s
    | none => .no) else .no
def CEs.len : CEs → Nat
  | .nil => 0
  | .cons _ r => r.len + 1
/-- a call: so many arguments are written, the defaults fill up -/
def callN (C : Cal) (f n : Nat) (vs : List D) : M D := if (vs ++ C.P.dfl f n).length = C.P.np f then C.call f (vs ++ C.P.dfl f n) else M.stuck
/-! ### the meaning -/
mutual
def den (C : Cal) (r : Env) : CE → M D
  | .var i => slotV r i
  | .non => M.pure .non
  | .bl b => M.pure (.bl b)
  | .int i => M.pure (.int i)
  | .str x => M.pure (.str x)
  | .con g => M.pure (C.P.con g)
  | .bin op a b => M.bind (den C r a) fun x => M.bind (den C r b) fun y => bin op x y
  | .neg a => M.bind (den C r a) neg
  | .nt a => M.bind (den C r a) fun x => M.bind (tru x) fun b => M.pure (.bl (!b))
  | .andl es => denAnd C r es
  | .orl es => denOr C r es
  | .cmp op a b => M.bind (den C r a) fun x => M.bind (den C r b) fun y => cmp op x y
  | .chn op op2 a b c => M.bind (den C r a) fun x => M.bind (den C r b) fun y => M.bind (cmp op x y) fun k => match k with
    | .bl true => M.bind (den C r c) fun z => cmp op2 y z
    | .bl false => M.pure (.bl false)
    | _ => M.stuck
  | .ife t a b => M.bind (den C r t) fun x => M.bind (tru x) fun k => if k = true then den C r a else den C r b
  | .fld o f => M.bind (den C r o) fun x => getF C.P x f
  | .ix o i => M.bind (den C r o) fun x => M.bind (den C r i) fun y => item x y
  | .slc o lo hi => M.stuck
  | .nope => M.stuck
  | .tup es => M.bind (dens C r es) fun xs => M.pure (.tup xs)
  | .lst es => M.bind (dens C r es) fun xs => newO (.lst xs)
  | .dct ks vs => M.stuck
  | .lc own tg k src cond elt => M.bind (dens C r src) fun vs => M.bind (mkIt k vs) fun it =>
      M.bind (lcGo it (fun x => M.bind (bindT tg x (wipeE r own)) fun r1 => M.bind (denC C r1 cond) fun b => if b = true then M.bind (den C r1 elt) fun y => M.pure (some y) else M.pure none) it.n 0 []) fun acc => newO (.lst acc)
  | .call f es => M.bind (dens C r es) fun xs => callN C f es.len xs
  | .make c es => M.bind (dens C r es) fun xs => match C.P.init c with
    | some f => M.bind (newO (.ins c [])) fun o => M.bind (callN C f (es.len + 1) (o :: xs)) fun v => if v = .non then M.pure o else M.stuck
    | none => if C.P.plain c = true ∧ xs = [] then newO (.ins c []) else M.stuck
  | .meth m o es => M.bind (den C r o) fun x => M.bind (methOf C.P x m (es.len + 1)) fun f => M.bind (dens C r es) fun xs => callN C f (es.len + 1) (x :: xs)
  | .bi b es => M.bind (dens C r es) fun xs => bis b xs
  | .bm b o es => M.bind (den C r o) fun x => M.bind (chkB b x) fun _ => M.bind (dens C r es) fun xs => bms b x xs
  | .isi e ts => M.bind (den C r e) fun x => isiD x ts
  | .isx i c => M.bind (slotX r i) fun x => isxD C.P x c
  | .xfl i f => M.bind (slotX r i) fun x => match x.fs.lookup f with
    | some d => M.pure d
    | none => M.stuck
def dens (C : Cal) (r : Env) : CEs → M (List D)
  | .nil => M.pure []
  | .cons e es => M.bind (den C r e) fun x => M.bind (dens C r es) fun xs => M.pure (x :: xs)
def denAnd (C : Cal) (r : Env) : CEs → M D
  | .nil => M.stuck
  | .cons e .nil => den C r e
  | .cons e (.cons e2 es) => M.bind (den C r e) fun x => M.bind (tru x) fun b => if b = true then denAnd C r (.cons e2 es) else M.pure x
def denOr (C : Cal) (r : Env) : CEs → M D
  | .nil => M.stuck
  | .cons e .nil => den C r e
  | .cons e (.cons e2 es) => M.bind (den C r e) fun x => M.bind (tru x) fun b => if b = true then M.pure x else denOr C r (.cons e2 es)
/-- a comprehension's tests: none, or one -/
def denC (C : Cal) (r : Env) : CEs → M Bool
  | .nil => M.pure true
  | .cons e .nil => M.bind (den C r e) tru
  | _ => M.stuck
end

/-! ### statements -/
inductive SRes where
  | nx (r : Env) (s : Sto) | rt (d : D) (s : Sto) | ex (x : Exn) (r : Env) (s : Sto) | no
def lift {α : Type} (m : M α) (r : Env) (k : α → Sto → SRes) : Sto → SRes := fun s => match m s with
  | .ok a s' => k a s'
  | .exc x s' => .ex x r s'
  | .no => .no
def forGo (it : Itr) (tg : Tg) (body : Env → Sto → SRes) : Nat → Nat → Env → Sto → SRes
  | 0, _, r, s => if it.fin s then .nx r s else .no
  | n + 1, i, r, s => match it.at_ i s with
    | none => .no
    | some x => match bindT tg x r s with
      | .ok r1 s1 => match body r1 s1 with
        | .nx r2 s2 => forGo it tg body n (i + 1) r2 s2
        | q => q
      | _ => .no
def whGo (c : Env → M Bool) (body : Env → Sto → SRes) : Nat → Env → Sto → SRes
  | 0, _, _ => .no
  | n + 1, r, s => match c r s with
    | .ok true s1 => match body r s1 with
      | .nx r2 s2 => whGo c body n r2 s2
      | q => q
    | .ok false s1 => .nx r s1
    | .exc x s1 => .ex x r s1
    | .no => .no
def setN (r : Env) (o : Option Nat) (v : Slot) : Env := match o with
  | some i => r.set i v
  | none => r
/-- no exception is held any more -/
def clrX (r : Env) : Env := r.map fun z => match z with
  | .exc _ => .non
  | z => z
mutual
def sem (C : Cal) (r : Env) (s : Sto) : CS → SRes
  | .expr e => lift (den C r e) r (fun _ s1 => .nx r s1) s
  | .asg t e => lift (M.bind (den C r e) fun x => bindT t x r) r (fun r1 s1 => .nx r1 s1) s
  | .setf o f e => lift (M.bind (den C r e) fun v => M.bind (den C r o) fun x => setF C.P x f v) r (fun _ s1 => .nx r s1) s
  | .seti o i e => lift (M.bind (den C r e) fun v => M.bind (den C r o) fun x => M.bind (den C r i) fun y => setI x y v) r (fun _ s1 => .nx r s1) s
  | .deli o i => .no
  | .ret e => lift (den C r e) r (fun v s1 => .rt v s1) s
  | .retn => .rt .non s
  | .ite c a b => match M.bind (den C r c) tru s with
    | .ok k s1 => if k = true then sems C r s1 a else sems C r s1 b
    | .exc x s1 => .ex x r s1
    | .no => .no
  | .forS t k src b => match M.bind (dens C r src) (mkIt k) s with
    | .ok it s1 => forGo it t (fun r s => sems C r s b) it.n 0 r s1
    | .exc x s1 => .ex x r s1
    | .no => .no
  | .whl c b => whGo (fun r => M.bind (den C r c) tru) (fun r s => sems C r s b) C.L r s
  | .tryS b c nm h => match sems C r s b with
    | .ex x r1 s1 => match C.P.sub x.c c with
      | some true => (match sems C (setN r1 nm (.exc x)) s1 h with
        | .nx r2 s2 => .nx (setN (clrX r2) nm .non) s2
        | .rt d s2 => .rt d s2
        | _ => .no)
      | some false => .ex x r1 s1
      | none => .no
    | q => q
  | .raise c => if C.P.xr c = true then .ex ⟨c, []⟩ r s else .no
  | .raiseC c f e => lift (den C r e) r (fun v s1 => .ex ⟨c, [(f, v)]⟩ r s1) s
  | .nop => .nx r s
def sems (C : Cal) (r : Env) (s : Sto) : CSs → SRes
  | .nil => .nx r s
  | .cons a b => match sem C r s a with
    | .nx r1 s1 => sems C r1 s1 b
    | q => q
end
def start (n : Nat) (vs : List D) : Env := vs.map Slot.val ++ List.replicate (n - vs.length) Slot.non
def endOf : SRes → Res D
  | .nx _ s => .ok .non s
  | .rt d s => .ok d s
  | .ex x _ s => .exc x s
  | .no => .no
/-- the def f, at most n calls deep -/
def run (P : Prg) (L : Nat) : Nat → Nat → List D → M D
  | 0, _, _ => M.stuck
  | n + 1, f, vs => fun s => match P.fns[f]? with
    | some q => if vs.length = q.np then endOf (sems ⟨P, L, run P L n⟩ (start q.ns vs) s q.body) else .no
    | none => .no
end EW

set_option Elab.async false
set_option linter.all false
set_option maxRecDepth 100000
/-! M layer 3: how the store lies in the abstract heap. -/
namespace EW
open PySem PySem.Spec PyProof.Rows L2

structure Gb where
  P : Program
  w : World
  K : PySem.W.Frag
  mg : Str → Option Value
  Q : Prg
  cA : Nat → Addr
  xA : Nat → Addr
  fN : Nat → Str

def isRol : Ob → Bool
  | .rol _ => true
  | _ => false
mutual
def RV (m : Nat → Addr) (n : Nat) (H : Hp) : V → D → Prop
  | v, .non => v = .non
  | v, .bl b => v = .bl b
  | v, .int i => v = .int i
  | v, .str x => v = .str (strOf x)
  | v, .tup ds => ∃ a vs, v = .ref a ∧ H a = some (.tup vs) ∧ vs.length ≤ sizeLine ∧ RVs m n H vs ds
  | v, .ref i => i < n ∧ v = .ref (m i)
def RVs (m : Nat → Addr) (n : Nat) (H : Hp) : List V → List D → Prop
  | vs, [] => vs = []
  | vs, d :: ds => ∃ v r, vs = v :: r ∧ RV m n H v d ∧ RVs m n H r ds
end
def FR (fN : Nat → Str) (m : Nat → Addr) (n : Nat) (H : Hp) : List (Str × V) → List (Nat × D) → Prop
  | vs, [] => vs = []
  | vs, p :: ds => ∃ v r, vs = (fN p.1, v) :: r ∧ RV m n H v p.2 ∧ FR fN m n H r ds
/-- a key of a dict of ints and texts -/
def keyD : Key → D
  | .inl i => .int i
  | .inr x => .str x.cps.toList
def KR (m : Nat → Addr) (n : Nat) (H : Hp) : List (Key × V) → List (D × D) → Prop
  | vs, [] => vs = []
  | vs, p :: ds => ∃ k v r, vs = (k, v) :: r ∧ p.1 = keyD k ∧ RV m n H v p.2 ∧ KR m n H r ds

def OR (G : Gb) (m : Nat → Addr) (n : Nat) (H : Hp) (a : Addr) : Ob → Prop
  | .lst ds => ds.length ≤ sizeLine ∧ ∃ vs, H a = some (.lst vs) ∧ RVs m n H vs ds
  | .rol ds => ds.length ≤ sizeLine ∧ ∃ vs, ((∃ o, H a = some (.frz o (.lst vs))) ∨ ∀ H', SqL G.K H' a vs) ∧ RVs m n H vs ds
  | .dic kvs => kvs.length ≤ sizeLine ∧ ∃ vs, H a = some (.dK vs) ∧ KR m n H vs kvs
  | .ins c fs => (∀ p ∈ fs, G.Q.flds c p.1 = true) ∧ ∃ dx vs, H a = some (.ins (G.cA c) dx vs) ∧ FR G.fN m n H vs fs

structure Rel (G : Gb) (m : Nat → Addr) (s : Sto) (H : Hp) : Prop where
  inj : ∀ (i j : Nat) (o o' : Ob), s[i]? = some o → s[j]? = some o' → isRol o = false → isRol o' = false → m i = m j → i = j
  obs : ∀ (i : Nat) (o : Ob), s[i]? = some o → OR G m s.length H (m i) o

/-- what a run leaves of the store and of the heap -/
structure Ext (m : Nat → Addr) (s : Sto) (H : Hp) (m' : Nat → Addr) (s' : Sto) (H' : Hp) : Prop where
  len : s.length ≤ s'.length
  mu : ∀ i : Nat, i < s.length → m' i = m i
  rol : ∀ (i : Nat) (o : Ob), s[i]? = some o → ∃ o', s'[i]? = some o' ∧ isRol o' = isRol o ∧ (isRol o = true → o' = o)
  fr : ∀ (a : Addr) (o : HO), H a = some o → (∀ (i : Nat) (u : Ob), s[i]? = some u → isRol u = false → m i ≠ a) → H' a = some o
  dm : ∀ (a : Addr) (o : HO), H a = some o → ∃ o', H' a = some o'
  nw : ∀ i : Nat, s.length ≤ i → i < s'.length → H (m' i) = none

section
variable {G : Gb} {m m' m'' : Nat → Addr} {s s' s'' : Sto} {H H' H'' : Hp} {n n' : Nat}
theorem Ext.refl : Ext m s H m s H := ⟨Nat.le_refl _, fun _ _ => rfl, fun _ o h => ⟨o, h, rfl, fun _ => rfl⟩, fun _ _ h _ => h, fun _ o h => ⟨o, h⟩, fun _ h1 h2 => absurd (Nat.lt_of_lt_of_le h2 h1) (Nat.lt_irrefl _)⟩
theorem Ext.trans (a : Ext m s H m' s' H') (b : Ext m' s' H' m'' s'' H'') : Ext m s H m'' s'' H'' where
  len := Nat.le_trans a.len b.len
  mu := fun i hi => (b.mu i (Nat.lt_of_lt_of_le hi a.len)).trans (a.mu i hi)
  rol := fun i o h => by
    obtain ⟨o1, h1, e1, r1⟩ := a.rol i o h
    obtain ⟨o2, h2, e2, r2⟩ := b.rol i o1 h1
    refine ⟨o2, h2, e2.trans e1, fun q => ?_⟩
    rw [r2 (e1.trans q), r1 q]
  fr := fun x o h hn => by
    refine b.fr x o (a.fr x o h hn) fun i u h1 h2 e => ?_
    by_cases hi : i < s.length
    · obtain ⟨o0, h0⟩ : ∃ o0, s[i]? = some o0 := ⟨s[i], by simp [hi]⟩
      obtain ⟨o', q1, q2, _⟩ := a.rol i o0 h0
      rw [h1] at q1; cases q1
      exact hn i o0 h0 (q2.symm.trans h2) ((a.mu i hi).symm.trans e)
    · have hi' : i < s'.length := (List.getElem?_eq_some_iff.mp h1).1
      have z := a.nw i (Nat.le_of_not_lt hi) hi'
      rw [e, h] at z; cases z
  dm := fun x o h => by
    obtain ⟨o1, h1⟩ := a.dm x o h
    exact b.dm x o1 h1
  nw := fun i h1 h2 => by
    by_cases hi : i < s'.length
    · rw [b.mu i hi]; exact a.nw i h1 hi
    · have z := b.nw i (Nat.le_of_not_lt hi) h2
      cases q : H (m'' i) with
      | none => rfl
      | some o =>
        obtain ⟨o1, z1⟩ := a.dm _ o q
        rw [z] at z1; cases z1

/-! ### what represents stays -/
/-- tuples stay, places stay -/
structure Stay (m : Nat → Addr) (n : Nat) (H : Hp) (m' : Nat → Addr) (n' : Nat) (H' : Hp) : Prop where
  le : n ≤ n'
  mu : ∀ i, i < n → m' i = m i
  tup : ∀ a vs, H a = some (.tup vs) → H' a = some (.tup vs)
mutual
theorem RV.mono (st : Stay m n H m' n' H') : ∀ (d : D) (v : V), RV m n H v d → RV m' n' H' v d
  | .non, _, h => h
  | .bl _, _, h => h
  | .int _, _, h => h
  | .str _, _, h => h
  | .tup ds, v, h => by
    unfold RV at h ⊢
    obtain ⟨a, vs, e, h1, h2, h3⟩ := h
    exact ⟨a, vs, e, st.tup _ _ h1, h2, RVs.mono st ds vs h3⟩
  | .ref i, v, h => by
    unfold RV at h ⊢
    exact ⟨Nat.lt_of_lt_of_le h.1 st.le, by rw [st.mu i h.1]; exact h.2⟩
theorem RVs.mono (st : Stay m n H m' n' H') : ∀ (ds : List D) (vs : List V), RVs m n H vs ds → RVs m' n' H' vs ds
  | [], _, h => h
  | d :: ds, vs, h => by
    unfold RVs at h ⊢
    obtain ⟨v, r, e, h1, h2⟩ := h
    exact ⟨v, r, e, RV.mono st d v h1, RVs.mono st ds r h2⟩
end
theorem FR.mono {fN : Nat → Str} (st : Stay m n H m' n' H') : ∀ (ds : List (Nat × D)) (vs : List (Str × V)), FR fN m n H vs ds → FR fN m' n' H' vs ds
  | [], _, h => h
  | p :: ds, vs, h => by
    unfold FR at h ⊢
    obtain ⟨v, r, e, h1, h2⟩ := h
    exact ⟨v, r, e, RV.mono st _ v h1, FR.mono st ds r h2⟩
theorem KR.mono (st : Stay m n H m' n' H') : ∀ (ds : List (D × D)) (vs : List (Key × V)), KR m n H vs ds → KR m' n' H' vs ds
  | [], _, h => h
  | p :: ds, vs, h => by
    unfold KR at h ⊢
    obtain ⟨k, v, r, e, hk, h1, h2⟩ := h
    exact ⟨k, v, r, e, hk, RV.mono st _ v h1, KR.mono st ds r h2⟩
theorem OR.mono {a : Addr} (st : Stay m n H m' n' H') : ∀ {o : Ob}, OR G m n H a o → (isRol o = false → H' a = H a) → (isRol o = true → ∀ ob u, H a = some (.frz ob u) → H' a = some (.frz ob u)) → OR G m' n' H' a o
  | .lst ds, ⟨z, vs, h1, h2⟩, k, _ => ⟨z, vs, by rw [k rfl]; exact h1, RVs.mono st ds vs h2⟩
  | .rol ds, ⟨z, vs, h1, h2⟩, _, k => ⟨z, vs, h1.elim (fun ⟨o, q⟩ => .inl ⟨o, k rfl _ _ q⟩) .inr, RVs.mono st ds vs h2⟩
  | .dic kvs, ⟨z, vs, h1, h2⟩, k, _ => ⟨z, vs, by rw [k rfl]; exact h1, KR.mono st kvs vs h2⟩
  | .ins c fs, ⟨z, dx, vs, h1, h2⟩, k, _ => ⟨z, dx, vs, by rw [k rfl]; exact h1, FR.mono st fs vs h2⟩
/-- what stands at an object of our own -/
theorem OR.own {a : Addr} {o : Ob} (h : OR G m n H a o) (ho : isRol o = false) : ∃ u, H a = some u ∧ (∀ vs, u ≠ .tup vs) ∧ ∀ ob w, u ≠ .frz ob w := by
  cases o with
  | lst ds =>
    obtain ⟨_, vs, h1, _⟩ := h
    exact ⟨_, h1, fun _ e => HO.noConfusion e, fun _ _ e => HO.noConfusion e⟩
  | rol ds => cases ho
  | dic kvs =>
    obtain ⟨_, vs, h1, _⟩ := h
    exact ⟨_, h1, fun _ e => HO.noConfusion e, fun _ _ e => HO.noConfusion e⟩
  | ins c fs =>
    obtain ⟨_, dx, vs, h1, _⟩ := h
    exact ⟨_, h1, fun _ e => HO.noConfusion e, fun _ _ e => HO.noConfusion e⟩
theorem Ext.stay (r : Rel G m s H) (e : Ext m s H m' s' H') : Stay m s.length H m' s'.length H' :=
  ⟨e.len, e.mu, fun a vs h => e.fr a _ h fun i u h1 h2 q => by
    obtain ⟨w, h3, h4, _⟩ := OR.own (r.obs i u h1) h2
    rw [q, h] at h3
    cases h3
    exact h4 vs rfl⟩
theorem Rel.lt (r : Rel G m s H) {i : Nat} {o : Ob} (h : s[i]? = some o) : i < s.length := (List.getElem?_eq_some_iff.mp h).1

/-! ### steps of the store -/
/-- nothing of ours changes -/
theorem Rel.same (r : Rel G m s H) (st : ∀ a o, H a = some o → H' a = some o) : Rel G m s H' ∧ Ext m s H m s H' := by
  refine ⟨⟨r.inj, fun i o h => ?_⟩, ⟨Nat.le_refl _, fun _ _ => rfl, fun _ o h => ⟨o, h, rfl, fun _ => rfl⟩, fun a o h _ => st a o h, fun a o h => ⟨o, st a o h⟩, fun _ h1 h2 => absurd (Nat.lt_of_lt_of_le h2 h1) (Nat.lt_irrefl _)⟩⟩
  refine OR.mono ⟨Nat.le_refl _, fun _ _ => rfl, fun a vs q => st a _ q⟩ (r.obs i o h) (fun q => ?_) fun _ ob u q => st _ _ q
  obtain ⟨u, h1, _⟩ := OR.own (r.obs i o h) q
  rw [h1, st _ _ h1]
theorem upd_keep {p : Addr} {o : HO} (hp : H p = none) : ∀ a u, H a = some u → upd H p o a = some u := fun a u h => by
  rw [upd_ne (ne_of_none h hp)]; exact h
/-- a new object -/
theorem Rel.new (r : Rel G m s H) {p : Addr} {o : Ob} (hp : H p = none) (st : ∀ a u, H a = some u → H' a = some u) (ho : isRol o = false) (hH : ∃ u, H' p = some u)
    (new : ∀ m' n', Stay m s.length H m' n' H' → OR G m' n' H' p o) :
    ∃ m', m' s.length = p ∧ Rel G m' (s ++ [o]) H' ∧ Ext m s H m' (s ++ [o]) H' := by
  refine ⟨fun i => if i = s.length then p else m i, by simp, ?_, ?_⟩
  · have S : Stay m s.length H (fun i => if i = s.length then p else m i) (s ++ [o]).length H' :=
      ⟨by simp, fun i hi => by simp [Nat.ne_of_lt hi], fun a vs q => st a _ q⟩
    refine ⟨fun i j u v h1 h2 h3 h4 e => ?_, fun i u h => ?_⟩
    · have key : ∀ k w, (s ++ [o])[k]? = some w → isRol w = false → k ≠ s.length → (if k = s.length then p else m k) ≠ p ∧ s[k]? = some w := fun k w hk hw hne => by
        have hl : k < s.length := by
          have := (List.getElem?_eq_some_iff.mp hk).1
          simp at this; omega
        rw [List.getElem?_append_left hl] at hk
        refine ⟨?_, hk⟩
        rw [if_neg hne]
        obtain ⟨x, hx, _⟩ := OR.own (r.obs k w hk) hw
        intro q; rw [q, hp] at hx; cases hx
      by_cases hi : i = s.length
      · by_cases hj : j = s.length
        · rw [hi, hj]
        · obtain ⟨n1, _⟩ := key j v h2 h4 hj
          simp only [hi, if_true] at e
          exact absurd e.symm n1
      · by_cases hj : j = s.length
        · obtain ⟨n1, _⟩ := key i u h1 h3 hi
          simp only [hj, if_true] at e
          exact absurd e n1
        · obtain ⟨_, q1⟩ := key i u h1 h3 hi
          obtain ⟨_, q2⟩ := key j v h2 h4 hj
          simp only [if_neg hi, if_neg hj] at e
          exact r.inj i j u v q1 q2 h3 h4 e
    · by_cases hi : i = s.length
      · subst hi
        simp at h
        subst h
        simp only [if_true]
        exact new _ _ S
      · have hl : i < s.length := by
          have := (List.getElem?_eq_some_iff.mp h).1
          simp at this; omega
        rw [List.getElem?_append_left hl] at h
        simp only [if_neg hi]
        refine OR.mono S (r.obs i u h) (fun q => ?_) fun _ ob w q => st _ _ q
        obtain ⟨x, h1, _⟩ := OR.own (r.obs i u h) q
        rw [h1, st _ _ h1]
  · refine ⟨by simp, fun i hi => by simp [Nat.ne_of_lt hi], fun i u h => ⟨u, ?_, rfl, fun _ => rfl⟩, fun a u h _ => st a u h, fun a u h => ⟨u, st a u h⟩, fun i h1 h2 => ?_⟩
    · rw [List.getElem?_append_left (List.getElem?_eq_some_iff.mp h).1]; exact h
    · have e : i = s.length := by simp at h2; omega
      simp only [e, if_true]; exact hp
/-- an object changed -/
theorem Rel.put (r : Rel G m s H) {i : Nat} {o o' : Ob} {u : HO} (h : s[i]? = some o) (ho : isRol o = false) (ho' : isRol o' = false) 
    (nt : ∀ vs, u ≠ .tup vs) (new : OR G m s.length (upd H (m i) u) (m i) o') : Rel G m (s.set i o') (upd H (m i) u) ∧ Ext m s H m (s.set i o') (upd H (m i) u) := by
  have hl := r.lt h
  obtain ⟨x, hx, hx1, hx2⟩ := OR.own (r.obs i o h) ho
  have tupK : ∀ a vs, H a = some (.tup vs) → upd H (m i) u a = some (.tup vs) := fun a vs q => by
    rw [upd_ne]; exact q
    intro e; rw [e, hx] at q; cases q; exact hx1 vs rfl
  refine ⟨⟨fun j k a b h1 h2 h3 h4 e => ?_, fun j a hj => ?_⟩, ⟨by simp, fun _ _ => rfl, fun j a hj => ?_, fun a w q hn => ?_, fun a w q => ?_, fun j h1 h2 => ?_⟩⟩
  · have key : ∀ j a, (s.set i o')[j]? = some a → isRol a = false → ∃ b, s[j]? = some b ∧ isRol b = false := fun j a hj ha => by
      by_cases hji : i = j
      · subst hji; exact ⟨o, h, ho⟩
      · rw [List.getElem?_set_ne hji] at hj; exact ⟨a, hj, ha⟩
    obtain ⟨a', q1, q2⟩ := key j a h1 h3
    obtain ⟨b', q3, q4⟩ := key k b h2 h4
    exact r.inj j k a' b' q1 q3 q2 q4 e
  · rw [List.length_set]
    by_cases hji : i = j
    · subst hji
      rw [List.getElem?_set_self hl] at hj; cases hj
      exact new
    · rw [List.getElem?_set_ne hji] at hj
      refine OR.mono ⟨Nat.le_refl _, fun _ _ => rfl, tupK⟩ (r.obs j a hj) (fun q => ?_) fun _ ob w q => ?_
      · exact upd_ne fun e => hji (r.inj j i a o hj h q ho e).symm
      · rw [upd_ne]; exact q
        intro e; rw [e, hx] at q; cases q; exact hx2 ob w rfl
  · by_cases hji : i = j
    · subst hji
      rw [h] at hj; cases hj
      exact ⟨o', by rw [List.getElem?_set_self hl], by rw [ho, ho'], fun q => by rw [ho] at q; cases q⟩
    · exact ⟨a, by rw [List.getElem?_set_ne hji]; exact hj, rfl, fun _ => rfl⟩
  · rw [upd_ne (fun e => hn i o h ho e.symm)]; exact q
  · by_cases e : a = m i
    · exact ⟨u, by rw [e, upd_same]⟩
    · exact ⟨w, by rw [upd_ne e]; exact q⟩
  · rw [List.length_set] at h2; omega
end

section
variable {G : Gb} {m : Nat → Addr} {s : Sto} {H H' : Hp} {n : Nat}
theorem RVs.len : ∀ {ds : List D} {vs : List V}, RVs m n H vs ds → vs.length = ds.length
  | [], vs, h => by unfold RVs at h; rw [h]; rfl
  | d :: ds, vs, h => by
    unfold RVs at h
    obtain ⟨v, r, e, _, h2⟩ := h
    rw [e, List.length_cons, List.length_cons, RVs.len h2]
theorem RVs.app : ∀ {ds es : List D} {vs ws : List V}, RVs m n H vs ds → RVs m n H ws es → RVs m n H (vs ++ ws) (ds ++ es)
  | [], es, vs, ws, h, k => by unfold RVs at h; rw [h]; exact k
  | d :: ds, es, vs, ws, h, k => by
    unfold RVs at h
    obtain ⟨v, r, e, h1, h2⟩ := h
    rw [e]
    show RVs m n H (v :: (r ++ ws)) (d :: (ds ++ es))
    unfold RVs
    exact ⟨v, r ++ ws, rfl, h1, RVs.app h2 k⟩
theorem RVs.get : ∀ {ds : List D} {vs : List V} {i : Nat} {v : V}, RVs m n H vs ds → vs[i]? = some v → ∃ d, ds[i]? = some d ∧ RV m n H v d
  | [], vs, i, v, h, e => by unfold RVs at h; rw [h] at e; cases e
  | d :: ds, vs, i, v, h, e => by
    unfold RVs at h
    obtain ⟨w, r, q, h1, h2⟩ := h
    subst q
    cases i with
    | zero =>
      have e' : w = v := Option.some.inj e
      exact ⟨d, rfl, e' ▸ h1⟩
    | succ i => exact RVs.get (i := i) h2 e
theorem RVs.at_ : ∀ {ds : List D} {vs : List V} {i : Nat} {d : D}, RVs m n H vs ds → ds[i]? = some d → ∃ v, vs[i]? = some v ∧ RV m n H v d
  | [], vs, i, v, h, e => by cases e
  | d :: ds, vs, i, d', h, e => by
    unfold RVs at h
    obtain ⟨w, r, q, h1, h2⟩ := h
    subst q
    cases i with
    | zero =>
      have e' : d = d' := Option.some.inj e
      exact ⟨w, rfl, e' ▸ h1⟩
    | succ i => exact RVs.at_ (i := i) h2 e
theorem RVs.one {v : V} {d : D} (h : RV m n H v d) : RVs m n H [v] [d] := by
  unfold RVs
  exact ⟨v, [], rfl, h, by unfold RVs; rfl⟩
theorem RVs.set : ∀ {ds : List D} {vs : List V} {v : V} {d : D} (i : Nat), RVs m n H vs ds → RV m n H v d → RVs m n H (vs.set i v) (ds.set i d)
  | [], vs, v, d, i, h, k => by unfold RVs at h; rw [h]; unfold RVs; rfl
  | e :: ds, vs, v, d, i, h, k => by
    unfold RVs at h
    obtain ⟨w, r, q, h1, h2⟩ := h
    subst q
    cases i with
    | zero =>
      show RVs m n H (v :: r) (d :: ds)
      unfold RVs
      exact ⟨v, r, rfl, k, h2⟩
    | succ i =>
      show RVs m n H (w :: r.set i v) (e :: ds.set i d)
      unfold RVs
      exact ⟨w, _, rfl, h1, RVs.set i h2 k⟩
/-- a new tuple -/
theorem Rel.tup (r : Rel G m s H) {p : Addr} {vs : List V} {ds : List D} (hp : H p = none) (h : RVs m s.length H vs ds) (z : vs.length ≤ sizeLine) :
    Rel G m s (upd H p (.tup vs)) ∧ Ext m s H m s (upd H p (.tup vs)) ∧ RV m s.length (upd H p (.tup vs)) (.ref p) (.tup ds) := by
  obtain ⟨r1, e1⟩ := r.same (upd_keep (o := .tup vs) hp)
  refine ⟨r1, e1, ?_⟩
  unfold RV
  exact ⟨p, vs, rfl, upd_same, z, RVs.mono (e1.stay r) ds vs h⟩
/-- a new list -/
theorem Rel.lst (r : Rel G m s H) {p : Addr} {vs : List V} {ds : List D} (hp : H p = none) (h : RVs m s.length H vs ds) (z : vs.length ≤ sizeLine) :
    ∃ m', Rel G m' (s ++ [.lst ds]) (upd H p (.lst vs)) ∧ Ext m s H m' (s ++ [.lst ds]) (upd H p (.lst vs)) ∧ RV m' (s ++ [Ob.lst ds]).length (upd H p (.lst vs)) (.ref p) (.ref s.length) := by
  obtain ⟨m', h1, h2, h3⟩ := r.new (o := .lst ds) (H' := upd H p (.lst vs)) hp (upd_keep hp) rfl ⟨_, upd_same⟩ fun m' n' st => ⟨by rw [← h.len]; exact z, vs, upd_same, RVs.mono st ds vs h⟩
  refine ⟨m', h2, h3, ?_⟩
  unfold RV
  exact ⟨by simp, by rw [h1]⟩
/-- the list that a reference is -/
theorem Rel.lstAt (r : Rel G m s H) {i : Nat} {ds : List D} (h : EW.lstAt s i = some ds) : ∃ vs, SqL G.K H (m i) vs ∧ RVs m s.length H vs ds ∧ ds.length ≤ sizeLine := by
  unfold EW.lstAt at h
  split at h
  · rename_i xs q
    cases h
    obtain ⟨z, vs, h1, h2⟩ := r.obs i _ q
    exact ⟨vs, .of h1, h2, z⟩
  · rename_i xs q
    cases h
    obtain ⟨z, vs, h1, h2⟩ := r.obs i _ q
    refine ⟨vs, ?_, h2, z⟩
    rcases h1 with ⟨o, h1⟩ | h1
    · exact .inl (.inr ⟨o, h1⟩)
    · exact h1 H
  · cases h
end
end EW

set_option Elab.async false
set_option linter.all false
set_option maxRecDepth 100000
/-! M layer 4: readings by meaning, and the rules for expressions. -/
namespace EW
open PySem PySem.Spec PyProof.Rows L2

/-- what is wished of exceptions, and what is known of the one that is handled -/
structure Pm where
  W : WX
  chi : Addr → Exn → Prop
abbrev Mp := Nat → Addr
abbrev AS := L2.St
structure RE (chi : Addr → Exn → Prop) (m : Mp) (n : Nat) (H : Hp) (a : AS) (r : Env) : Prop where
  len : a.length = r.length
  val : ∀ (i : Nat) (d : D), r[i]? = some (.val d) → ∃ v, a[i]? = some (some v) ∧ RV m n H v d
  exc : ∀ (i : Nat) (x : Exn), r[i]? = some (.exc x) → ∃ p, a[i]? = some (some (.ref p)) ∧ chi p x
def XR (G : Gb) (m : Mp) (n : Nat) (H : Hp) (cls : Value) (dd : Option Addr) (x : Exn) : Prop :=
  cls = .ref (G.xA x.c) ∧ match x.fs with
    | [] => dd = none
    | f :: fs => ∃ d vs, dd = some d ∧ H d = some (.xd vs) ∧ FR G.fN m n H vs (f :: fs)
abbrev XP := Exn → Mp → Sto → Hp → Prop
def Post {α : Type} (G : Gb) (m : Mp) (s : Sto) (H : Hp) (X : XP) (q : Res α) (K : α → Mp → Sto → Hp → Prop) : Prop := match q with
  | .ok a s' => ∀ m' H', Ext m s H m' s' H' → Rel G m' s' H' → K a m' s' H'
  | .exc x s' => ∀ m' H', Ext m s H m' s' H' → Rel G m' s' H' → X x m' s' H'
  | .no => False
def wX (G : Gb) (W : WX) (a : AS) : XP := fun x m s H => ∀ cls dd, XR G m s.length H cls dd x → W cls dd a H

section
variable {G : Gb} {m : Mp} {s : Sto} {H : Hp} {X : XP} {α β : Type}
theorem Post.bind {x : M α} {f : α → M β} {K : β → Mp → Sto → Hp → Prop} (h : Post G m s H X (M.bind x f s) K) :
    Post G m s H X (x s) (fun a m1 s1 H1 => Post G m1 s1 H1 X (f a s1) K) := by
  unfold M.bind at h
  cases q : x s with
  | ok a s1 =>
    rw [q] at h
    have h : Post G m s H X (f a s1) K := h
    intro m1 H1 e1 r1
    show Post G m1 s1 H1 X (f a s1) K
    cases z : f a s1 with
    | ok b s2 =>
      rw [z] at h
      exact fun m2 H2 e2 r2 => h m2 H2 (e1.trans e2) r2
    | exc b s2 =>
      rw [z] at h
      exact fun m2 H2 e2 r2 => h m2 H2 (e1.trans e2) r2
    | no => rw [z] at h; exact h
  | exc a s1 => rw [q] at h; exact h
  | no => rw [q] at h; exact h
theorem Post.imp {q : Res α} {K K' : α → Mp → Sto → Hp → Prop} (h : Post G m s H X q K) (k : ∀ a m1 s1 H1, Ext m s H m1 s1 H1 → Rel G m1 s1 H1 → K a m1 s1 H1 → K' a m1 s1 H1) : Post G m s H X q K' := by
  cases q with
  | ok a s1 => exact fun m1 H1 e1 r1 => k a m1 s1 H1 e1 r1 (h m1 H1 e1 r1)
  | exc a s1 => exact h
  | no => exact h
theorem Post.ok {a : α} {K : α → Mp → Sto → Hp → Prop} (h : Post G m s H X (.ok a s) K) (r : Rel G m s H) : K a m s H := h m H Ext.refl r
theorem Post.ok1 {a : α} {s' : Sto} {K : α → Mp → Sto → Hp → Prop} (h : Post G m s H X (.ok a s') K) {m' : Mp} {H' : Hp} (e : Ext m s H m' s' H') (r : Rel G m' s' H') : K a m' s' H' := h m' H' e r
theorem RE.mono {chi : Addr → Exn → Prop} {n n' : Nat} {m' : Mp} {H' : Hp} {a : AS} {r : Env} (e : RE chi m n H a r) (st : Stay m n H m' n' H') : RE chi m' n' H' a r :=
  ⟨e.len, fun i d h => let ⟨v, h1, h2⟩ := e.val i d h; ⟨v, h1, RV.mono st d v h2⟩, e.exc⟩
end

/-! ### the readings -/
/-- a thing that runs by a meaning -/
def tG (G : Gb) (g : Pm) {α β : Type} (rep : Mp → Nat → Hp → β → α → Prop) (f : Env → M α) : AS → Hp → (β → Hp → Prop) → Prop := fun a H Q =>
  ∃ m r s, Rel G m s H ∧ RE g.chi m s.length H a r ∧ Post G m s H (wX G g.W a) (f r s) (fun d m' s' H' => ∀ v, rep m' s'.length H' v d → Q v H')
abbrev tE (G : Gb) (g : Pm) (f : Env → M D) : TE := tG G g RV f
abbrev tL (G : Gb) (g : Pm) (f : Env → M (List D)) : TA := tG G g RVs f
abbrev tB (G : Gb) (g : Pm) (f : Env → M Bool) : TT := tG G g (fun _ _ _ v d => v = d) f

theorem impPE {X : Cx} {e : Expr} {t t' : TE} (h : PE X e t) (k : ∀ a H Q, t' a H Q → t a H Q) : PE X e t' := ⟨fun pins s a H Q I q => h.run pins s a H Q I (k a H Q q)⟩
theorem impPT {X : Cx} {e : Expr} {t t' : TT} (h : PT X e t) (k : ∀ a H Q, t' a H Q → t a H Q) : PT X e t' := ⟨fun pins s a H Q I q => h.run pins s a H Q I (k a H Q q)⟩
theorem impPA {X : Cx} {es : List Expr} {t t' : TA} (h : PA X es t) (k : ∀ a H Q, t' a H Q → t a H Q) : PA X es t' := ⟨fun pos pins s a H Q I q => h.run pos pins s a H Q I (k a H Q q)⟩
theorem impPS {X : Cx} {st : Stmt} {t t' : TS} (h : PS X st t) (k : ∀ D a H, t' D a H → t D a H) : PS X st t' := ⟨fun pins s a H D I q => h.run pins s a H D I (k D a H q)⟩
theorem impPSs {X : Cx} {st : List Stmt} {t t' : TS} (h : PSs X st t) (k : ∀ D a H, t' D a H → t D a H) : PSs X st t' := ⟨fun pins s a H D I q => h.run pins s a H D I (k D a H q)⟩

section
variable {G : Gb} {g : Pm} {a : AS} {H : Hp} {α β γ δ : Type} {ra : Mp → Nat → Hp → β → α → Prop} {rc : Mp → Nat → Hp → δ → γ → Prop}
/-- f, then k of its value: by the state behind f -/
theorem tG.bind {f : Env → M α} {k : Env → α → M γ} {Q : δ → Hp → Prop} (h : tG G g rc (fun r => M.bind (f r) (k r)) a H Q) :
    tG G g ra f a H (fun v H1 => ∃ m r s d, Rel G m s H1 ∧ RE g.chi m s.length H1 a r ∧ ra m s.length H1 v d ∧ Post G m s H1 (wX G g.W a) (k r d s) (fun z m' s' H' => ∀ u, rc m' s'.length H' u z → Q u H')) := by
  obtain ⟨m, r, s, R, E, P⟩ := h
  exact ⟨m, r, s, R, E, P.bind.imp fun d m1 s1 H1 e1 r1 P1 v hv => ⟨m1, r, s1, d, r1, E.mono (e1.stay R), hv, P1⟩⟩
end
section
variable {G : Gb} {g : Pm} {X : Cx}
/-- by values: two operands -/
def r2 (G : Gb) (op : D → D → M D) : R2 := fun x y H Q => ∃ m s a b X, Rel G m s H ∧ RV m s.length H x a ∧ RV m s.length H y b ∧ Post G m s H X (op a b s) (fun d m' s' H' => ∀ v, RV m' s'.length H' v d → Q v H')
theorem me_two {op : Operator} {o : D → D → M D} {ea eb : Expr} {fa fb : Env → M D} {pos : Pos} (ho : OpR X (binaryOp op) (r2 G o)) (ha : PE X ea (tE G g fa)) (hb : PE X eb (tE G g fb)) :
    PE X (.BinOp ea op eb pos) (tE G g fun r => M.bind (fa r) fun x => M.bind (fb r) fun y => o x y) := impPE (pe_op ho ha hb) fun a H Q h => by
  obtain ⟨m, r, s, R, E, P⟩ := h
  refine ⟨m, r, s, R, E, P.bind.imp fun d m1 s1 H1 e1 r1 P1 v hv => ?_⟩
  refine ⟨m1, r, s1, r1, E.mono (e1.stay R), P1.bind.imp fun d2 m2 s2 H2 e2 r2 P2 u hu => ?_⟩
  exact ⟨m2, s2, d, d2, _, r2, RV.mono (e2.stay r1) d v hv, hu, P2⟩
theorem me_cmp {op : CmpOp} {o : D → D → M D} {ea eb : Expr} {fa fb : Env → M D} {pos : Pos} (ho : OpR X (compareOp op) (r2 G o)) (ha : PE X ea (tE G g fa)) (hb : PE X eb (tE G g fb)) (hm : behindInMarks op eb = false) :
    PE X (.Compare ea [op] [eb] pos) (tE G g fun r => M.bind (fa r) fun x => M.bind (fb r) fun y => o x y) := impPE (pe_cmpR ho ha hb hm) fun a H Q h => by
  obtain ⟨m, r, s, R, E, P⟩ := h
  refine ⟨m, r, s, R, E, P.bind.imp fun d m1 s1 H1 e1 r1 P1 v hv => ?_⟩
  refine ⟨m1, r, s1, r1, E.mono (e1.stay R), P1.bind.imp fun d2 m2 s2 H2 e2 r2 P2 u hu => ?_⟩
  exact ⟨m2, s2, d, d2, _, r2, RV.mono (e2.stay r1) d v hv, hu, P2⟩
end

/-! ### operators -/
section
variable {G : Gb} {X : Cx}
theorem impOp {X : Cx} {f : Value → Value → Sem Value} {r r' : R2} (h : OpR X f r) (k : ∀ x y H Q, r' x y H Q → r x y H Q) : OpR X f r' :=
  fun pins s a H x y v u Q I rx ry q => h pins s a H x y v u Q I rx ry (k x y H Q q)
/-- by cases on the values: each case by a rule -/
theorem r2_by {f : Value → Value → Sem Value} {o : D → D → M D} (h : ∀ da db, OpR X f (fun x y H Q => ∃ m s X, Rel G m s H ∧ RV m s.length H x da ∧ RV m s.length H y db ∧ Post G m s H X (o da db s) (fun d m' s' H' => ∀ v, RV m' s'.length H' v d → Q v H'))) : OpR X f (r2 G o) :=
  fun pins s a H x y v u Q I rx ry ⟨m, s', da, db, Xp, R, h1, h2, P⟩ => h da db pins s a H x y v u Q I rx ry ⟨m, s', Xp, R, h1, h2, P⟩
theorem r2_no {f : Value → Value → Sem Value} {r : V → V → Hp → VK → Prop} (h : ∀ x y H Q, ¬ r x y H Q) : OpR X f r := fun pins s a H x y v u Q I rx ry q => absurd q (h _ _ _ _)
theorem r2_int {f : Value → Value → Sem Value} {C : Int → Int → Prop} {k : Int → Int → V} {r : R2} (h : OpR X f (rI C k)) (e : ∀ x y H Q, r x y H Q → ∃ i j, x = .int i ∧ y = .int j ∧ C i j ∧ Q (k i j) H) : OpR X f r :=
  impOp h fun x y H Q q => e x y H Q q

theorem Str_app (x y : List Nat) : strOf x ++ strOf y = strOf (x ++ y) := by
  show Str.mk _ = Str.mk _
  simp [strOf]
theorem ob_add : OpR X (binaryOp .Add) (r2 G (bin .add)) := r2_by fun da db => by
  cases da <;> cases db
  case int.int i j =>
    exact impOp op_add fun x y H Q ⟨m, s, Xp, R, h1, h2, P⟩ => ⟨i, j, h1, h2, P.ok R _ rfl⟩
  case str.str i j =>
    refine impOp op_add_str fun x y H Q ⟨m, s, Xp, R, h1, h2, P⟩ => ⟨strOf i, strOf j, h1, h2, ?_⟩
    unfold bin at P
    dsimp only at P
    split at P
    · rename_i hl
      refine ⟨by simpa [strOf, Str.length] using hl, P.ok R _ ?_⟩
      rw [Str_app]; rfl
    · exact P.elim
  case tup.tup i j =>
    refine impOp op_catA fun x y H Q ⟨m, s, Xp, R, h1, h2, P⟩ => ?_
    unfold RV at h1 h2
    obtain ⟨a, vs, rfl, q1, q2, q3⟩ := h1
    obtain ⟨b, ws, rfl, q4, q5, q6⟩ := h2
    unfold bin at P
    dsimp only at P
    split at P
    · rename_i hl
      rw [← q3.len, ← q6.len] at hl
      refine ⟨a, b, vs, ws, rfl, rfl, .of q1, .of q4, hl, fun e => ?_, fun _ e => ?_, fun _ _ p hp => ?_⟩
      · subst e
        have : i = [] := List.length_eq_zero_iff.mp (by rw [← q3.len]; rfl)
        subst this
        refine P.ok R _ ?_
        unfold RV
        exact ⟨b, ws, rfl, q4, q5, q6⟩
      · subst e
        have : j = [] := List.length_eq_zero_iff.mp (by rw [← q6.len]; rfl)
        subst this
        rw [List.append_nil] at P
        refine P.ok R _ ?_
        unfold RV
        exact ⟨a, vs, rfl, q1, q2, q3⟩
      · obtain ⟨r1, e1, h⟩ := R.tup hp (q3.app q6) (by simpa using hl)
        exact P.ok1 e1 r1 _ h
    · exact P.elim
  case ref.ref i j =>
    refine impOp op_cat fun x y H Q ⟨m, s, Xp, R, h1, h2, P⟩ => ?_
    unfold RV at h1 h2
    obtain ⟨l1, rfl⟩ := h1
    obtain ⟨l2, rfl⟩ := h2
    unfold bin at P
    dsimp only at P
    split at P
    · rename_i xs ys e1 e2
      obtain ⟨_, vs, q1, q2⟩ := R.obs i _ e1
      obtain ⟨_, ws, q3, q4⟩ := R.obs j _ e2
      split at P
      · rename_i hl
        rw [← q2.len, ← q4.len] at hl
        refine ⟨m i, m j, vs, ws, rfl, rfl, q1, q3, hl, fun p hp => ?_⟩
        obtain ⟨m', r1, e1, h⟩ := R.lst hp (q2.app q4) (by simpa using hl)
        exact P.ok1 e1 r1 _ h
      · exact P.elim
    · exact P.elim
  all_goals
    refine r2_no fun x y H Q => ?_
    rintro ⟨m, s, Xp, R, h1, h2, P⟩
    exact P
/-- an operator that takes whole numbers alone -/
theorem r2_ii {f : Value → Value → Sem Value} {o : D → D → M D} (hn : ∀ da db s, (∀ i j, ¬ (da = .int i ∧ db = .int j)) → o da db s = .no)
    (h : ∀ i j, OpR X f (fun x y H Q => ∃ m s X, Rel G m s H ∧ x = .int i ∧ y = .int j ∧ Post G m s H X (o (.int i) (.int j) s) (fun d m' s' H' => ∀ v, RV m' s'.length H' v d → Q v H'))) : OpR X f (r2 G o) := r2_by fun da db => by
  by_cases e : ∃ i j, da = .int i ∧ db = .int j
  · obtain ⟨i, j, rfl, rfl⟩ := e
    exact impOp (h i j) fun x y H Q ⟨m, s, Xp, R, h1, h2, P⟩ => ⟨m, s, Xp, R, h1, h2, P⟩
  · refine r2_no fun x y H Q => ?_
    rintro ⟨m, s, Xp, R, h1, h2, P⟩
    rw [hn da db s fun i j q => e ⟨i, j, q⟩] at P
    exact P
theorem bin_no {op : BO} {da db : D} {s : Sto} (h1 : op ≠ .add) (h2 : op ≠ .mul) (h : ∀ i j, ¬ (da = .int i ∧ db = .int j)) : bin op da db s = .no := by
  cases op <;> first | exact absurd rfl h1 | exact absurd rfl h2 | skip
  all_goals
    cases da <;> cases db <;> first | rfl | exact absurd ⟨rfl, rfl⟩ (h _ _)
theorem ob_sub : OpR X (binaryOp .Sub) (r2 G (bin .sub)) := r2_ii (fun _ _ _ h => bin_no (by decide) (by decide) h) fun i j => impOp op_sub fun x y H Q ⟨m, s, Xp, R, h1, h2, P⟩ => ⟨i, j, h1, h2, P.ok R _ rfl⟩
theorem ob_and : OpR X (binaryOp .BitAnd) (r2 G (bin .and)) := r2_ii (fun _ _ _ h => bin_no (by decide) (by decide) h) fun i j => impOp op_and fun x y H Q ⟨m, s, Xp, R, h1, h2, P⟩ => ⟨i, j, h1, h2, P.ok R _ rfl⟩
theorem ob_or : OpR X (binaryOp .BitOr) (r2 G (bin .or)) := r2_ii (fun _ _ _ h => bin_no (by decide) (by decide) h) fun i j => impOp op_or fun x y H Q ⟨m, s, Xp, R, h1, h2, P⟩ => ⟨i, j, h1, h2, P.ok R _ rfl⟩
theorem ob_xor : OpR X (binaryOp .BitXor) (r2 G (bin .xor)) := r2_ii (fun _ _ _ h => bin_no (by decide) (by decide) h) fun i j => impOp op_xor fun x y H Q ⟨m, s, Xp, R, h1, h2, P⟩ => ⟨i, j, h1, h2, P.ok R _ rfl⟩
theorem Post.ite {α : Type} {c : Prop} [Decidable c] {m : Mp} {s : Sto} {H : Hp} {Xp : XP} {q : Res α} {K : α → Mp → Sto → Hp → Prop} (h : Post G m s H Xp (if c then q else .no) K) : c ∧ Post G m s H Xp q K := by
  by_cases e : c
  · rw [if_pos e] at h; exact ⟨e, h⟩
  · rw [if_neg e] at h; exact h.elim
theorem ob_fdiv : OpR X (binaryOp .FloorDiv) (r2 G (bin .fdiv)) := r2_ii (fun _ _ _ h => bin_no (by decide) (by decide) h) fun i j => impOp op_fdivW fun x y H Q ⟨m, s, Xp, R, h1, h2, P⟩ => by
  obtain ⟨c, P⟩ := Post.ite (q := Res.ok (D.int (i / j)) s) P
  exact ⟨i, j, h1, h2, c, P.ok R _ rfl⟩
theorem ob_mod : OpR X (binaryOp .Mod) (r2 G (bin .mod)) := r2_ii (fun _ _ _ h => bin_no (by decide) (by decide) h) fun i j => impOp op_mod fun x y H Q ⟨m, s, Xp, R, h1, h2, P⟩ => by
  obtain ⟨c, P⟩ := Post.ite (q := Res.ok (D.int (i % j)) s) P
  exact ⟨i, j, h1, h2, c, P.ok R _ rfl⟩
theorem ob_pow : OpR X (binaryOp .Pow) (r2 G (bin .pow)) := r2_ii (fun _ _ _ h => bin_no (by decide) (by decide) h) fun i j => impOp op_pow fun x y H Q ⟨m, s, Xp, R, h1, h2, P⟩ => by
  obtain ⟨c, P⟩ := Post.ite (q := Res.ok (D.int (i ^ j.toNat)) s) P
  exact ⟨i, j, h1, h2, c, P.ok R _ rfl⟩
theorem ob_shl : OpR X (binaryOp .LShift) (r2 G (bin .shl)) := r2_ii (fun _ _ _ h => bin_no (by decide) (by decide) h) fun i j => impOp op_shlW fun x y H Q ⟨m, s, Xp, R, h1, h2, P⟩ => by
  obtain ⟨c, P⟩ := Post.ite (q := Res.ok (D.int (i * 2 ^ j.toNat)) s) P
  exact ⟨i, j, h1, h2, c, P.ok R _ rfl⟩
theorem ob_shr : OpR X (binaryOp .RShift) (r2 G (bin .shr)) := r2_ii (fun _ _ _ h => bin_no (by decide) (by decide) h) fun i j => impOp op_shr fun x y H Q ⟨m, s, Xp, R, h1, h2, P⟩ => by
  obtain ⟨c, P⟩ := Post.ite (q := Res.ok (D.int (i / 2 ^ j.toNat)) s) P
  exact ⟨i, j, h1, h2, c, P.ok R _ rfl⟩

theorem foldl_app (x : Array Nat) : ∀ (n : Nat) (acc : Array Nat), (List.replicate n x).foldl (· ++ ·) acc = acc ++ (List.replicate n x.toList).flatten.toArray
  | 0, acc => by simp
  | n + 1, acc => by
    rw [List.replicate_succ, List.foldl_cons, foldl_app x n, List.replicate_succ, List.flatten_cons]
    apply Array.ext'
    simp
theorem op_mul_str : OpR X (binaryOp .Mult) (fun x y H Q => ∃ z j, x = .str z ∧ y = .int j ∧ 0 ≤ j ∧ j ≤ sizeLine ∧ z.length * j.toNat ≤ sizeLine ∧ Q (.str ⟨(List.replicate j.toNat z.cps.toList).flatten.toArray⟩) H) := by
  intro pins s a H x y v u Q I rx ry h
  obtain ⟨z, j, rfl, rfl, h1, h2, h3, q⟩ := h
  obtain ⟨t, rfl⟩ := rx
  obtain ⟨t', rfl⟩ := ry
  rw [sizeLine_eq] at h2 h3
  have hz : z.length = z.cps.size := rfl
  refine PySem.P.mul_str (by rw [decide_eq_false (by omega), decide_eq_false (by omega)]; rfl) (fun a b => ?_) (fun _ _ => by unfold Builtin.Str.tooLong; rw [sizeLine_eq]; exact decide_eq_false (by omega)) ?_
  · intro c
    have h4 : (z.length : Int) * j ≤ 16777216 := by
      have h5 : ((z.length * j.toNat : Nat) : Int) ≤ 16777216 := by
        generalize z.length * j.toNat = q at h3
        omega
      rw [Int.natCast_mul, Int.toNat_of_nonneg h1] at h5
      exact h5
    have hp : 0 < j := by omega
    have c2 : (2 ^ 63 - 1 : Int) < (z.length : Int) * j := (Int.ediv_lt_iff_lt_mul hp).mp c
    have e : (2 ^ 63 - 1 : Int) = 9223372036854775807 := by decide
    rw [e] at c2
    omega
  · have fin : ∀ (y : Array Nat) (tk : Tok), y = (List.replicate j.toNat z.cps.toList).flatten.toArray → EP X pins a Q (.str ⟨y⟩ tk) { s with toks := s.toks + 1 } := fun y tk e => by
      subst e
      exact ⟨.str _, H, I.tok _, ⟨_, rfl⟩, q⟩
    have fin0 : ∀ (y : Array Nat) (tk : Tok), y = (List.replicate j.toNat z.cps.toList).flatten.toArray → EP X pins a Q (.str ⟨y⟩ tk) s := fun y tk e => by
      subst e
      exact ⟨.str _, H, I, ⟨_, rfl⟩, q⟩
    by_cases c1 : j < 1
    · rw [if_pos c1]
      have e : j = 0 := by omega
      subst e
      exact ⟨Nat.zero_le _, fin _ _ (by simp)⟩
    · rw [if_neg c1]
      by_cases c2 : (j == 1 || z.length == 0) = true
      · rw [if_pos c2]
        refine fin0 z.cps _ ?_
        rw [Bool.or_eq_true, beq_iff_eq, beq_iff_eq] at c2
        rcases c2 with e | e
        · subst e
          apply Array.ext'
          simp
        · have e2 : z.cps = #[] := Array.eq_empty_of_size_eq_zero e
          rw [e2]
          simp
      · rw [if_neg c2]
        rw [foldl_app]
        refine ⟨?_, fin _ _ (by simp)⟩
        show (#[] ++ (List.replicate j.toNat z.cps.toList).flatten.toArray : Array Nat).size ≤ sizeLine
        rw [sizeLine_eq]
        have e : (#[] ++ (List.replicate j.toNat z.cps.toList).flatten.toArray : Array Nat).size = j.toNat * z.cps.size := by simp
        rw [e, Nat.mul_comm, ← hz]
        exact h3
theorem ob_mul : OpR X (binaryOp .Mult) (r2 G (bin .mul)) := r2_by fun da db => by
  cases da <;> cases db
  case int.int i j =>
    refine impOp op_mulX fun x y H Q ⟨m, s, Xp, R, h1, h2, P⟩ => ?_
    obtain ⟨c, P⟩ := Post.ite (q := Res.ok (D.int (i * j)) s) P
    have c2 : (Builtin.Int.intBits i : Int) + (Builtin.Int.intBits j : Int) ≤ 134217728 := by
      unfold mulOk at c
      exact of_decide_eq_true c
    exact ⟨i, j, h1, h2, c2, P.ok R _ rfl⟩
  case str.int i j =>
    refine impOp op_mul_str fun x y H Q ⟨m, s, Xp, R, h1, h2, P⟩ => ?_
    obtain ⟨⟨c1, c2, c3⟩, P⟩ := Post.ite (q := Res.ok (D.str (List.replicate j.toNat i).flatten) s) P
    exact ⟨strOf i, j, h1, h2, c1, c2, by simpa [strOf, Str.length] using c3, P.ok R _ (by show V.str _ = V.str _; simp [strOf])⟩
  all_goals
    refine r2_no fun x y H Q => ?_
    rintro ⟨m, s, Xp, R, h1, h2, P⟩
    exact P
end
end EW

set_option Elab.async false
set_option linter.all false
set_option maxRecDepth 100000
/-! M layer 5: comparisons, truth, boolean operators. -/
namespace EW
open PySem PySem.Spec PyProof.Rows L2

section
variable {G : Gb} {m : Mp} {s : Sto} {H : Hp}
theorem omap_dp {f : D → Option PyData} (ih : ∀ (d : D) (p : PyData) (v : V), f d = some p → RV m s.length H v d → Dp G.K H v p) :
    ∀ (ds : List D) (ps : List PyData) (vs : List V), omap f ds = some ps → RVs m s.length H vs ds → DpAll G.K H vs ps
  | [], ps, vs, h, r => by
    cases h
    unfold RVs at r; subst r
    exact .nil
  | d :: ds, ps, vs, h, r => by
    unfold RVs at r
    obtain ⟨v, w, rfl, r1, r2⟩ := r
    unfold omap at h
    cases e1 : f d with
    | none => rw [e1] at h; cases h
    | some p =>
      rw [e1] at h
      cases e2 : omap f ds with
      | none => rw [e2] at h; cases h
      | some qs =>
        rw [e2] at h
        cases h
        exact .cons (ih d p v e1 r1) (omap_dp ih ds qs w e2 r2)
theorem dp_of (R : Rel G m s H) : ∀ (n : Nat) (d : D) (p : PyData) (v : V), toPd s n d = some p → RV m s.length H v d → Dp G.K H v p
  | n, .non, p, v, h, r => by cases n <;> (cases h; unfold RV at r; subst r; exact .non)
  | n, .bl b, p, v, h, r => by cases n <;> (cases h; unfold RV at r; subst r; exact .bl b)
  | n, .int i, p, v, h, r => by cases n <;> (cases h; unfold RV at r; subst r; exact .int i)
  | n, .str x, p, v, h, r => by cases n <;> (cases h; unfold RV at r; subst r; exact .str _)
  | 0, .tup ds, p, v, h, r => by cases h
  | 0, .ref i, p, v, h, r => by cases h
  | n + 1, .tup ds, p, v, h, r => by
    unfold RV at r
    obtain ⟨a, vs, rfl, q1, q2, q3⟩ := r
    unfold toPd at h
    obtain ⟨ps, e, rfl⟩ := Option.map_eq_some_iff.mp h
    exact .tup (.of q1) (omap_dp (fun d p v e r => dp_of R n d p v e r) ds ps vs e q3)
  | n + 1, .ref i, p, v, h, r => by
    unfold RV at r
    obtain ⟨_, rfl⟩ := r
    unfold toPd at h
    have go : ∀ xs, lstAt s i = some xs → (omap (toPd s n) xs).map PyData.list = some p → Dp G.K H (.ref (m i)) p := fun xs hx h => by
      obtain ⟨ps, e, rfl⟩ := Option.map_eq_some_iff.mp h
      obtain ⟨vs, q1, q2, _⟩ := R.lstAt hx
      exact .lst q1 (omap_dp (fun d p v e r => dp_of R n d p v e r) xs ps vs e q2)
    split at h
    · rename_i xs q
      exact go xs (by unfold lstAt; rw [q]) h
    · rename_i xs q
      exact go xs (by unfold lstAt; rw [q]) h
    · cases h
theorem RV.non_iff {n : Nat} {v : V} {d : D} (r : RV m n H v d) : decide (v = .non) = decide (d = .non) := by
  cases d <;> unfold RV at r
  case tup ds => obtain ⟨a, vs, rfl, _⟩ := r; simp
  case ref i => obtain ⟨_, rfl⟩ := r; simp
  all_goals (subst r; simp)
end

section
variable {G : Gb} {X : Cx}
theorem cmp_eq (hK : X.K = G.K) (hu : X.A.units + 64 < cLine) : OpR X (compareOp .Eq) (r2 G (cmp .eq)) := impOp (op_eqD hu) fun x y H Q ⟨m, s, da, db, Xp, R, h1, h2, P⟩ => by
  rw [hK]
  unfold cmp at P
  dsimp only at P
  unfold peq at P
  cases e1 : toPd s 64 da with
  | none => rw [e1] at P; exact P.elim
  | some p =>
    cases e2 : toPd s 64 db with
    | none => rw [e1, e2] at P; exact P.elim
    | some q =>
      rw [e1, e2] at P
      dsimp only at P
      cases e3 : (SeqAt.shaped p && SeqAt.shaped q) with
      | false => rw [e3] at P; exact P.elim
      | true =>
        rw [e3] at P
        obtain ⟨z1, z2⟩ := Bool.and_eq_true_iff.mp e3
        exact ⟨p, q, dp_of R 64 da p x e1 h1, dp_of R 64 db q y e2 h2, z1, z2, P.ok R _ rfl⟩
theorem cmp_ne (hK : X.K = G.K) (hu : X.A.units + 64 < cLine) : OpR X (compareOp .NotEq) (r2 G (cmp .ne)) := impOp (op_neD hu) fun x y H Q ⟨m, s, da, db, Xp, R, h1, h2, P⟩ => by
  rw [hK]
  unfold cmp at P
  dsimp only at P
  unfold peq at P
  cases e1 : toPd s 64 da with
  | none => rw [e1] at P; exact P.elim
  | some p =>
    cases e2 : toPd s 64 db with
    | none => rw [e1, e2] at P; exact P.elim
    | some q =>
      rw [e1, e2] at P
      dsimp only at P
      cases e3 : (SeqAt.shaped p && SeqAt.shaped q) with
      | false => rw [e3] at P; exact P.elim
      | true =>
        rw [e3] at P
        obtain ⟨z1, z2⟩ := Bool.and_eq_true_iff.mp e3
        exact ⟨p, q, dp_of R 64 da p x e1 h1, dp_of R 64 db q y e2 h2, z1, z2, P.ok R _ rfl⟩
theorem cmp_is : OpR X (compareOp .Is) (r2 G (cmp .is)) := r2_by fun da db => by
  cases db
  case non => exact impOp op_isN fun x y H Q ⟨m, s, Xp, R, h1, h2, P⟩ => ⟨h2, P.ok R _ (by show V.bl _ = V.bl _; rw [h1.non_iff])⟩
  case bl k =>
    cases da
    case bl j => exact impOp op_isBl fun x y H Q ⟨m, s, Xp, R, h1, h2, P⟩ => ⟨j, k, h1, h2, P.ok R _ rfl⟩
    all_goals
      refine r2_no fun x y H Q => ?_
      rintro ⟨m, s, Xp, R, h1, h2, P⟩
      exact P
  all_goals
    refine r2_no fun x y H Q => ?_
    rintro ⟨m, s, Xp, R, h1, h2, P⟩
    exact P
theorem cmp_isnot : OpR X (compareOp .IsNot) (r2 G (cmp .isnot)) := r2_by fun da db => by
  cases db
  case non => exact impOp op_notN fun x y H Q ⟨m, s, Xp, R, h1, h2, P⟩ => ⟨h2, P.ok R _ (by show V.bl _ = V.bl _; rw [h1.non_iff])⟩
  case bl k =>
    cases da
    case bl j => exact impOp op_notBl fun x y H Q ⟨m, s, Xp, R, h1, h2, P⟩ => ⟨j, k, h1, h2, P.ok R _ rfl⟩
    all_goals
      refine r2_no fun x y H Q => ?_
      rintro ⟨m, s, Xp, R, h1, h2, P⟩
      exact P
  all_goals
    refine r2_no fun x y H Q => ?_
    rintro ⟨m, s, Xp, R, h1, h2, P⟩
    exact P
theorem cmp_lt : OpR X (compareOp .Lt) (r2 G (cmp .lt)) := r2_by fun da db => by
  cases da <;> cases db
  case int.int i j => exact impOp op_lt fun x y H Q ⟨m, s, Xp, R, h1, h2, P⟩ => ⟨i, j, h1, h2, P.ok R _ rfl⟩
  all_goals
    refine r2_no fun x y H Q => ?_
    rintro ⟨m, s, Xp, R, h1, h2, P⟩
    exact P
theorem cmp_le : OpR X (compareOp .LtE) (r2 G (cmp .le)) := r2_by fun da db => by
  cases da <;> cases db
  case int.int i j => exact impOp op_le fun x y H Q ⟨m, s, Xp, R, h1, h2, P⟩ => ⟨i, j, h1, h2, P.ok R _ rfl⟩
  all_goals
    refine r2_no fun x y H Q => ?_
    rintro ⟨m, s, Xp, R, h1, h2, P⟩
    exact P
theorem cmp_gt : OpR X (compareOp .Gt) (r2 G (cmp .gt)) := r2_by fun da db => by
  cases da <;> cases db
  case int.int i j => exact impOp op_gt fun x y H Q ⟨m, s, Xp, R, h1, h2, P⟩ => ⟨i, j, h1, h2, P.ok R _ rfl⟩
  all_goals
    refine r2_no fun x y H Q => ?_
    rintro ⟨m, s, Xp, R, h1, h2, P⟩
    exact P
theorem cmp_ge : OpR X (compareOp .GtE) (r2 G (cmp .ge)) := r2_by fun da db => by
  cases da <;> cases db
  case int.int i j => exact impOp op_ge fun x y H Q ⟨m, s, Xp, R, h1, h2, P⟩ => ⟨i, j, h1, h2, P.ok R _ rfl⟩
  all_goals
    refine r2_no fun x y H Q => ?_
    rintro ⟨m, s, Xp, R, h1, h2, P⟩
    exact P

/-! ### truth -/
theorem truV {m : Mp} {s : Sto} {H : Hp} {x : V} {d : D} {b : Bool} (R : Rel G m s H) (r : RV m s.length H x d) (e : tru d s = .ok b s) : TruV G.K x H b := by
  unfold tru at e
  cases d <;> unfold RV at r <;> dsimp only at e
  case non => subst r; cases e; rfl
  case bl b => subst r; cases e; rfl
  case int i => subst r; cases e; rfl
  case str y =>
    subst r
    split at e
    · rename_i c
      cases e
      refine ⟨by simpa [strOf, Str.length] using c, ?_⟩
      cases y with
      | nil => rfl
      | cons d y =>
        have e : (strOf (d :: y)).length = y.length + 1 := by simp [strOf, Str.length]
        rw [e]
        simp [bne]
        omega
    · cases e
  case tup ds =>
    cases e
    obtain ⟨p, vs, rfl, q1, q2, q3⟩ := r
    refine .inr (.inl ⟨vs, .of q1, ?_⟩)
    have := q3.len
    cases ds <;> cases vs <;> first | rfl | (simp at this)
  case ref i =>
    obtain ⟨_, rfl⟩ := r
    split at e
    · rename_i xs q
      cases e
      obtain ⟨_, vs, q1, q2⟩ := R.obs i _ q
      refine .inl ⟨vs, .of q1, ?_⟩
      have := q2.len
      cases xs <;> cases vs <;> first | rfl | (simp at this)
    · rename_i xs q
      cases e
      obtain ⟨vs, q1, q2, _⟩ := R.lstAt (i := i) (ds := xs) (by unfold lstAt; rw [q])
      refine .inl ⟨vs, q1, ?_⟩
      have := q2.len
      cases xs <;> cases vs <;> first | rfl | (simp at this)
    · rename_i kvs q
      cases e
      obtain ⟨_, vs, q1, q2⟩ := R.obs i _ q
      refine .inr (.inr ⟨vs, q1, ?_⟩)
      cases kvs with
      | nil => unfold KR at q2; subst q2; rfl
      | cons p r =>
        unfold KR at q2
        obtain ⟨k, v, r2, rfl, _⟩ := q2
        rfl
    · cases e
theorem tru_cases (d : D) (s : Sto) : tru d s = .no ∨ ∃ b, tru d s = .ok b s := by
  unfold tru
  cases d <;> dsimp only
  case str y =>
    split
    · exact .inr ⟨_, rfl⟩
    · exact .inl rfl
  case ref i =>
    split
    · exact .inr ⟨_, rfl⟩
    · exact .inr ⟨_, rfl⟩
    · exact .inr ⟨_, rfl⟩
    · exact .inl rfl
  all_goals exact .inr ⟨_, rfl⟩
theorem Post.tru {m : Mp} {s : Sto} {H : Hp} {Xp : XP} {β : Type} {d : D} {f : Bool → M β} {K : β → Mp → Sto → Hp → Prop} (P : Post G m s H Xp (M.bind (EW.tru d) f s) K) :
    ∃ b, EW.tru d s = .ok b s ∧ Post G m s H Xp (f b s) K := by
  unfold M.bind at P
  rcases tru_cases d s with e | ⟨b, e⟩
  · rw [e] at P; exact P.elim
  · rw [e] at P; exact ⟨b, e, P⟩
theorem Post.tru0 {m : Mp} {s : Sto} {H : Hp} {Xp : XP} {d : D} {K : Bool → Mp → Sto → Hp → Prop} (R : Rel G m s H) (P : Post G m s H Xp (EW.tru d s) K) :
    ∃ b, EW.tru d s = .ok b s ∧ K b m s H := by
  rcases tru_cases d s with e | ⟨b, e⟩
  · rw [e] at P; exact P.elim
  · rw [e] at P; exact ⟨b, e, P.ok R⟩
end

section
variable {G : Gb} {g : Pm} {X : Cx} {ea eb : Expr} {rest : List Expr} {fa fb : Env → M D} {pos : Pos}
theorem me_and (hK : X.K = G.K) (ha : PE X ea (tE G g fa)) (hb : PE X (.BoolOp .And (eb :: rest) pos) (tE G g fb)) :
    PE X (.BoolOp .And (ea :: eb :: rest) pos) (tE G g fun r => M.bind (fa r) fun x => M.bind (tru x) fun b => if b = true then fb r else M.pure x) := impPE (pe_andT ha hb) fun a H Q h => by
  obtain ⟨m, r, s, R, E, P⟩ := h
  refine ⟨m, r, s, R, E, P.bind.imp fun d m1 s1 H1 e1 r1 P1 v hv => ?_⟩
  obtain ⟨b, e, P2⟩ := P1.tru
  refine ⟨b, by rw [hK]; exact truV r1 hv e, ?_⟩
  cases b with
  | true => exact iteT ⟨m1, r, s1, r1, E.mono (e1.stay R), P2⟩
  | false => exact iteF (P2.ok r1 v hv)
theorem me_or (hK : X.K = G.K) (ha : PE X ea (tE G g fa)) (hb : PE X (.BoolOp .Or (eb :: rest) pos) (tE G g fb)) :
    PE X (.BoolOp .Or (ea :: eb :: rest) pos) (tE G g fun r => M.bind (fa r) fun x => M.bind (tru x) fun b => if b = true then M.pure x else fb r) := impPE (pe_orT ha hb) fun a H Q h => by
  obtain ⟨m, r, s, R, E, P⟩ := h
  refine ⟨m, r, s, R, E, P.bind.imp fun d m1 s1 H1 e1 r1 P1 v hv => ?_⟩
  obtain ⟨b, e, P2⟩ := P1.tru
  refine ⟨b, by rw [hK]; exact truV r1 hv e, ?_⟩
  cases b with
  | true => exact iteT (P2.ok r1 v hv)
  | false => exact iteF ⟨m1, r, s1, r1, E.mono (e1.stay R), P2⟩
theorem me_not (hK : X.K = G.K) (ha : PE X ea (tE G g fa)) : PE X (.UnaryOp .Not ea pos) (tE G g fun r => M.bind (fa r) fun x => M.bind (tru x) fun b => M.pure (.bl (!b))) := impPE (pe_notT ha) fun a H Q h => by
  obtain ⟨m, r, s, R, E, P⟩ := h
  refine ⟨m, r, s, R, E, P.bind.imp fun d m1 s1 H1 e1 r1 P1 v hv => ?_⟩
  obtain ⟨b, e, P2⟩ := P1.tru
  exact ⟨b, by rw [hK]; exact truV r1 hv e, P2.ok r1 _ rfl⟩
/-- a test by the truth of its value -/
theorem mt_plain (hK : X.K = G.K) (ha : PE X ea (tE G g fa)) (he : ∀ whole, isTrue ea X.env whole = (do let v ← whole; standAt ea.pos; holding [v] (truthy v))) :
    PT X ea (tB G g fun r => M.bind (fa r) tru) := impPT (pt_truth ha he) fun a H Q h => by
  obtain ⟨m, r, s, R, E, P⟩ := h
  refine ⟨m, r, s, R, E, P.bind.imp fun d m1 s1 H1 e1 r1 P1 v hv => ?_⟩
  obtain ⟨b, e, P2⟩ := P1.tru0 r1
  exact ⟨b, by rw [hK]; exact truV r1 hv e, P2 _ rfl⟩
theorem mt_not {ta : Env → M Bool} (ha : PT X ea (tB G g ta)) : PT X (.UnaryOp .Not ea pos) (tB G g fun r => M.bind (ta r) fun b => M.pure (!b)) := impPT (pt_not ha) fun a H Q h => by
  obtain ⟨m, r, s, R, E, P⟩ := h
  exact ⟨m, r, s, R, E, P.bind.imp fun d m1 s1 H1 e1 r1 P1 v hv => by subst hv; exact P1.ok r1 _ rfl⟩
theorem mw_and {ta tb : Env → M Bool} (ha : PT X ea (tB G g ta)) (hb : PW X (.BoolOp .And (eb :: rest) pos) (tB G g tb)) : PW X (.BoolOp .And (ea :: eb :: rest) pos) (tB G g fun r => M.bind (ta r) fun b => if b = true then tb r else M.pure false) :=
  ⟨fun wh pins sh a H Q I h => (pw_and ha hb).run wh pins sh a H Q I (by
    obtain ⟨m, r, s, R, E, P⟩ := h
    refine ⟨m, r, s, R, E, P.bind.imp fun d m1 s1 H1 e1 r1 P1 v hv => ?_⟩
    subst hv
    cases v with
    | true => exact iteT ⟨m1, r, s1, r1, E.mono (e1.stay R), P1⟩
    | false => exact iteF (P1.ok r1 _ rfl))⟩
theorem mw_or {ta tb : Env → M Bool} (ha : PT X ea (tB G g ta)) (hb : PW X (.BoolOp .Or (eb :: rest) pos) (tB G g tb)) : PW X (.BoolOp .Or (ea :: eb :: rest) pos) (tB G g fun r => M.bind (ta r) fun b => if b = true then M.pure true else tb r) :=
  ⟨fun wh pins sh a H Q I h => (pw_or ha hb).run wh pins sh a H Q I (by
    obtain ⟨m, r, s, R, E, P⟩ := h
    refine ⟨m, r, s, R, E, P.bind.imp fun d m1 s1 H1 e1 r1 P1 v hv => ?_⟩
    subst hv
    cases v with
    | true => exact iteT (P1.ok r1 _ rfl)
    | false => exact iteF ⟨m1, r, s1, r1, E.mono (e1.stay R), P1⟩)⟩
theorem me_ife {c : Expr} {tc : Env → M Bool} (hc : PT X c (tB G g tc)) (ha : PE X ea (tE G g fa)) (hb : PE X eb (tE G g fb)) :
    PE X (.IfExp c ea eb pos) (tE G g fun r => M.bind (tc r) fun k => if k = true then fa r else fb r) := impPE (pe_ifExp hc ha hb) fun a H Q h => by
  obtain ⟨m, r, s, R, E, P⟩ := h
  refine ⟨m, r, s, R, E, P.bind.imp fun d m1 s1 H1 e1 r1 P1 v hv => ?_⟩
  subst hv
  cases v with
  | true => exact iteT ⟨m1, r, s1, r1, E.mono (e1.stay R), P1⟩
  | false => exact iteF ⟨m1, r, s1, r1, E.mono (e1.stay R), P1⟩
/-- a comparison's test: its value is a bool -/
theorem mt_cmp {op : CmpOp} {o : D → D → M D} (ho : OpR X (compareOp op) (r2 G o)) (ha : PE X ea (tE G g fa)) (hb : PE X eb (tE G g fb)) (hm : behindInMarks op eb = false)
    (hbl : ∀ x y s d s', o x y s = .ok d s' → ∃ k, d = .bl k) : PT X (.Compare ea [op] [eb] pos) (tB G g fun r => M.bind (M.bind (fa r) fun x => M.bind (fb r) fun y => o x y) tru) := impPT (pt_cmpR ho ha hb hm) fun a H Q h => by
  obtain ⟨m, r, s, R, E, P⟩ := h
  refine ⟨m, r, s, R, E, P.bind.bind.imp fun d m1 s1 H1 e1 r1 P1 v hv => ?_⟩
  refine ⟨m1, r, s1, r1, E.mono (e1.stay R), P1.bind.imp fun d2 m2 s2 H2 e2 r2 P2 u hu => ?_⟩
  have hbl' := hbl d d2 s2
  refine ⟨m2, s2, d, d2, wX G g.W a, r2, RV.mono (e2.stay r1) d v hv, hu, ?_⟩
  cases q : o d d2 s2 with
  | ok z s3 =>
    rw [q] at P2 hbl'
    obtain ⟨k, rfl⟩ := hbl' z s3 rfl
    intro m3 H3 e3 r3 w hw
    have hw' : w = .bl k := hw
    subst hw'
    refine ⟨k, rfl, ?_⟩
    have P3 := P2 m3 H3 e3 r3
    have P3 : Post G m3 s3 H3 (wX G g.W a) (EW.tru (.bl k) s3) _ := P3
    exact P3.ok r3 _ rfl
  | exc z s3 => rw [q] at P2; exact P2
  | no => rw [q] at P2; exact P2
end
end EW

set_option Elab.async false
set_option linter.all false
set_option maxRecDepth 100000
/-! M layer 6: names, displays, subscripts, fields, built-ins. -/
namespace EW
open PySem PySem.Spec PyProof.Rows L2

section
variable {G : Gb} {g : Pm} {X : Cx}
theorem slotV_cases (r : Env) (i : Nat) (s : Sto) : slotV r i s = .no ∨ ∃ d, r[i]? = some (.val d) ∧ slotV r i s = .ok d s := by
  unfold slotV
  split
  · rename_i d q
    exact .inr ⟨d, q, rfl⟩
  · exact .inl rfl
theorem me_var {i : Nat} {x : Str} {pos : Pos} (hN : X.N[i]? = some x) (hv : Vis X.env.scope x) (hd : (x == ("__debug__" : Str)) = false) (hcd : (x == ("__classdict__" : Str)) = false) :
    PE X (.Name x pos) (tE G g fun r => slotV r i) := impPE (pe_var hN hv hd hcd) fun a H Q h => by
  obtain ⟨m, r, s, R, E, P⟩ := h
  have P : Post G m s H (wX G g.W a) (slotV r i s) _ := P
  rcases slotV_cases r i s with q | ⟨d, q, q2⟩
  · rw [q] at P; exact P.elim
  · rw [q2] at P
    obtain ⟨v, h1, h2⟩ := E.val i d q
    exact ⟨v, h1, P.ok R v h2⟩
theorem me_const {e : Expr} {v : V} {d : D} (h : PE X e (tC v)) (hr : ∀ m n H, RV m n H v d) : PE X e (tE G g fun _ => M.pure d) := impPE h fun a H Q h => by
  obtain ⟨m, r, s, R, E, P⟩ := h
  exact P.ok R v (hr _ _ _)
theorem ml_nil : PA X [] (tL G g fun _ => M.pure []) := impPA pa_nil fun a H Q h => by
  obtain ⟨m, r, s, R, E, P⟩ := h
  exact P.ok R [] (by unfold RVs; rfl)
theorem ml_cons {e : Expr} {es : List Expr} {f : Env → M D} {fs : Env → M (List D)} (ha : PE X e (tE G g f)) (hr : PA X es (tL G g fs)) (hs : starEach (e :: es) X.env = (false, eval e X.env) :: starEach es X.env) :
    PA X (e :: es) (tL G g fun r => M.bind (f r) fun x => M.bind (fs r) fun xs => M.pure (x :: xs)) := impPA (pa_cons ha hr hs) fun a H Q h => by
  obtain ⟨m, r, s, R, E, P⟩ := h
  refine ⟨m, r, s, R, E, P.bind.imp fun d m1 s1 H1 e1 r1 P1 v hv => ?_⟩
  refine ⟨m1, r, s1, r1, E.mono (e1.stay R), P1.bind.imp fun d2 m2 s2 H2 e2 r2 P2 u hu => ?_⟩
  refine P2.ok r2 _ ?_
  unfold RVs
  exact ⟨v, u, rfl, RV.mono (e2.stay r1) d v hv, hu⟩
theorem me_neg {e : Expr} {f : Env → M D} {pos : Pos} (ha : PE X e (tE G g f)) : PE X (.UnaryOp .USub e pos) (tE G g fun r => M.bind (f r) neg) := impPE (pe_un un_neg ha) fun a H Q h => by
  obtain ⟨m, r, s, R, E, P⟩ := h
  refine ⟨m, r, s, R, E, P.bind.imp fun d m1 s1 H1 e1 r1 P1 v hv => ?_⟩
  unfold neg at P1
  cases d <;> dsimp only at P1 <;> first | exact P1.elim | skip
  exact ⟨_, hv, P1.ok r1 _ rfl⟩
/-- displays: the number of items is written -/
theorem me_tup {es : List Expr} {f : Env → M (List D)} {k : Nat} {pos : Pos} (h : PA X es (tL G g f)) (hl : ∀ r s ds s', f r s = .ok ds s' → ds.length ≤ sizeLine) : PE X (.Tuple es k pos) (tE G g fun r => M.bind (f r) fun xs => M.pure (.tup xs)) := impPE (pe_tup h) fun a H Q h => by
  obtain ⟨m, r, s, R, E, P⟩ := h
  refine ⟨m, r, s, R, E, ?_⟩
  have hl' := hl r s
  have P := P.bind
  cases q : f r s with
  | no => rw [q] at P; exact P
  | exc x s1 => rw [q] at P; exact P
  | ok ds s1 =>
    rw [q] at P hl'
    intro m1 H1 e1 r1 vs hv
    have P1 := P m1 H1 e1 r1
    refine ⟨by rw [hv.len]; exact hl' ds s1 rfl, fun p hp => ?_⟩
    obtain ⟨r2, e2, h2⟩ := r1.tup hp hv (by rw [hv.len]; exact hl' ds s1 rfl)
    exact P1.ok1 e2 r2 _ h2
theorem me_lst {es : List Expr} {f : Env → M (List D)} {pos : Pos} (h : PA X es (tL G g f)) (hl : ∀ r s ds s', f r s = .ok ds s' → ds.length ≤ sizeLine) : PE X (.List es pos) (tE G g fun r => M.bind (f r) fun xs => newO (.lst xs)) := impPE (pe_lst h) fun a H Q h => by
  obtain ⟨m, r, s, R, E, P⟩ := h
  refine ⟨m, r, s, R, E, ?_⟩
  have hl' := hl r s
  have P := P.bind
  cases q : f r s with
  | no => rw [q] at P; exact P
  | exc x s1 => rw [q] at P; exact P
  | ok ds s1 =>
    rw [q] at P hl'
    intro m1 H1 e1 r1 vs hv
    have P1 := P m1 H1 e1 r1
    refine ⟨by rw [hv.len]; exact hl' ds s1 rfl, fun p hp => ?_⟩
    obtain ⟨m2, r2, e2, h2⟩ := r1.lst hp hv (by rw [hv.len]; exact hl' ds s1 rfl)
    exact P1.ok1 e2 r2 _ h2
theorem me_chn {op op' : CmpOp} {o o' : D → D → M D} {ea eb ec : Expr} {fa fb fc : Env → M D} {pos : Pos} (ho : OpR X (compareOp op) (r2 G o)) (ho' : OpR X (compareOp op') (r2 G o')) (ha : PE X ea (tE G g fa)) (hb : PE X eb (tE G g fb)) (hc : PE X ec (tE G g fc))
    (hm : lastMarks [op, op'] [eb, ec] = false) :
    PE X (.Compare ea [op, op'] [eb, ec] pos) (tE G g fun r => M.bind (fa r) fun x => M.bind (fb r) fun y => M.bind (o x y) fun k => match k with
      | .bl true => M.bind (fc r) fun z => o' y z
      | .bl false => M.pure (.bl false)
      | _ => M.stuck) := impPE (pe_chain ho ho' ha hb hc hm) fun a H Q h => by
  obtain ⟨m, r, s, R, E, P⟩ := h
  refine ⟨m, r, s, R, E, P.bind.imp fun d m1 s1 H1 e1 r1 P1 v hv => ?_⟩
  refine ⟨m1, r, s1, r1, E.mono (e1.stay R), P1.bind.imp fun d2 m2 s2 H2 e2 r2 P2 u hu => ?_⟩
  refine ⟨m2, s2, d, d2, wX G g.W a, r2, RV.mono (e2.stay r1) d v hv, hu, P2.bind.imp fun k m3 s3 H3 e3 r3 P3 z hz => ?_⟩
  obtain ⟨k, rfl⟩ : ∃ b, k = .bl b := by
    cases k <;> first | exact ⟨_, rfl⟩ | exact False.elim P3
  refine ⟨k, hz, ?_⟩
  cases k with
  | false => exact iteF (P3.ok r3 _ rfl)
  | true =>
    refine iteT ⟨m3, r, s3, r3, ((E.mono (e1.stay R)).mono (e2.stay r1)).mono (e3.stay r2), P3.bind.imp fun d4 m4 s4 H4 e4 r4 P4 w hw => ?_⟩
    exact ⟨m4, s4, d2, d4, _, r4, RV.mono (e4.stay r3) d2 u (RV.mono (e3.stay r2) d2 u hu), hw, P4⟩
end

/-! ### subscripts -/
section
variable {G : Gb} {g : Pm} {X : Cx}
theorem atI_rel {m : Mp} {n : Nat} {H : Hp} {vs : List V} {ds : List D} {j : Int} {d : D} (h : RVs m n H vs ds) (e : atI ds j = some d) : ∃ v, atI vs j = some v ∧ RV m n H v d := by
  unfold atI at e ⊢
  rw [h.len]
  cases q : L2.ixN ds.length j with
  | none => rw [q] at e; cases e
  | some i =>
    rw [q] at e
    obtain ⟨v, h1, h2⟩ := h.at_ (i := i) (d := d) e
    exact ⟨v, h1, h2⟩
theorem ix_item (hK : X.K = G.K) : IxR X (r2 G item) := by
  intro ea eb pins sh σ H x y v u Q I rx ry ⟨m, s, da, db, Xp, R, h1, h2, P⟩ hs
  unfold item at P
  cases da <;> (try dsimp only at P) <;> first | exact P.elim | skip
  case str z =>
    cases db <;> (try dsimp only at P) <;> first | exact P.elim | skip
    rename_i j
    obtain ⟨c, P⟩ := Post.ite P
    split at P
    · rename_i cc e
      exact ix_str ea eb pins sh σ H x y v u Q I rx ry ⟨strOf z, j, cc, h1, h2, by simpa [strOf, Str.length] using c, e, P.ok R _ rfl⟩ hs
    · exact P.elim
  case tup ds =>
    cases db <;> (try dsimp only at P) <;> first | exact P.elim | skip
    rename_i j
    unfold RV at h1 h2
    obtain ⟨p, vs, rfl, q1, q2, q3⟩ := h1
    split at P
    · rename_i d e
      obtain ⟨w, e1, e2⟩ := atI_rel q3 e
      exact ix_tup ea eb pins sh σ H _ y v u Q I rx ry ⟨p, vs, j, w, rfl, h2, .of q1, e1, P.ok R w e2⟩ hs
    · exact P.elim
  case ref i =>
    unfold RV at h1
    obtain ⟨_, rfl⟩ := h1
    have go : ∀ xs, lstAt s i = some xs → (∃ j, db = .int j ∧ ∃ d, atI xs j = some d ∧ Post G m s H Xp (.ok d s) (fun d m' s' H' => ∀ v, RV m' s'.length H' v d → Q v H')) → wpAny (model X.prog X.w) X.A (subscriptTail ea eb v u) (EP X pins σ Q) X.xe sh := fun xs hx ⟨j, e, d, e2, P'⟩ => by
      subst e
      obtain ⟨vs, q1, q2, _⟩ := R.lstAt hx
      obtain ⟨w, e3, e4⟩ := atI_rel q2 e2
      exact ix_list ea eb pins sh σ H _ y v u Q I rx ry ⟨m i, vs, j, w, rfl, h2, by rw [hK]; exact q1, e3, P'.ok R w e4⟩ hs
    split at P
    · rename_i xs q
      refine go xs (by unfold lstAt; rw [q]) ?_
      cases db <;> (try dsimp only at P) <;> first | exact P.elim | skip
      split at P
      · rename_i d e
        exact ⟨_, rfl, d, e, P⟩
      · exact P.elim
    · rename_i xs q
      refine go xs (by unfold lstAt; rw [q]) ?_
      cases db <;> (try dsimp only at P) <;> first | exact P.elim | skip
      split at P
      · rename_i d e
        exact ⟨_, rfl, d, e, P⟩
      · exact P.elim
    · exact P.elim
theorem me_ix {ea eb : Expr} {fa fb : Env → M D} {pos : Pos} (hK : X.K = G.K) (ha : PE X ea (tE G g fa)) (hb : PE X eb (tE G g fb)) (hs : PlainIx eb) :
    PE X (.Subscript ea eb pos) (tE G g fun r => M.bind (fa r) fun x => M.bind (fb r) fun y => item x y) := impPE (pe_ix (ix_item hK) ha hb hs) fun a H Q h => by
  obtain ⟨m, r, s, R, E, P⟩ := h
  refine ⟨m, r, s, R, E, P.bind.imp fun d m1 s1 H1 e1 r1 P1 v hv => ?_⟩
  refine ⟨m1, r, s1, r1, E.mono (e1.stay R), P1.bind.imp fun d2 m2 s2 H2 e2 r2 P2 u hu => ?_⟩
  exact ⟨m2, s2, d, d2, _, r2, RV.mono (e2.stay r1) d v hv, hu, P2⟩
end
end EW

set_option Elab.async false
set_option linter.all false
set_option maxRecDepth 100000
/-! M layer 7: fields, built-in functions, isinstance. -/
namespace EW
open PySem PySem.Spec PyProof.Rows L2

/-- what the classes say of fields -/
structure FOk (G : Gb) : Prop where
  cls : ∀ c f, G.Q.flds c f = true → Cls G.K (G.cA c) ∧ NoAttr G.K (G.cA c) (G.fN f)
  inj : ∀ c f f', G.Q.flds c f = true → G.Q.flds c f' = true → G.fN f = G.fN f' → f = f'
section
variable {G : Gb} {g : Pm} {X : Cx}
theorem FR.look {fN : Nat → Str} {m : Mp} {n : Nat} {H : Hp} {f : Nat} {d : D} : ∀ {fs : List (Nat × D)} {vs : List (Str × V)}, FR fN m n H vs fs → (∀ p ∈ fs, fN p.1 = fN f → p.1 = f) → fs.lookup f = some d →
    ∃ v, vs.lookup (fN f) = some v ∧ RV m n H v d
  | [], vs, h, _, e => by cases e
  | p :: r, vs, h, i, e => by
    unfold FR at h
    obtain ⟨v, w, rfl, h1, h2⟩ := h
    obtain ⟨k, x⟩ := p
    rw [List.lookup_cons] at e ⊢
    by_cases q : f = k
    · subst q
      simp only [beq_self_eq_true] at e ⊢
      cases e
      exact ⟨v, rfl, h1⟩
    · have q1 : (f == k) = false := by simpa using q
      have q2 : (fN f == fN k) = false := by
        have : fN f ≠ fN k := fun z => q (i (k, x) List.mem_cons_self z.symm).symm
        simpa using this
      rw [q1] at e
      rw [q2]
      exact FR.look h2 (fun p hp => i p (List.mem_cons_of_mem _ hp)) e
theorem me_fld {e : Expr} {f : Nat} {fe : Env → M D} {pos : Pos} (F : FOk G) (hK : X.K = G.K) (he : PE X e (tE G g fe)) (hb : attributeBase e (G.fN f) X.env (eval e X.env) = eval e X.env) :
    PE X (.Attribute e (G.fN f) pos) (tE G g fun r => M.bind (fe r) fun x => getF G.Q x f) := impPE (pe_fld he hb) fun a H Q h => by
  obtain ⟨m, r, s, R, E, P⟩ := h
  refine ⟨m, r, s, R, E, P.bind.imp fun d m1 s1 H1 e1 r1 P1 v hv => ?_⟩
  unfold getF at P1
  cases d <;> (try dsimp only at P1) <;> first | exact P1.elim | skip
  rename_i i
  unfold RV at hv
  obtain ⟨_, rfl⟩ := hv
  split at P1
  · rename_i c fs q
    split at P1
    · rename_i hf
      split at P1
      · rename_i d hd
        obtain ⟨z, dx, vs, h1, h2⟩ := r1.obs i _ q
        obtain ⟨v, e2, e3⟩ := h2.look (fun p hp q => F.inj c _ _ (z p hp) hf q) hd
        obtain ⟨c1, c2⟩ := F.cls c f hf
        exact ⟨m1 i, G.cA c, dx, vs, v, rfl, h1, by rw [hK]; exact c1, by rw [hK]; exact c2, e2, P1.ok r1 v e3⟩
      · exact P1.elim
    · exact P1.elim
  · exact P1.elim

/-! ### built-ins by name -/
/-- by values: a call -/
def rC (G : Gb) (f : List D → M D) : List V → Hp → VK → Prop := fun xs H Q => ∃ m s ds Xp, Rel G m s H ∧ RVs m s.length H xs ds ∧ Post G m s H Xp (f ds s) (fun d m' s' H' => ∀ v, RV m' s'.length H' v d → Q v H')
theorem impC {f : Value} {r r' : List V → Hp → VK → Prop} (h : CallR X f r) (k : ∀ xs H Q, r' xs H Q → r xs H Q) : CallR X f r' :=
  fun pins s a H xs us Q I rs q => h pins s a H xs us Q I rs (k xs H Q q)
theorem rC_by {f : Value} {o : List D → M D} (h : ∀ ds, CallR X f (fun xs H Q => ∃ m s Xp, Rel G m s H ∧ RVs m s.length H xs ds ∧ Post G m s H Xp (o ds s) (fun d m' s' H' => ∀ v, RV m' s'.length H' v d → Q v H'))) : CallR X f (rC G o) :=
  fun pins s a H xs us Q I rs ⟨m, s', ds, Xp, R, h1, P⟩ => h ds pins s a H xs us Q I rs ⟨m, s', Xp, R, h1, P⟩
theorem rC_no {f : Value} {r : List V → Hp → VK → Prop} (h : ∀ xs H Q, ¬ r xs H Q) : CallR X f r := fun pins s a H xs us Q I rs q => absurd q (h _ _ _)
theorem RVs.one_inv {m : Mp} {n : Nat} {H : Hp} {xs : List V} {d : D} (h : RVs m n H xs [d]) : ∃ v, xs = [v] ∧ RV m n H v d := by
  unfold RVs at h
  obtain ⟨v, r, rfl, h1, h2⟩ := h
  unfold RVs at h2
  subst h2
  exact ⟨v, rfl, h1⟩
theorem RVs.two_inv {m : Mp} {n : Nat} {H : Hp} {xs : List V} {d e : D} (h : RVs m n H xs [d, e]) : ∃ v w, xs = [v, w] ∧ RV m n H v d ∧ RV m n H w e := by
  unfold RVs at h
  obtain ⟨v, r, rfl, h1, h2⟩ := h
  obtain ⟨w, rfl, h3⟩ := h2.one_inv
  exact ⟨v, w, rfl, h1, h3⟩
theorem me_callB {x : Str} {p pos : Pos} {e : Expr} {es : List Expr} {id : String} {f : Env → M (List D)} {o : List D → M D} (hc : CallR X (.builtin id) (rC G o)) (hg : Gl X x) (hm : X.mg x = none) (hv : bootBuiltins x = some (.builtin id)) (ha : PA X (e :: es) (tL G g f))
    (hn : x ≠ "__name__") (hdb : (x == ("__debug__" : Str)) = false) (he : starEach (e :: es) X.env = (false, eval e X.env) :: starEach es X.env) (hpl : (backTo pos (starEach es X.env)).any (·.1) = false) :
    PE X (.Call (.Name x p) (e :: es) [] pos) (tE G g fun r => M.bind (f r) o) := impPE (pe_callB hc hg hm hv ha hn hdb he hpl) fun a H Q h => by
  obtain ⟨m, r, s, R, E, P⟩ := h
  exact ⟨m, r, s, R, E, P.bind.imp fun d m1 s1 H1 e1 r1 P1 v hv => ⟨m1, s1, d, _, r1, hv, P1⟩⟩
theorem me_callTy {x : Str} {p pos : Pos} {e : Expr} {es : List Expr} {T : String} {f : Env → M (List D)} {o : List D → M D} (hc : CallR X (.type T) (rC G o)) (hg : Gl X x) (hm : X.mg x = none) (hv : bootBuiltins x = some (.type T)) (ha : PA X (e :: es) (tL G g f))
    (hn : x ≠ "__name__") (hdb : (x == ("__debug__" : Str)) = false) (he : starEach (e :: es) X.env = (false, eval e X.env) :: starEach es X.env) (hpl : (backTo pos (starEach es X.env)).any (·.1) = false) :
    PE X (.Call (.Name x p) (e :: es) [] pos) (tE G g fun r => M.bind (f r) o) := impPE (pe_callTy hc hg hm hv ha hn hdb he hpl) fun a H Q h => by
  obtain ⟨m, r, s, R, E, P⟩ := h
  exact ⟨m, r, s, R, E, P.bind.imp fun d m1 s1 H1 e1 r1 P1 v hv => ⟨m1, s1, d, _, r1, hv, P1⟩⟩

theorem rC_b1 {f : Value} {o : D → M D} (h : ∀ d, CallR X f (fun xs H Q => ∃ m s Xp v, xs = [v] ∧ Rel G m s H ∧ RV m s.length H v d ∧ Post G m s H Xp (o d s) (fun d m' s' H' => ∀ v, RV m' s'.length H' v d → Q v H'))) : CallR X f (rC G (b1 o)) := rC_by fun ds => by
  rcases ds with _ | ⟨d, _ | ⟨d2, ds⟩⟩
  · exact rC_no fun xs H Q ⟨m, s, Xp, R, h1, P⟩ => False.elim P
  · refine impC (h d) fun xs H Q ⟨m, s, Xp, R, h1, P⟩ => ?_
    obtain ⟨v, rfl, hv⟩ := h1.one_inv
    exact ⟨m, s, Xp, v, rfl, R, hv, P⟩
  · exact rC_no fun xs H Q ⟨m, s, Xp, R, h1, P⟩ => False.elim P
theorem rC_b2 {f : Value} {o : D → D → M D} (h : ∀ d e, CallR X f (fun xs H Q => ∃ m s Xp v w, xs = [v, w] ∧ Rel G m s H ∧ RV m s.length H v d ∧ RV m s.length H w e ∧ Post G m s H Xp (o d e s) (fun d m' s' H' => ∀ v, RV m' s'.length H' v d → Q v H'))) : CallR X f (rC G (b2 o)) := rC_by fun ds => by
  rcases ds with _ | ⟨d, _ | ⟨e, _ | ⟨d3, ds⟩⟩⟩
  · exact rC_no fun xs H Q ⟨m, s, Xp, R, h1, P⟩ => False.elim P
  · exact rC_no fun xs H Q ⟨m, s, Xp, R, h1, P⟩ => False.elim P
  · refine impC (h d e) fun xs H Q ⟨m, s, Xp, R, h1, P⟩ => ?_
    obtain ⟨v, w, rfl, hv, hw⟩ := h1.two_inv
    exact ⟨m, s, Xp, v, w, rfl, R, hv, hw, P⟩
  · exact rC_no fun xs H Q ⟨m, s, Xp, R, h1, P⟩ => False.elim P
theorem bi_len (hK : X.K = G.K) : CallR X (.builtin "len") (rC G (b1 lenD)) := rC_b1 fun d => impC call_len fun xs H Q h => by
  obtain ⟨m, s, Xp, v, e, R, hv, P⟩ := h
  rw [hK]
  subst e
  unfold lenD at P
  cases d <;> (try dsimp only at P) <;> first | exact P.elim | skip
  case str y =>
    obtain ⟨c, P⟩ := Post.ite P
    refine ⟨v, y.length, rfl, ?_, P.ok R _ rfl⟩
    unfold RV at hv
    subst hv
    exact ⟨by simpa [strOf, Str.length] using c, by simp [strOf, Str.length]⟩
  case tup ds =>
    unfold RV at hv
    obtain ⟨p, vs, rfl, q1, q2, q3⟩ := hv
    exact ⟨.ref p, ds.length, rfl, .inr ⟨vs, .of q1, by rw [q3.len]⟩, P.ok R _ rfl⟩
  case ref i =>
    unfold RV at hv
    obtain ⟨_, rfl⟩ := hv
    split at P
    · rename_i xs hx
      obtain ⟨vs, q1, q2, _⟩ := R.lstAt hx
      exact ⟨.ref (m i), xs.length, rfl, .inl ⟨vs, q1, by rw [q2.len]⟩, P.ok R _ rfl⟩
    · exact P.elim
theorem bi_abs : CallR X (.builtin "abs") (rC G (b1 absD)) := rC_b1 fun d => impC call_abs fun xs H Q h => by
  obtain ⟨m, s, Xp, v, e, R, hv, P⟩ := h
  subst e
  unfold absD at P
  cases d <;> (try dsimp only at P) <;> first | exact P.elim | skip
  unfold RV at hv
  subst hv
  exact ⟨_, rfl, P.ok R _ rfl⟩
theorem bi_int : CallR X (.type "int") (rC G (b1 intD)) := rC_b1 fun d => impC call_int1 fun xs H Q h => by
  obtain ⟨m, s, Xp, v, e, R, hv, P⟩ := h
  subst e
  unfold intD at P
  cases d <;> (try dsimp only at P) <;> first | exact P.elim | skip
  · unfold RV at hv
    subst hv
    exact .inr ⟨_, rfl, P.ok R _ rfl⟩
  · unfold RV at hv
    subst hv
    exact .inl ⟨_, rfl, P.ok R _ rfl⟩
theorem bi_min2 (hc : X.calm = true) : CallR X (.builtin "min") (rC G (b2 minD)) := rC_b2 fun d e => impC (call_min2 hc) fun xs H Q h => by
  obtain ⟨m, s, Xp, v, w, e, R, hv, hw, P⟩ := h
  subst e
  unfold minD at P
  cases d <;> cases e <;> (try dsimp only at P) <;> first | exact P.elim | skip
  unfold RV at hv hw
  subst hv hw
  exact ⟨_, _, rfl, P.ok R _ rfl⟩
theorem bi_max2 (hc : X.calm = true) : CallR X (.builtin "max") (rC G (b2 maxD)) := rC_b2 fun d e => impC (call_max2 hc) fun xs H Q h => by
  obtain ⟨m, s, Xp, v, w, e, R, hv, hw, P⟩ := h
  subst e
  unfold maxD at P
  cases d <;> cases e <;> (try dsimp only at P) <;> first | exact P.elim | skip
  unfold RV at hv hw
  subst hv hw
  exact ⟨_, _, rfl, P.ok R _ rfl⟩
theorem bls_of {m : Mp} {n : Nat} {H : Hp} : ∀ {ds : List D} {bs : List Bool} {vs : List V}, omap blOf ds = some bs → RVs m n H vs ds → vs = bs.map V.bl
  | [], bs, vs, e, h => by cases e; unfold RVs at h; exact h
  | d :: ds, bs, vs, e, h => by
    unfold RVs at h
    obtain ⟨v, r, rfl, h1, h2⟩ := h
    unfold omap at e
    cases q : blOf d with
    | none => rw [q] at e; cases e
    | some b =>
      rw [q] at e
      cases q2 : omap blOf ds with
      | none => rw [q2] at e; cases e
      | some cs =>
        rw [q2] at e
        cases e
        rw [bls_of q2 h2]
        cases d <;> first | cases q | skip
        unfold RV at h1
        subst h1
        rfl
theorem bi_all (hK : X.K = G.K) (hc : X.calm = true) : CallR X (.builtin "all") (rC G (b1 allD)) := rC_b1 fun d => impC (cr_all hc) fun xs H Q h => by
  obtain ⟨m, s, Xp, v, e, R, hv, P⟩ := h
  subst e
  unfold allD at P
  cases d <;> (try dsimp only at P) <;> first | exact P.elim | skip
  unfold RV at hv
  obtain ⟨_, rfl⟩ := hv
  split at P
  · rename_i xs hx
    split at P
    · rename_i bs hb
      obtain ⟨vs, q1, q2, _⟩ := R.lstAt hx
      rw [bls_of hb q2] at q1
      exact ⟨_, bs, rfl, by rw [hK]; exact q1, P.ok R _ rfl⟩
    · exact P.elim
  · exact P.elim
theorem bi_any (hK : X.K = G.K) (hc : X.calm = true) : CallR X (.builtin "any") (rC G (b1 anyD)) := rC_b1 fun d => impC (cr_any hc) fun xs H Q h => by
  obtain ⟨m, s, Xp, v, e, R, hv, P⟩ := h
  subst e
  unfold anyD at P
  cases d <;> (try dsimp only at P) <;> first | exact P.elim | skip
  unfold RV at hv
  obtain ⟨_, rfl⟩ := hv
  split at P
  · rename_i xs hx
    split at P
    · rename_i bs hb
      obtain ⟨vs, q1, q2, _⟩ := R.lstAt hx
      rw [bls_of hb q2] at q1
      exact ⟨_, bs, rfl, by rw [hK]; exact q1, P.ok R _ rfl⟩
    · exact P.elim
  · exact P.elim
theorem bi_lst (hK : X.K = G.K) : CallR X (.type "list") (rC G (b1 lstD)) := rC_b1 fun d => impC call_list_of fun xs H Q h => by
  obtain ⟨m, s, Xp, v, e, R, hv, P⟩ := h
  subst e
  rw [hK]
  unfold lstD at P
  cases d <;> (try dsimp only at P) <;> first | exact P.elim | skip
  case tup ds =>
    unfold RV at hv
    obtain ⟨p, vs, rfl, q1, q2, q3⟩ := hv
    refine ⟨p, vs, rfl, .inr (.of q1), fun l hl => ?_⟩
    obtain ⟨m', r1, e1, h⟩ := R.lst hl q3 q2
    exact P.ok1 e1 r1 _ h
  case ref i =>
    unfold RV at hv
    obtain ⟨_, rfl⟩ := hv
    split at P
    · rename_i xs hx
      obtain ⟨vs, q1, q2, z⟩ := R.lstAt hx
      refine ⟨m i, vs, rfl, .inl q1, fun l hl => ?_⟩
      obtain ⟨m', r1, e1, h⟩ := R.lst hl q2 (by rw [q2.len]; exact z)
      exact P.ok1 e1 r1 _ h
    · exact P.elim
theorem bi_tup (hK : X.K = G.K) : CallR X (.type "tuple") (rC G (b1 tupD)) := rC_b1 fun d => impC call_tuple_of fun xs H Q h => by
  obtain ⟨m, s, Xp, v, e, R, hv, P⟩ := h
  subst e
  rw [hK]
  unfold tupD at P
  cases d <;> (try dsimp only at P) <;> first | exact P.elim | skip
  case tup ds =>
    have hv0 := hv
    unfold RV at hv
    obtain ⟨p, vs, rfl, q1, q2, q3⟩ := hv
    exact ⟨p, vs, rfl, .inr ⟨.of q1, P.ok R _ hv0⟩⟩
  case ref i =>
    unfold RV at hv
    obtain ⟨_, rfl⟩ := hv
    split at P
    · rename_i xs hx
      obtain ⟨vs, q1, q2, z⟩ := R.lstAt hx
      refine ⟨m i, vs, rfl, .inl ⟨q1, fun l hl => ?_⟩⟩
      obtain ⟨r1, e1, h⟩ := R.tup hl q2 (by rw [q2.len]; exact z)
      exact P.ok1 e1 r1 _ h
    · exact P.elim

/-! ### isinstance, built-in types -/
def tyN : Ty → String
  | .int => "int" | .bool => "bool" | .str => "str" | .tup => "tuple" | .lst => "list" | .dic => "dict" | .cls _ => ""
def tyB : Ty → Bool
  | .cls _ => false
  | _ => true
theorem kit_tab (t : Ty) (h : tyB t = true) : kitB "NoneType" (tyN t) = some false ∧ kitB "bool" (tyN t) = some (t == .bool || t == .int) ∧ kitB "int" (tyN t) = some (t == .int) ∧ kitB "str" (tyN t) = some (t == .str) ∧
    kitB "tuple" (tyN t) = some (t == .tup) ∧ kitB "list" (tyN t) = some (t == .lst) ∧ kitB "dict" (tyN t) = some (t == .dic) := by
  cases t <;> first | cases h | skip
  all_goals decide +kernel
theorem me_isi {x z : Str} {p p2 pos : Pos} {e : Expr} {fe : Env → M D} (t : Ty) (ht : tyB t = true) (hg : Gl X x) (hm : X.mg x = none) (hv : bootBuiltins x = some (.builtin "isinstance")) (ha : PE X e (tE G g fe))
    (hgz : Gl X z) (hmz : X.mg z = none) (hvz : bootBuiltins z = some (.type (tyN t)))
    (hn : x ≠ "__name__") (hdb : (x == ("__debug__" : Str)) = false) (hnz : z ≠ "__name__") (hdz : (z == ("__debug__" : Str)) = false) (he : starEach [e, .Name z p2] X.env = (false, eval e X.env) :: starEach [.Name z p2] X.env) :
    PE X (.Call (.Name x p) [e, .Name z p2] [] pos) (tE G g fun r => M.bind (fe r) fun d => isiD d [t]) := by
  have hT : PE X (.Name z p2) (tC (.ty (tyN t))) := pe_bltn hgz hmz hvz rfl hnz hdz
  refine impPE (pe_callB call_isi hg hm hv (pa_cons ha (pa_cons hT pa_nil rfl) he) hn hdb he rfl) fun a H Q h => ?_
  obtain ⟨m, r, s, R, E, P⟩ := h
  refine ⟨m, r, s, R, E, P.bind.imp fun d m1 s1 H1 e1 r1 P1 v hv => ?_⟩
  have kt := kit_tab t ht
  unfold isiD tyIs at P1
  dsimp only at P1
  have fin : ∀ (ty : Value) (b : Bool), TyX X.K H1 v ty → PySem.W.kitOne X.K ty (.type (tyN t)) = some b → Post G m1 s1 H1 (wX G g.W a) (.ok (.bl b) s1) (fun d m' s' H' => ∀ v, RV m' s'.length H' v d → Q v H') → rIsi X.K [v, .ty (tyN t)] H1 Q :=
    fun ty b h1 h2 P => ⟨v, .ty (tyN t), ty, .type (tyN t), b, rfl, .ty _, h1, h2, P.ok r1 _ rfl⟩
  cases d <;> (try dsimp only at P1)
  case non => unfold RV at hv; subst hv; exact fin _ _ (.base .non) (kit_ty kt.1) P1
  case bl b => unfold RV at hv; subst hv; exact fin _ _ (.base (.bl b)) (kit_ty kt.2.1) P1
  case int i => unfold RV at hv; subst hv; exact fin _ _ (.base (.int i)) (kit_ty kt.2.2.1) P1
  case str i => unfold RV at hv; subst hv; exact fin _ _ (.base (.str _)) (kit_ty kt.2.2.2.1) P1
  case tup ds =>
    unfold RV at hv
    obtain ⟨p, vs, rfl, q1, q2, q3⟩ := hv
    exact fin _ _ (.base (.tup q1)) (kit_ty kt.2.2.2.2.1) P1
  case ref i =>
    unfold RV at hv
    obtain ⟨_, rfl⟩ := hv
    split at P1
    · rename_i b q
      split at q
      · rename_i xs q1
        cases q
        obtain ⟨_, vs, q2, _⟩ := r1.obs i _ q1
        exact fin _ _ (.base (.lst q2)) (kit_ty kt.2.2.2.2.2.1) P1
      · rename_i xs q1
        cases q
        obtain ⟨_, vs, q2, _⟩ := r1.obs i _ q1
        exact fin _ _ (.base (.dK q2)) (kit_ty kt.2.2.2.2.2.2) P1
      · cases q
    · exact P1.elim
end
end EW

set_option Elab.async false
set_option linter.all false
set_option maxRecDepth 100000
/-! M layer 8: calls of the program's own defs, methods, classes. -/
namespace EW
open PySem PySem.Spec PyProof.Rows L2

structure FI where
  ad : Addr
  fd : FuncData
  ps : List Str
/-- what a def promises: it runs by its meaning -/
def spM (G : Gb) (np : Nat) (h : List D → M D) : Sp := fun vs H Q E => vs.length = np ∧ ∃ m s ds, Rel G m s H ∧ RVs m s.length H vs ds ∧
  Post G m s H (fun x m' s' H' => ∀ cls dd, XR G m' s'.length H' cls dd x → E cls dd H') (h ds s) (fun d m' s' H' => ∀ v, RV m' s'.length H' v d → Q v H')
/-- what is written of the defs -/
structure DOk (G : Gb) (fi : Nat → FI) (mN : Nat → Str) : Prop where
  np : ∀ f, G.Q.np f = (fi f).ps.length
  bind : ∀ f n, G.Q.can f n = true → ∃ dvs ds, Binds G.K (fi f).fd (fi f).ps ds ∧ Vals dvs ds ∧ ∀ m k H, RVs m k H dvs (G.Q.dfl f n)
  meth : ∀ c k f, G.Q.meth c k = some f → Cls G.K (G.cA c) ∧ Meth G.K (G.cA c) (mN k) (fi f).ad ∧ ∀ x, G.Q.flds c x = true → G.fN x ≠ mN k
  init : ∀ c f, G.Q.init c = some f → Mk G.K (G.cA c) (fi f).ad
  plain : ∀ c, G.Q.plain c = true → PySem.W.makesIn G.K (G.cA c) = true ∧ PySem.W.findIn G.K (.ref (G.cA c)) "__init__" = some (some (.builtin "object.__init__")) ∧ PySem.W.keepIn G.K (.ref (G.cA c)) = true

section
variable {X : Cx} {CX : CXT} {k : Nat} {f C : Addr} {fd : FuncData} {ps : List Str} {sp : Sp} {dvs : List V} {ds : List Value} {E : AS → XK} {x : Str} {p pos : Pos} {e : Expr} {es : List Expr} {t : TA}
theorem pe_callSD0 (F : FnOk X.prog X.w X.K X.mg X.base CX k f fd ps sp) (hr : Room k X.A) (hg : Gl X x) (hm : X.mg x = some (.ref f)) (hk : PySem.W.keepIn X.K (.ref f) = true) (hb : Binds X.K fd ps ds) (hd : Vals dvs ds) (hx : ∀ σ, PassesAt CX X σ (E σ))
    (hdb : (x == ("__debug__" : Str)) = false) : PE X (.Call (.Name x p) [] [] pos) (tCallSD sp dvs E tNil) := by
  refine ⟨fun pins s σ H Q I h => ?_⟩
  refine wpAny_Call_Name_kw (ld_glob I hg hm ?_ hdb)
  exact PySem.W.callWith_K0 I.kIn hk (run_fnSD (us := []) F hr hb hd (hx σ) I .nil h)
theorem run_makeSD {pins : List (Addr × Obj)} {σ : AS} {H : Hp} {s : Shared} {Q : VK} {us : List Value} {vs : List V} (M : Mk X.K C f) (F : FnOk X.prog X.w X.K X.mg X.base CX k f fd ps sp) (hr : Room (k + 1) X.A) (hb : Binds X.K fd ps ds) (hd : Vals dvs ds)
    (hx : PassesAt CX X σ (E σ)) (I : L2.Inv X pins σ H s) (r : Vals vs us)
    (h : ∀ x dx, H x = none → H dx = none → dx ≠ x → sp (.ref x :: (vs ++ dvs)) (upd (upd H dx (.own x)) x (.ins C dx [])) (fun v H2 => v = .non ∧ Q (.ref x) H2) (E σ)) :
    wpAny (model X.prog X.w) X.A (call (.ref C) us) (EP X pins σ Q) X.xe s := by
  have hq := h (s.heap.objs.size + 1) s.heap.objs.size (I.hok.fresh (Nat.le_succ _)) (I.hok.fresh (Nat.le_refl _)) (Nat.ne_of_lt (Nat.lt_succ_self _))
  have I2 := Inv.made (C := C) I
  have r2 : Vals (V.ref (s.heap.objs.size + 1) :: (vs ++ dvs)) (Value.ref (s.heap.objs.size + 1) :: (us ++ ds)) := .cons rfl (r.append hd)
  have hl : (Value.ref (s.heap.objs.size + 1) :: us ++ ds).length = ps.length := by
    have e := r2.length
    rw [F.len _ _ _ _ hq] at e
    exact e.symm
  refine wpAny_call (make_map (f := f) I.kIn M.makes M.init (beq_iff_eq.mp M.fn) (codeAny_mono (F.run _ X.stack _ _ ⟨Value.ref (s.heap.objs.size + 1) :: us, []⟩ (Value.ref (s.heap.objs.size + 1) :: (us ++ ds)) _ _ (E σ) (hr.make C us [])
    (I2.env0.make C us []) (hb _ (Value.ref (s.heap.objs.size + 1) :: us) I2.kIn hl) r2 hq) fun r s' hq' => ?_))
  cases r with
  | error e => exact hx pins _ _ e s' I2 hq'
  | ok fl =>
    cases fl with
    | ret u =>
      obtain ⟨v, H', I3, rv, ev, q3⟩ := I2.after hq'
      subst ev
      exact ⟨rv, ⟨V.ref (s.heap.objs.size + 1), H', I3, rfl, q3⟩⟩
    | next => exact False.elim hq'
    | brk => exact False.elim hq'
    | cont => exact False.elim hq'
/-- C(), where there is no __init__ but object's -/
theorem run_make0 {pins : List (Addr × Obj)} {σ : AS} {H : Hp} {s : Shared} {Q : VK} (I : L2.Inv X pins σ H s) (hm : PySem.W.makesIn X.K C = true) (hi : PySem.W.findIn X.K (.ref C) "__init__" = some (some (.builtin "object.__init__")))
    (h : ∀ x dx, H x = none → H dx = none → dx ≠ x → Q (.ref x) (upd (upd H dx (.own x)) x (.ins C dx []))) :
    wpAny (model X.prog X.w) X.A (call (.ref C) []) (EP X pins σ Q) X.xe s := by
  have hq := h (s.heap.objs.size + 1) s.heap.objs.size (I.hok.fresh (Nat.le_succ _)) (I.hok.fresh (Nat.le_refl _)) (Nat.ne_of_lt (Nat.lt_succ_self _))
  have I2 := Inv.made (C := C) I
  have Y := PySem.W.makes_of (M := model X.prog X.w) I.kIn hm
  refine wpAny_call (make_map0 I.kIn hm hi (fun self => PySem.W.Looks.of_pure (PySem.W.oi_bind self)) ?_)
  have g1 : ((s.heap.push PySem.W.emptyDict).push (PySem.W.instObj C s.heap.objs.size)).get? (s.heap.objs.size + 1) = some (PySem.W.instObj C s.heap.objs.size) := by
    have := Heap.get?_push_size (s.heap.push PySem.W.emptyDict) (o := PySem.W.instObj C s.heap.objs.size) rfl
    rwa [Heap.size_push] at this
  have t1 : PySem.W.Looks (model X.prog X.w) ((s.heap.push PySem.W.emptyDict).push (PySem.W.instObj C s.heap.objs.size)) (typeOf (.ref (s.heap.objs.size + 1))) (.ref C) := (PySem.W.Looks.ld g1).andThen .now
  have t2 : PySem.W.Looks (model X.prog X.w) ((s.heap.push PySem.W.emptyDict).push (PySem.W.instObj C s.heap.objs.size)) (isInstance (.ref (s.heap.objs.size + 1)) (.type "object")) true :=
    t1.andThen (Y.top.keeps fun b o e => Heap.get?_push_of_some _ (Heap.get?_push_of_some _ e))
  refine codeAny_call_builtin PySem.W.oi_plain PySem.W.entry_oi (@PySem.W.check_slot (model X.prog X.w) _ _ _ "object.__init__" "object" "__init__" (.ref (s.heap.objs.size + 1)) [] [] _ PySem.W.oi_kind PySem.W.oi_split t2 (PySem.W.oi_args (.ref (s.heap.objs.size + 1))) ?_)
  rw [PySem.W.oi_run]
  exact wpAny_pure (And.intro rfl ⟨V.ref (s.heap.objs.size + 1), _, I2, rfl, hq⟩)
end

/-! ### calls by meaning -/
/-- the defs that may be called, at most k levels -/
structure CalOk (G : Gb) (fi : Nat → FI) (C : Cal) (k : Nat) (base : Heap) : Prop where
  P : C.P = G.Q
  fn : ∀ f, FnOk G.P G.w G.K G.mg base (L2.CX G.P G.w) k (fi f).ad (fi f).fd (fi f).ps (spM G (G.Q.np f) (C.call f))
/-- the context is one of ours -/
structure XOk (G : Gb) (g : Pm) (X : Cx) : Prop where
  P : X.prog = G.P
  w : X.w = G.w
  K : X.K = G.K
  mg : X.mg = G.mg
  tk : Takes X g.W
  isx : ∀ p x c b, g.chi p x → x.fs = [] → G.Q.sub x.c c = some b → CallR X (.builtin "isinstance") (fun xs H Q => xs = [V.ref p, V.ref (G.xA c)] ∧ Q (.bl b) H)
section
variable {G : Gb} {g : Pm} {X : Cx} {fi : Nat → FI} {mN : Nat → Str} {C : Cal} {k : Nat}
theorem XOk.fn (o : XOk G g X) (hc : CalOk G fi C k X.base) (f : Nat) : FnOk X.prog X.w X.K X.mg X.base (L2.CX X.prog X.w) k (fi f).ad (fi f).fd (fi f).ps (spM G (G.Q.np f) (C.call f)) := by
  rw [o.P, o.w, o.K, o.mg]; exact hc.fn f
theorem XOk.pass (o : XOk G g X) (a : AS) : PassesAt (L2.CX X.prog X.w) X a (WE g.W a) := passAt o.tk a
/-- the promise, from the meaning -/
theorem sp_of {f n : Nat} {vs dvs : List V} {ds : List D} {m : Mp} {s : Sto} {H : Hp} {a : AS} {Q : VK} {K : D → Mp → Sto → Hp → Prop} (hC : C.P = G.Q) (R : Rel G m s H) (h : RVs m s.length H vs ds) (hd : ∀ m k H, RVs m k H dvs (G.Q.dfl f n))
    (P : Post G m s H (wX G g.W a) (callN C f n ds s) K) (hQ : ∀ d m' s' H', Ext m s H m' s' H' → Rel G m' s' H' → K d m' s' H' → ∀ v, RV m' s'.length H' v d → Q v H') : spM G (G.Q.np f) (C.call f) (vs ++ dvs) H Q (WE g.W a) := by
  unfold callN at P
  rw [hC] at P
  have hv := h.app (hd m s.length H)
  by_cases e : (ds ++ G.Q.dfl f n).length = G.Q.np f
  · rw [if_pos e] at P
    refine ⟨by rw [hv.len]; exact e, m, s, _, R, hv, ?_⟩
    exact P.imp fun d m1 s1 H1 e1 r1 k1 => hQ d m1 s1 H1 e1 r1 k1
  · rw [if_neg e] at P
    exact P.elim
theorem me_call {f n : Nat} {x : Str} {p pos : Pos} {e : Expr} {es : List Expr} {fs : Env → M (List D)} (o : XOk G g X) (D : DOk G fi mN) (hc : CalOk G fi C k X.base) (hr : Room k X.A) (hcn : G.Q.can f n = true) (hg : Gl X x) (hm : X.mg x = some (.ref (fi f).ad))
    (hk : PySem.W.keepIn G.K (.ref (fi f).ad) = true) (ha : PA X (e :: es) (tL G g fs))
    (hdb : (x == ("__debug__" : Str)) = false) (he : starEach (e :: es) X.env = (false, eval e X.env) :: starEach es X.env) (hpl : (backTo pos (starEach es X.env)).any (·.1) = false) :
    PE X (.Call (.Name x p) (e :: es) [] pos) (tE G g fun r => M.bind (fs r) (callN C f n)) := by
  obtain ⟨dvs, ds, h1, h2, h3⟩ := D.bind f n hcn
  refine impPE (pe_callSD (E := WE g.W) (o.fn hc f) hr hg hm (by rw [o.K]; exact hk) (by rw [o.K]; exact h1) h2 (fun a => o.pass a) ha hdb he hpl) fun a H Q h => ?_
  obtain ⟨m, r, s, R, E, P⟩ := h
  exact ⟨m, r, s, R, E, P.bind.imp fun d m1 s1 H1 e1 r1 P1 v hv => sp_of hc.P r1 hv h3 P1 fun d m2 s2 H2 _ _ k2 => k2⟩
theorem me_call0 {f : Nat} {x : Str} {p pos : Pos} (o : XOk G g X) (D : DOk G fi mN) (hc : CalOk G fi C k X.base) (hr : Room k X.A) (hcn : G.Q.can f 0 = true) (hg : Gl X x) (hm : X.mg x = some (.ref (fi f).ad)) (hk : PySem.W.keepIn G.K (.ref (fi f).ad) = true)
    (hdb : (x == ("__debug__" : Str)) = false) :
    PE X (.Call (.Name x p) [] [] pos) (tE G g fun r => M.bind (M.pure []) (callN C f 0)) := by
  obtain ⟨dvs, ds, h1, h2, h3⟩ := D.bind f 0 hcn
  refine impPE (pe_callSD0 (E := WE g.W) (o.fn hc f) hr hg hm (by rw [o.K]; exact hk) (by rw [o.K]; exact h1) h2 (fun a => o.pass a) hdb) fun a H Q h => ?_
  obtain ⟨m, r, s, R, E, P⟩ := h
  have P : Post G m s H (wX G g.W a) (callN C f 0 [] s) _ := P
  exact sp_of (vs := []) hc.P R (by unfold RVs; rfl) h3 P fun d m2 s2 H2 _ _ k2 => k2
theorem FR.look_none {fN : Nat → Str} {m : Mp} {n : Nat} {H : Hp} {z : Str} : ∀ {fs : List (Nat × D)} {vs : List (Str × V)}, FR fN m n H vs fs → (∀ p ∈ fs, fN p.1 ≠ z) → vs.lookup z = none
  | [], vs, h, _ => by unfold FR at h; subst h; rfl
  | p :: r, vs, h, i => by
    unfold FR at h
    obtain ⟨v, w, rfl, h1, h2⟩ := h
    rw [List.lookup_cons]
    have q2 : (z == fN p.1) = false := by simpa using fun q => i p List.mem_cons_self q.symm
    rw [q2]
    exact FR.look_none h2 fun p hp => i p (List.mem_cons_of_mem _ hp)
theorem methOf_cases (P : Prg) (d : D) (j n : Nat) (s : Sto) : methOf P d j n s = .no ∨ ∃ i c fs f, d = .ref i ∧ s[i]? = some (.ins c fs) ∧ P.meth c j = some f ∧ P.can f n = true ∧ methOf P d j n s = .ok f s := by
  unfold methOf
  cases d <;> (try dsimp only) <;> first | exact .inl rfl | skip
  split
  · rename_i c fs q
    split
    · rename_i f qf
      split
      · rename_i hcn
        exact .inr ⟨_, c, fs, f, rfl, q, qf, hcn, rfl⟩
      · exact .inl rfl
    · exact .inl rfl
  · exact .inl rfl
/-- o.m(e, ..): the receiver, the class's def, the arguments, the call -/
theorem me_meth {j : Nat} {apos pos : Pos} {ob : Expr} {args : List Expr} {fo : Env → M D} {fs : Env → M (List D)} {pl : Sem Bool} {na : Nat} (o : XOk G g X) (D : DOk G fi mN) (hc : CalOk G fi C k X.base) (hr : Room k X.A) (ho : PE X ob (tE G g fo)) (ha : PA X args (tL G g fs))
    (hst : args = [] ∧ (∀ r, fs r = M.pure []) ∨ ∃ e es, args = e :: es ∧ starEach (e :: es) X.env = (false, eval e X.env) :: starEach es X.env ∧ (backTo pos (starEach es X.env)).any (·.1) = false)
    (ht : eval (.Call (.Attribute ob (mN j) apos) args [] pos) X.env = (do
      let ov ← eval ob X.env
      standAt apos.atName
      let (f, first) ← holding [ov] (getMethod ov (mN j) pl)
      callWith pos f first (backTo pos (starEach args X.env)) (backToKw pos (keywordEach [] X.env)))) :
    PE X (.Call (.Attribute ob (mN j) apos) args [] pos) (tE G g fun r => M.bind (fo r) fun x => M.bind (methOf C.P x j na) fun f => M.bind (fs r) fun xs => callN C f na (x :: xs)) := by
  refine ⟨fun pins s a H Q I h => ?_⟩
  obtain ⟨m, r, st, R, E, P⟩ := h
  have P0 := P.bind
  refine PySem.W.methodCall_KW (pl := pl) (thn (ho.run pins s a H (fun x H1 => ∃ m1 s1 d, RV m1 s1.length H1 x d ∧ Rel G m1 s1 H1 ∧ RE g.chi m1 s1.length H1 a r ∧ Post G m1 s1 H1 (wX G g.W a) (M.bind (methOf C.P d j na) (fun f => M.bind (fs r) fun xs => callN C f na (d :: xs)) s1) (fun d m' s' H' => ∀ v, RV m' s'.length H' v d → Q v H')) I
    ⟨m, r, st, R, E, P0.imp fun d m1 s1 H1 e1 r1 P1 v hv => ⟨m1, s1, d, hv, r1, E.mono (e1.stay R), P1⟩⟩) fun u sh1 ⟨x, H1, I1, rx, m1, s1, d, hv, r1, E1, P1⟩ => ?_) ht
  have P2 := P1.bind
  rcases methOf_cases C.P d j na s1 with e | ⟨i, c, fds, f, rfl, hi, hmt, hcn, e⟩
  · rw [e] at P2; exact P2.elim
  rw [e] at P2
  have P3 := (P2.ok r1).bind
  obtain ⟨z, dx, vs, q1, q2⟩ := r1.obs i _ hi
  have hv0 := hv
  unfold RV at hv
  obtain ⟨_, rfl⟩ := hv
  obtain rfl : u = Value.ref (m1 i) := rx
  rw [hc.P] at hmt hcn
  obtain ⟨c1, c2, c3⟩ := D.meth c j f hmt
  obtain ⟨dvs, ds, b1, b2, b3⟩ := D.bind f na hcn
  refine getmeth_ok I1 q1 (by rw [o.K]; exact c1) (k := by rw [o.K]; exact c2) (q2.look_none fun p hp => c3 _ (z p hp)) ?_
  have fin : ∀ (us : List Value) (ws : List V) (xs : List _) (m2 : Mp) (s2 : Sto) (H2 : Hp) (sh2 : Shared), Ext m1 s1 H1 m2 s2 H2 → Rel G m2 s2 H2 → L2.Inv X pins a H2 sh2 → Vals ws us → RVs m2 s2.length H2 ws xs →
      Post G m2 s2 H2 (wX G g.W a) (callN C f na (.ref i :: xs) s2) (fun d m' s' H' => ∀ v, RV m' s'.length H' v d → Q v H') → wpAny (model X.prog X.w) X.A (call (.ref (fi f).ad) (.ref (m1 i) :: us)) (EP X pins a Q) X.xe sh2 := fun us ws xs m2 s2 H2 sh2 e2 r2 I2 hws hxs P4 => by
    refine run_fnSD (vs := V.ref (m1 i) :: ws) (E := WE g.W) (o.fn hc f) hr (by rw [o.K]; exact b1) b2 (o.pass a) I2 (.cons rfl hws) ?_
    refine sp_of (n := na) (ds := .ref i :: xs) hc.P r2 ?_ b3 P4 fun d m' s' H' _ _ k2 => k2
    unfold RVs
    exact ⟨_, ws, rfl, RV.mono (e2.stay r1) _ _ hv0, hxs⟩
  rcases hst with ⟨rfl, hf⟩ | ⟨e0, es0, rfl, h1, h2⟩
  · rw [hf r] at P3
    exact PySem.W.callWith_K0 (first := [.ref (m1 i)]) I1.kIn (by rw [o.K]; exact c2.kp) (fin [] [] [] m1 s1 H1 sh1 Ext.refl r1 I1 .nil (by unfold RVs; rfl) (P3.ok r1))
  · refine PySem.W.callWith_K (first := [.ref (m1 i)]) (h₀ := X.base) I1.ok.mod.kin (by rw [o.K]; exact c2.kp) (thn (ha.run pos pins sh1 a H1 (fun ws H2 => ∃ m2 s2 xs, Ext m1 s1 H1 m2 s2 H2 ∧ Rel G m2 s2 H2 ∧ RVs m2 s2.length H2 ws xs ∧
      Post G m2 s2 H2 (wX G g.W a) (callN C f na (.ref i :: xs) s2) (fun d m' s' H' => ∀ v, RV m' s'.length H' v d → Q v H')) I1 ⟨m1, r, s1, r1, E1, P3.imp fun xs m2 s2 H2 e2 r2 P4 ws hws => ⟨m2, s2, xs, e2, r2, hws, P4⟩⟩) fun us sh2 ⟨ws, H2, I2, hvals, m2, s2, xs, e2, r2, hxs, P4⟩ => ⟨I2.kIn, ?_⟩) h1 h2
    exact fin us ws xs m2 s2 H2 sh2 e2 r2 I2 hvals hxs P4

/-- a new instance in the store -/
theorem Rel.ins {m : Mp} {s : Sto} {H : Hp} {c : Nat} {x dx : Addr} (r : Rel G m s H) (hx : H x = none) (hdx : H dx = none) (ne : dx ≠ x) :
    ∃ m', Rel G m' (s ++ [.ins c []]) (upd (upd H dx (.own x)) x (.ins (G.cA c) dx [])) ∧ Ext m s H m' (s ++ [.ins c []]) (upd (upd H dx (.own x)) x (.ins (G.cA c) dx [])) ∧
      RV m' (s ++ [Ob.ins c []]).length (upd (upd H dx (.own x)) x (.ins (G.cA c) dx [])) (.ref x) (.ref s.length) := by
  have hx' : upd H dx (.own x) x = none := by rw [upd_ne (Ne.symm ne)]; exact hx
  obtain ⟨m', h1, h2, h3⟩ := r.new (o := .ins c []) (H' := upd (upd H dx (.own x)) x (.ins (G.cA c) dx [])) hx (fun a u q => upd_keep hx' a u (upd_keep hdx a u q)) rfl ⟨_, upd_same⟩ fun m' n' st =>
    ⟨(fun p hp => nomatch hp), dx, [], upd_same, by unfold FR; rfl⟩
  refine ⟨m', h2, h3, ?_⟩
  unfold RV
  exact ⟨by simp, by rw [h1]⟩
theorem me_make {c f na : Nat} {x : Str} {p pos : Pos} {args : List Expr} {fs : Env → M (List D)} (o : XOk G g X) (D : DOk G fi mN) (hc : CalOk G fi C k X.base) (hr : Room (k + 1) X.A) (hi : G.Q.init c = some f) (hcn : G.Q.can f na = true) (hg : Gl X x) (hm : X.mg x = some (.ref (G.cA c)))
    (ha : PA X args (tL G g fs)) (hst : args = [] ∧ (∀ r, fs r = M.pure []) ∨ ∃ e es, args = e :: es ∧ starEach (e :: es) X.env = (false, eval e X.env) :: starEach es X.env ∧ (backTo pos (starEach es X.env)).any (·.1) = false)
    (hdb : (x == ("__debug__" : Str)) = false) :
    PE X (.Call (.Name x p) args [] pos) (tE G g fun r => M.bind (fs r) fun xs => M.bind (newO (.ins c [])) fun ob => M.bind (callN C f na (ob :: xs)) fun v => if v = .non then M.pure ob else M.stuck) := by
  obtain ⟨dvs, ds, b1, b2, b3⟩ := D.bind f na hcn
  have mk := D.init c f hi
  refine ⟨fun pins s a H Q I h => ?_⟩
  obtain ⟨m, r, st, R, E, P⟩ := h
  have P0 := P.bind
  refine wpAny_Call_Name_kw (ld_glob I hg hm ?_ hdb)
  have fin : ∀ (us : List Value) (ws : List V) (xs : List _) (m2 : Mp) (s2 : Sto) (H2 : Hp) (sh2 : Shared), Rel G m2 s2 H2 → L2.Inv X pins a H2 sh2 → Vals ws us → RVs m2 s2.length H2 ws xs →
      Post G m2 s2 H2 (wX G g.W a) (M.bind (newO (.ins c [])) (fun ob => M.bind (callN C f na (ob :: xs)) fun v => if v = .non then M.pure ob else M.stuck) s2) (fun d m' s' H' => ∀ v, RV m' s'.length H' v d → Q v H') → wpAny (model X.prog X.w) X.A (call (.ref (G.cA c)) us) (EP X pins a Q) X.xe sh2 := fun us ws xs m2 s2 H2 sh2 r2 I2 hws hxs P4 => by
    refine run_makeSD (vs := ws) (E := WE g.W) (by rw [o.K]; exact mk) (o.fn hc f) hr (by rw [o.K]; exact b1) b2 (o.pass a) I2 hws fun y dy hy hdy ne => ?_
    obtain ⟨m3, r3, e3, h3⟩ := r2.ins (c := c) hy hdy ne
    have P5 := (P4.bind.ok1 (a := EW.D.ref s2.length) (s' := s2 ++ [Ob.ins c []]) e3 r3).bind
    refine sp_of (vs := V.ref y :: ws) (ds := .ref s2.length :: xs) hc.P r3 ?_ b3 P5 fun d m4 s4 H4 e4 r4 k4 v hv => ?_
    · unfold RVs
      exact ⟨_, ws, rfl, h3, RVs.mono (e3.stay r2) xs ws hxs⟩
    · by_cases q : d = .non
      · rw [if_pos q] at k4
        subst q
        exact ⟨hv, k4.ok r4 _ (RV.mono (e4.stay r3) _ _ h3)⟩
      · rw [if_neg q] at k4; exact k4.elim
  rcases hst with ⟨rfl, hf⟩ | ⟨e0, es0, rfl, h1, h2⟩
  · rw [hf r] at P0
    exact PySem.W.callWith_K0 I.kIn (by rw [o.K]; exact mk.kp) (fin [] [] [] m st H s R I .nil (by unfold RVs; rfl) (P0.ok R))
  · refine PySem.W.callWith_K (h₀ := X.base) I.ok.mod.kin (by rw [o.K]; exact mk.kp) (thn (ha.run pos pins s a H (fun ws H2 => ∃ m2 s2 xs, Rel G m2 s2 H2 ∧ RVs m2 s2.length H2 ws xs ∧
      Post G m2 s2 H2 (wX G g.W a) (M.bind (newO (.ins c [])) (fun ob => M.bind (callN C f na (ob :: xs)) fun v => if v = .non then M.pure ob else M.stuck) s2) (fun d m' s' H' => ∀ v, RV m' s'.length H' v d → Q v H')) I ⟨m, r, st, R, E, P0.imp fun xs m2 s2 H2 e2 r2 P4 ws hws => ⟨m2, s2, xs, r2, hws, P4⟩⟩) fun us sh2 ⟨ws, H2, I2, hvals, m2, s2, xs, r2, hxs, P4⟩ => ⟨I2.kIn, ?_⟩) h1 h2
    exact fin us ws xs m2 s2 H2 sh2 r2 I2 hvals hxs P4
theorem me_make0 {c : Nat} {x : Str} {p pos : Pos} (o : XOk G g X) (D : DOk G fi mN) (hp : G.Q.plain c = true) (hg : Gl X x) (hm : X.mg x = some (.ref (G.cA c))) (hdb : (x == ("__debug__" : Str)) = false) :
    PE X (.Call (.Name x p) [] [] pos) (tE G g fun _ => newO (.ins c [])) := by
  obtain ⟨d1, d2, d3⟩ := D.plain c hp
  refine ⟨fun pins s a H Q I h => ?_⟩
  obtain ⟨m, r, st, R, E, P⟩ := h
  refine wpAny_Call_Name_kw (ld_glob I hg hm ?_ hdb)
  refine PySem.W.callWith_K0 I.kIn (by rw [o.K]; exact d3) (run_make0 I (by rw [o.K]; exact d1) (by rw [o.K]; exact d2) fun y dy hy hdy ne => ?_)
  obtain ⟨m3, r3, e3, h3⟩ := R.ins (c := c) hy hdy ne
  exact P.ok1 (a := EW.D.ref st.length) (s' := st ++ [Ob.ins c []]) e3 r3 _ h3
end
end EW

set_option Elab.async false
set_option linter.all false
set_option maxRecDepth 100000
/-! M layer 9: what is walked; list comprehensions. -/
namespace EW
open PySem PySem.Spec PyProof.Rows L2

section
variable {G : Gb} {m m1 : Mp} {s s1 : Sto} {H H1 : Hp} {X : XP} {α β : Type}
/-- the origin stays -/
theorem Post.bindO {x : M α} {f : α → M β} {s0 : Sto} {K : β → Mp → Sto → Hp → Prop} (h : Post G m s H X (M.bind x f s0) K) :
    Post G m s H X (x s0) (fun a m1 s1 H1 => Post G m s H X (f a s1) K) := by
  unfold M.bind at h
  cases q : x s0 with
  | ok a s1 =>
    rw [q] at h
    exact fun _ _ _ _ => h
  | exc a s1 => rw [q] at h; exact h
  | no => rw [q] at h; exact h
theorem Post.rebase {q : Res α} {K : α → Mp → Sto → Hp → Prop} (e : Ext m s H m1 s1 H1) (h : Post G m s H X q K) : Post G m1 s1 H1 X q K := by
  cases q with
  | ok a s2 => exact fun m2 H2 e2 r2 => h m2 H2 (e.trans e2) r2
  | exc a s2 => exact fun m2 H2 e2 r2 => h m2 H2 (e.trans e2) r2
  | no => exact h
theorem Post.at_ {a : α} {s' : Sto} {m' : Mp} {H' : Hp} {K : α → Mp → Sto → Hp → Prop} (h : Post G m s H X (.ok a s') K) (e : Ext m s H m' s' H') (r : Rel G m' s' H') : K a m' s' H' := h m' H' e r

/-- an object that no store object is: what stands there may change -/
theorem Rel.side (r : Rel G m s H) {p : Addr} {xs : List V} {u : HO} (hp : H p = some (.lst xs)) (nown : ∀ (i : Nat) (o : Ob), s[i]? = some o → isRol o = false → m i ≠ p) :
    Rel G m s (upd H p u) ∧ Stay m s.length H m s.length (upd H p u) := by
  have tupK : ∀ a vs, H a = some (.tup vs) → upd H p u a = some (.tup vs) := fun a vs q => by
    rw [upd_ne]; exact q
    intro e; rw [e, hp] at q; cases q
  have S : Stay m s.length H m s.length (upd H p u) := ⟨Nat.le_refl _, fun _ _ => rfl, tupK⟩
  refine ⟨⟨r.inj, fun i o h => ?_⟩, S⟩
  refine OR.mono S (r.obs i o h) (fun q => upd_ne (nown i o h q)) fun _ ob w q => ?_
  rw [upd_ne]; exact q
  intro e; rw [e, hp] at q; cases q
/-- the list at p comes into the store -/
theorem Rel.adopt {m0 : Mp} {s0 : Sto} {H0 : Hp} (r : Rel G m s H) (e : Ext m0 s0 H0 m s H) {p : Addr} {vs : List V} {ds : List D} (hp : H p = some (.lst vs)) (h0 : H0 p = none) (nown : ∀ (i : Nat) (o : Ob), s[i]? = some o → isRol o = false → m i ≠ p)
    (h : RVs m s.length H vs ds) (z : vs.length ≤ sizeLine) :
    ∃ m', Rel G m' (s ++ [.lst ds]) H ∧ Ext m0 s0 H0 m' (s ++ [.lst ds]) H ∧ RV m' (s ++ [Ob.lst ds]).length H (.ref p) (.ref s.length) := by
  have S : Stay m s.length H (fun i => if i = s.length then p else m i) (s ++ [Ob.lst ds]).length H := ⟨by simp, fun i hi => by simp [Nat.ne_of_lt hi], fun _ _ q => q⟩
  have lt_of : ∀ {i : Nat} {u : Ob}, (s ++ [Ob.lst ds])[i]? = some u → i ≠ s.length → s[i]? = some u := fun {i u} h hi => by
    have hl : i < s.length := by
      have := (List.getElem?_eq_some_iff.mp h).1
      simp at this; omega
    rw [List.getElem?_append_left hl] at h
    exact h
  refine ⟨fun i => if i = s.length then p else m i, ⟨fun i j u v h1 h2 h3 h4 q => ?_, fun i u hu => ?_⟩, ⟨by have := e.len; simp; omega, fun i hi => ?_, fun i u hu => ?_, e.fr, e.dm, fun i h1 h2 => ?_⟩, ?_⟩
  · by_cases hi : i = s.length
    · by_cases hj : j = s.length
      · rw [hi, hj]
      · simp only [hi, if_true, if_neg hj] at q
        exact absurd q.symm (nown j v (lt_of h2 hj) h4)
    · by_cases hj : j = s.length
      · simp only [hj, if_true, if_neg hi] at q
        exact absurd q (nown i u (lt_of h1 hi) h3)
      · simp only [if_neg hi, if_neg hj] at q
        exact r.inj i j u v (lt_of h1 hi) (lt_of h2 hj) h3 h4 q
  · by_cases hi : i = s.length
    · subst hi
      simp at hu
      subst hu
      simp only [if_true]
      exact ⟨by rw [← h.len]; exact z, vs, hp, RVs.mono S ds vs h⟩
    · simp only [if_neg hi]
      exact OR.mono S (r.obs i u (lt_of hu hi)) (fun _ => rfl) fun _ _ _ q => q
  · have := e.len
    have hne : i ≠ s.length := by omega
    simp only [if_neg hne]
    exact e.mu i hi
  · obtain ⟨o', q1, q2, q3⟩ := e.rol i u hu
    exact ⟨o', by rw [List.getElem?_append_left (List.getElem?_eq_some_iff.mp q1).1]; exact q1, q2, q3⟩
  · by_cases hi : i = s.length
    · simp only [hi, if_true]; exact h0
    · simp only [if_neg hi]
      exact e.nw i h1 (by simp at h2; omega)
  · unfold RV
    exact ⟨by simp, by simp⟩
end

/-! ### what is walked -/
structure ItOk (G : Gb) (J : L2.It) (it : Itr) (m : Mp) (s : Sto) (H : Hp) : Prop where
  sz : it.n ≤ sizeLine
  go : ∀ m' s' H' i d, Ext m s H m' s' H' → Rel G m' s' H' → it.at_ i s' = some d → i < it.n → J.go i H' ∧ ∀ x H2, J.yld i H' x H2 → (∀ a o, H' a = some o → H2 a = some o) ∧ RV m' s'.length H2 x d
  stop : ∀ m' s' H', Ext m s H m' s' H' → Rel G m' s' H' → it.fin s' = true → J.stop it.n H'
def tI (G : Gb) (g : Pm) (fs : Env → M (List D)) (k : IK) : TI := fun a H R => ∃ m r s, Rel G m s H ∧ RE g.chi m s.length H a r ∧
  Post G m s H (wX G g.W a) (M.bind (fs r) (mkIt k) s) (fun it m' s' H' => ∀ J, ItOk G J it m' s' H' → R J H')
section
variable {G : Gb} {g : Pm} {X : Cx} {tg : Expr}
theorem impPI {iter : Expr} {w w' : TI} (h : PI X tg iter w) (k : ∀ a H R, w' a H R → w a H R) : PI X tg iter w' := ⟨fun pins s a H R I q => h.run pins s a H R I (k a H R q)⟩
theorem PI_or {iter : Expr} {w w' : TI} (h : PI X tg iter w) (h' : PI X tg iter w') : PI X tg iter (fun a H R => w a H R ∨ w' a H R) := ⟨fun pins s a H R I q => q.elim (h.run pins s a H R I) (h'.run pins s a H R I)⟩
theorem it_tup {m : Mp} {s : Sto} {H : Hp} {a : Addr} {vs : List V} {ds : List D} (K : PySem.W.Frag) (R : Rel G m s H) (h : H a = some (.tup vs)) (z : vs.length ≤ sizeLine) (r : RVs m s.length H vs ds) : ItOk G (Itt K a) (itTup ds) m s H where
  sz := by show ds.length ≤ _; rw [← r.len]; exact z
  go := fun m' s' H' i d e R' hd hi => by
    have st := e.stay R
    have h' := st.tup _ _ h
    have hd : ds[i]? = some d := hd
    obtain ⟨v, q1, q2⟩ := (RVs.mono st ds vs r).at_ hd
    refine ⟨⟨vs, v, .of h', q1⟩, fun x H2 ⟨e2, y⟩ => ?_⟩
    subst e2
    have := y vs (.of h')
    rw [q1] at this
    cases this
    exact ⟨fun _ _ q => q, q2⟩
  stop := fun m' s' H' e R' _ => ⟨vs, .of ((e.stay R).tup _ _ h), by show vs.length ≤ ds.length; rw [r.len]; exact Nat.le_refl _⟩
theorem it_lst {m : Mp} {s : Sto} {H : Hp} {i0 n : Nat} (z : n ≤ sizeLine) (hi0 : i0 < s.length) : ItOk G (Itl G.K (m i0)) (itLst i0 n) m s H where
  sz := z
  go := fun m' s' H' i d e R' hd hi => by
    have hd : (lstAt s' i0).bind (fun xs => xs[i]?) = some d := hd
    cases q : lstAt s' i0 with
    | none => rw [q] at hd; cases hd
    | some xs =>
      rw [q] at hd
      obtain ⟨vs, q1, q2, _⟩ := R'.lstAt q
      obtain ⟨v, q3, q4⟩ := q2.at_ (i := i) (d := d) hd
      rw [e.mu i0 hi0] at q1
      refine ⟨⟨vs, v, q1, q3⟩, fun x H2 ⟨e2, y⟩ => ?_⟩
      subst e2
      have := y vs q1
      rw [q3] at this
      cases this
      exact ⟨fun _ _ q => q, q4⟩
  stop := fun m' s' H' e R' hf => by
    unfold itLst at hf
    dsimp only at hf
    cases q : lstAt s' i0 with
    | none => rw [q] at hf; cases hf
    | some xs =>
      rw [q] at hf
      obtain ⟨vs, q1, q2, _⟩ := R'.lstAt q
      rw [e.mu i0 hi0] at q1
      exact ⟨vs, q1, by rw [q2.len]; exact of_decide_eq_true hf⟩
theorem it_rng {m : Mp} {s : Sto} {H : Hp} {lo : Int} {n : Nat} (z : n ≤ sizeLine) : ItOk G (L2.Itr lo n) (itRng lo n) m s H where
  sz := z
  go := fun m' s' H' i d e R' hd hi => by
    have hd : some (D.int (lo + i)) = some d := hd
    cases hd
    refine ⟨hi, fun x H2 ⟨e2, y⟩ => ?_⟩
    subst e2
    subst y
    exact ⟨fun _ _ q => q, rfl⟩
  stop := fun _ _ _ _ _ _ => Nat.le_refl _

theorem mi_plain {e : Expr} {f : Env → M D} (hK : X.K = G.K) (he : PE X e (tE G g f)) : PI X tg e (tI G g (fun r => M.bind (f r) fun x => M.pure [x]) .plain) := by
  refine impPI (PI_or (pi_list he) (pi_tup he)) fun a H Rk h => ?_
  obtain ⟨m, r, s, R, E, P⟩ := h
  have P1 := P.bindO.bindO
  cases q : f r s with
  | no => rw [q] at P1; exact P1.elim
  | exc x s1 =>
    rw [q] at P1
    exact .inl ⟨m, r, s, R, E, by rw [q]; exact P1⟩
  | ok d s1 =>
    rw [q] at P1
    have key : ∀ m1 H1, Ext m s H m1 s1 H1 → Rel G m1 s1 H1 → Post G m s H (wX G g.W a) (mkIt .plain [d] s1) (fun it m' s' H' => ∀ J, ItOk G J it m' s' H' → Rk J H') := fun m1 H1 e1 r1 => by
      have z := P1 m1 H1 e1 r1
      exact z.at_ e1 r1
    have bad : (∀ m1 H1, Ext m s H m1 s1 H1 → Rel G m1 s1 H1 → False) → iList X.K (tE G g f) a H Rk := fun hb => ⟨m, r, s, R, E, by rw [q]; exact fun m1 H1 e1 r1 => (hb m1 H1 e1 r1).elim⟩
    cases d with
    | tup ds =>
      refine .inr ⟨m, r, s, R, E, ?_⟩
      rw [q]
      intro m1 H1 e1 r1 v hv
      have P2 := key m1 H1 e1 r1
      have P3 := P2.at_ (a := itTup ds) (s' := s1) e1 r1
      unfold RV at hv
      obtain ⟨p, vs, rfl, q1, q2, q3⟩ := hv
      exact ⟨p, rfl, ⟨vs, .of q1⟩, P3 _ (it_tup X.K r1 q1 q2 q3)⟩
    | ref i =>
      refine .inl ⟨m, r, s, R, E, ?_⟩
      rw [q]
      intro m1 H1 e1 r1 v hv
      have P2 := key m1 H1 e1 r1
      have P2 : Post G m s H (wX G g.W a) (itPlain (.ref i) s1) _ := P2
      unfold itPlain at P2
      dsimp only at P2
      split at P2
      · rename_i xs hx
        have P3 := P2.at_ (a := itLst i xs.length) (s' := s1) e1 r1
        obtain ⟨vs, q1, q2, z⟩ := r1.lstAt hx
        unfold RV at hv
        obtain ⟨hi, rfl⟩ := hv
        refine ⟨m1 i, rfl, ⟨vs, by rw [hK]; exact q1⟩, P3 _ ?_⟩
        rw [hK]
        exact it_lst z hi
      · exact P2.elim
    | non => exact .inl (bad fun m1 H1 e1 r1 => key m1 H1 e1 r1)
    | bl b => exact .inl (bad fun m1 H1 e1 r1 => key m1 H1 e1 r1)
    | int b => exact .inl (bad fun m1 H1 e1 r1 => key m1 H1 e1 r1)
    | str b => exact .inl (bad fun m1 H1 e1 r1 => key m1 H1 e1 r1)
theorem mi_range1 {e : Expr} {p pos : Pos} {fs : Env → M (List D)} (hg : Gl X "range") (hm : X.mg "range" = none) (ha : PA X [e] (tL G g fs)) (hs : starEach [e] X.env = [(false, eval e X.env)]) :
    PI X tg (.Call (.Name "range" p) [e] [] pos) (tI G g fs .range1) := impPI (pi_range1 hg hm ha hs) fun a H Rk h => by
  obtain ⟨m, r, s, R, E, P⟩ := h
  refine ⟨m, r, s, R, E, P.bindO.imp fun ds m1 s1 H1 e1 r1 P1 vs hv => ?_⟩
  rcases ds with _ | ⟨d, _ | ⟨d2, ds⟩⟩
  · exact False.elim P1
  · obtain ⟨v, rfl, hv1⟩ := hv.one_inv
    have P1 : Post G m s H (wX G g.W a) (itR1 d s1) _ := P1
    unfold itR1 at P1
    cases d <;> (try dsimp only at P1) <;> first | exact P1.elim | skip
    obtain ⟨⟨c1, c2⟩, P1⟩ := Post.ite P1
    unfold RV at hv1
    subst hv1
    rw [sizeLine_eq] at c2
    refine ⟨_, rfl, c1, by omega, P1.at_ e1 r1 _ (it_rng (by rw [sizeLine_eq]; omega))⟩
  · exact False.elim P1
theorem mi_range2 {e e2 : Expr} {p pos : Pos} {fs : Env → M (List D)} (hg : Gl X "range") (hm : X.mg "range" = none) (ha : PA X [e, e2] (tL G g fs)) (hs : starEach [e, e2] X.env = [(false, eval e X.env), (false, eval e2 X.env)]) (hs2 : starEach [e2] X.env = [(false, eval e2 X.env)]) :
    PI X tg (.Call (.Name "range" p) [e, e2] [] pos) (tI G g fs .range2) := impPI (pi_range2 hg hm ha hs hs2) fun a H Rk h => by
  obtain ⟨m, r, s, R, E, P⟩ := h
  refine ⟨m, r, s, R, E, P.bindO.imp fun ds m1 s1 H1 e1 r1 P1 vs hv => ?_⟩
  rcases ds with _ | ⟨d, _ | ⟨d2, _ | ⟨d3, ds⟩⟩⟩
  · exact False.elim P1
  · exact False.elim P1
  · obtain ⟨v, w, rfl, hv1, hw1⟩ := hv.two_inv
    have P1 : Post G m s H (wX G g.W a) (itR2 d d2 s1) _ := P1
    unfold itR2 at P1
    cases d <;> cases d2 <;> (try dsimp only at P1) <;> first | exact P1.elim | skip
    obtain ⟨⟨c1, c2, c3, c4, c5⟩, P1⟩ := Post.ite P1
    unfold RV at hv1 hw1
    subst hv1 hw1
    rw [sizeLine_eq] at c5
    exact ⟨_, _, rfl, ⟨c1, c2, c3, c4⟩, P1.at_ e1 r1 _ (it_rng (by rw [sizeLine_eq]; omega))⟩
  · exact False.elim P1
end

/-! ### targets -/
/-- the slots that a target stores -/
def Tg.slots : Tg → List Nat
  | .nm i => [i]
  | .tp is => is
  | .tp2 i js => i :: js
/-- b is a but at the slots -/
def Same' (is : List Nat) (a b : AS) : Prop := b.length = a.length ∧ ∀ j, j ∉ is → b[j]? = a[j]?
section
variable {G : Gb} {m : Mp} {s : Sto} {H : Hp} {chi : Addr → Exn → Prop}
theorem RE.set {n : Nat} {a : AS} {r : Env} {v : V} {d : D} (E : RE chi m n H a r) (h : RV m n H v d) (i : Nat) : RE chi m n H (a.set i (some v)) (r.set i (.val d)) := by
  have hl := E.len
  refine ⟨by simp [hl], fun j e q => ?_, fun j x q => ?_⟩
  · by_cases hj : i = j
    · subst hj
      have hi : i < r.length := by
        have := (List.getElem?_eq_some_iff.mp q).1
        simpa using this
      rw [List.getElem?_set_self hi] at q
      cases q
      exact ⟨v, by rw [List.getElem?_set_self (by omega)], h⟩
    · rw [List.getElem?_set_ne hj] at q ⊢
      exact E.val j e q
  · by_cases hj : i = j
    · subst hj
      have hi : i < r.length := by
        have := (List.getElem?_eq_some_iff.mp q).1
        simpa using this
      rw [List.getElem?_set_self hi] at q
      cases q
    · rw [List.getElem?_set_ne hj] at q ⊢
      exact E.exc j x q
/-- a target's reading -/
def gNames : List Nat → TGs
  | [] => gNil
  | i :: is => gCons (gName i) (gNames is)
def gOf (K : PySem.W.Frag) : Tg → TG
  | .nm i => gName i
  | .tp is => gTup K is.length (gNames is)
  | .tp2 i js => gTup K 2 (gCons (gName i) (gCons (gTup K js.length (gNames js)) gNil))
theorem names_ok {Q : AS → Hp → Prop} : ∀ (is : List Nat) (ds : List D) (vs : List V) (a : AS) (r : Env), is.length = ds.length → RVs m s.length H vs ds → RE chi m s.length H a r →
    (∀ b, RE chi m s.length H b (setAll is ds r) → Same' is a b → Q b H) → gNames is vs a H Q
  | [], ds, vs, a, r, hl, h, E, k => by
    cases ds with
    | nil =>
      unfold RVs at h
      exact ⟨h, k a E ⟨rfl, fun _ _ => rfl⟩⟩
    | cons d ds => simp at hl
  | i :: is, ds, vs, a, r, hl, h, E, k => by
    cases ds with
    | nil => simp at hl
    | cons d ds =>
      unfold RVs at h
      obtain ⟨v, w, rfl, h1, h2⟩ := h
      refine ⟨v, w, rfl, ?_⟩
      refine names_ok is ds w (a.set i (some v)) (r.set i (.val d)) (by simpa using hl) h2 (E.set h1 i) fun b hb hs => k b hb ⟨by rw [hs.1]; simp, fun j hj => ?_⟩
      have hj' : j ≠ i ∧ j ∉ is := by simpa using hj
      rw [hs.2 j hj'.2, List.getElem?_set_ne (Ne.symm hj'.1)]
theorem tgt_ok {K : PySem.W.Frag} {t : Tg} {d : D} {v : V} {a : AS} {r r' : Env} {Q : AS → Hp → Prop} (e : bindT t d r s = .ok r' s) (h : RV m s.length H v d) (E : RE chi m s.length H a r)
    (k : ∀ b, RE chi m s.length H b r' → Same' t.slots a b → Q b H) : gOf K t v a H Q := by
  cases t with
  | nm i =>
    have e2 : r.set i (.val d) = r' := by
      have : (Res.ok (r.set i (Slot.val d)) s : Res Env) = .ok r' s := e
      injection this
    subst e2
    refine k _ (E.set h i) ⟨by simp, fun j hj => ?_⟩
    have hj' : j ≠ i := by simpa [Tg.slots] using hj
    rw [List.getElem?_set_ne (Ne.symm hj')]
  | tp is =>
    unfold bindT at e
    cases d <;> (try dsimp only at e) <;> first | cases e | skip
    rename_i ds
    split at e
    · rename_i hl
      have e2 : setAll is ds r = r' := by
        have : (Res.ok (setAll is ds r) s : Res Env) = .ok r' s := e
        injection this
      subst e2
      unfold RV at h
      obtain ⟨p, vs, rfl, q1, q2, q3⟩ := h
      exact ⟨p, vs, rfl, .of q1, by rw [q3.len, hl], names_ok is ds vs a r hl q3 E k⟩
    · cases e
  | tp2 i js =>
    have key : ∃ d1 ds2, d = .tup [d1, .tup ds2] := by
      cases d <;> first | (cases e; done) | skip
      rename_i ds
      rcases ds with _ | ⟨d1, _ | ⟨d2, _ | ⟨d3, ds⟩⟩⟩ <;> first | (cases e; done) | skip
      all_goals cases d2 <;> first | (cases e; done) | exact ⟨d1, _, rfl⟩
    obtain ⟨d1, ds2, rfl⟩ := key
    have e : (if js.length = ds2.length then M.pure (setAll js ds2 (r.set i (.val d1))) else M.stuck : M Env) s = .ok r' s := e
    by_cases hl : js.length = ds2.length
    · rw [if_pos hl] at e
      have e2 : setAll js ds2 (r.set i (.val d1)) = r' := by
        have : (Res.ok (setAll js ds2 (r.set i (Slot.val d1))) s : Res Env) = .ok r' s := e
        injection this
      subst e2
      unfold RV at h
      obtain ⟨p, vs, rfl, q1, q2, q3⟩ := h
      obtain ⟨v1, v2, rfl, h1, h2⟩ := q3.two_inv
      unfold RV at h2
      obtain ⟨p2, ws, rfl, q4, q5, q6⟩ := h2
      refine ⟨p, _, rfl, .of q1, rfl, v1, [.ref p2], rfl, .ref p2, [], rfl, p2, ws, rfl, .of q4, by rw [q6.len, hl], ?_⟩
      refine names_ok js ds2 ws _ _ hl q6 (E.set h1 i) fun b hb hs => ⟨rfl, k b hb ⟨by rw [hs.1]; simp, fun j hj => ?_⟩⟩
      have hj' : j ≠ i ∧ j ∉ js := by simpa [Tg.slots] using hj
      rw [hs.2 j hj'.2, List.getElem?_set_ne (Ne.symm hj'.1)]
    · rw [if_neg hl] at e
      cases e
/-- the target's rule, by the names' rules -/
theorem bindT_cases (t : Tg) (d : D) (r : Env) (s : Sto) : bindT t d r s = .no ∨ ∃ r', bindT t d r s = .ok r' s := by
  unfold bindT
  split
  · exact .inr ⟨_, rfl⟩
  · split
    · exact .inr ⟨_, rfl⟩
    · exact .inl rfl
  · split
    · exact .inr ⟨_, rfl⟩
    · exact .inl rfl
  · exact .inl rfl
end
end EW

set_option Elab.async false
set_option linter.all false
set_option maxRecDepth 100000
/-! M layer 10: list comprehensions. -/
namespace EW
open PySem PySem.Spec PyProof.Rows L2

theorem M.bind_assoc {α β γ : Type} (x : M α) (f : α → M β) (k : β → M γ) : M.bind (M.bind x f) k = M.bind x fun a => M.bind (f a) k := by
  funext s
  show M.bind (M.bind x f) k s = M.bind x (fun a => M.bind (f a) k) s
  unfold M.bind
  cases x s <;> rfl
theorem wipe_get (a : AS) (j : Nat) : ∀ vs : List Nat, (wipe a vs)[j]? = if j ∈ vs then (a[j]?).map (fun _ => none) else a[j]?
  | [] => rfl
  | v :: vs => by
    unfold wipe
    by_cases h : v = j
    · subst h
      rw [List.getElem?_set_self', wipe_get a v vs]
      simp only [List.mem_cons, true_or, if_true]
      split <;> cases a[v]? <;> rfl
    · rw [List.getElem?_set_ne h, wipe_get a j vs]
      have e : (j ∈ v :: vs) = (j ∈ vs) := by simp [Ne.symm h]
      simp only [e]
theorem wipeE_get (r : Env) (j : Nat) : ∀ vs : List Nat, (wipeE r vs)[j]? = if j ∈ vs then (r[j]?).map (fun _ => Slot.non) else r[j]?
  | [] => rfl
  | v :: vs => by
    unfold wipeE
    by_cases h : v = j
    · subst h
      rw [List.getElem?_set_self', wipeE_get r v vs]
      simp only [List.mem_cons, true_or, if_true]
      split <;> cases r[v]? <;> rfl
    · rw [List.getElem?_set_ne h, wipeE_get r j vs]
      have e : (j ∈ v :: vs) = (j ∈ vs) := by simp [Ne.symm h]
      simp only [e]
theorem wipeE_length (r : Env) : ∀ vs : List Nat, (wipeE r vs).length = r.length
  | [] => rfl
  | v :: vs => by unfold wipeE; rw [List.length_set, wipeE_length r vs]
theorem RE.wipe {chi : Addr → Exn → Prop} {m : Mp} {n : Nat} {H : Hp} {a : AS} {r : Env} (E : RE chi m n H a r) (vs : List Nat) : RE chi m n H (L2.wipe a vs) (wipeE r vs) := by
  refine ⟨by rw [wipe_length, wipeE_length]; exact E.len, fun i d h => ?_, fun i x h => ?_⟩
  · rw [wipeE_get] at h
    rw [wipe_get]
    by_cases hi : i ∈ vs
    · rw [if_pos hi] at h
      cases q : r[i]? with
      | none => rw [q] at h; cases h
      | some z => rw [q] at h; cases h
    · rw [if_neg hi] at h ⊢
      exact E.val i d h
  · rw [wipeE_get] at h
    rw [wipe_get]
    by_cases hi : i ∈ vs
    · rw [if_pos hi] at h
      cases q : r[i]? with
      | none => rw [q] at h; cases h
      | some z => rw [q] at h; cases h
    · rw [if_neg hi] at h ⊢
      exact E.exc i x h
theorem wipe_same {is vs : List Nat} {a b : AS} (h : Same' is (L2.wipe a vs) b) (hs : ∀ i ∈ is, i ∈ vs) : L2.wipe b vs = L2.wipe a vs := by
  have hl : b.length = a.length := by rw [h.1, wipe_length]
  refine List.ext_getElem? fun j => ?_
  rw [wipe_get, wipe_get]
  by_cases hj : j ∈ vs
  · rw [if_pos hj, if_pos hj]
    by_cases hlt : j < a.length
    · rw [List.getElem?_eq_getElem hlt, List.getElem?_eq_getElem (by omega)]
      rfl
    · rw [List.getElem?_eq_none (by omega), List.getElem?_eq_none (by omega)]
  · rw [if_neg hj, if_neg hj]
    rw [h.2 j fun q => hj (hs j q), wipe_get, if_neg hj]

section
variable {G : Gb} {m m1 m0 : Mp} {s s1 s0 : Sto} {H H1 H0 : Hp}
def Nown (m : Mp) (s : Sto) (p : Addr) : Prop := ∀ (i : Nat) (o : Ob), s[i]? = some o → isRol o = false → m i ≠ p
theorem Nown.ext {p : Addr} {u : HO} (h : Nown m s p) (e : Ext m s H m1 s1 H1) (hp : H p = some u) : Nown m1 s1 p := fun i o h1 h2 q => by
  by_cases hi : i < s.length
  · obtain ⟨o0, h0⟩ : ∃ o0, s[i]? = some o0 := ⟨s[i], by simp [hi]⟩
    obtain ⟨o', z1, z2, _⟩ := e.rol i o0 h0
    rw [h1] at z1; cases z1
    exact h i o0 h0 (z2.symm.trans h2) ((e.mu i hi).symm.trans q)
  · have hl : i < s1.length := (List.getElem?_eq_some_iff.mp h1).1
    have z := e.nw i (Nat.le_of_not_lt hi) hl
    rw [q, hp] at z; cases z
theorem Ext.side (e : Ext m0 s0 H0 m s H) {p : Addr} {u : HO} (h0 : H0 p = none) : Ext m0 s0 H0 m s (upd H p u) := by
  have ne : ∀ a o, H0 a = some o → a ≠ p := fun a o q z => by subst z; rw [h0] at q; cases q
  refine ⟨e.len, e.mu, e.rol, fun a o q hn => ?_, fun a o q => ?_, e.nw⟩
  · rw [upd_ne (ne a o q)]; exact e.fr a o q hn
  · rw [upd_ne (ne a o q)]; exact e.dm a o q
end

/-- the meaning of a list comprehension -/
def lcBody (tg : Tg) (fc : Env → M Bool) (fe : Env → M D) (r0 : Env) : D → M (Option D) := fun x => M.bind (bindT tg x r0) fun r1 => M.bind (fc r1) fun b => if b = true then M.bind (fe r1) fun y => M.pure (some y) else M.pure none
def lcM (fs : Env → M (List D)) (k : IK) (tg : Tg) (fc : Env → M Bool) (fe : Env → M D) (vs : List Nat) : Env → M D := fun r => M.bind (fs r) fun xs => M.bind (mkIt k xs) fun it =>
  M.bind (lcGo it (lcBody tg fc fe (wipeE r vs)) it.n 0 []) fun acc => newO (.lst acc)
/-- within a comprehension nothing is raised -/
def Pm.in_ (g : Pm) : Pm := ⟨fun _ _ _ _ => False, g.chi⟩
theorem M.bind_def {α β : Type} (x : M α) (f : α → M β) (s : Sto) : M.bind x f s = match x s with
    | .ok a s' => f a s'
    | .exc e s' => .exc e s'
    | .no => .no := rfl
theorem M.bind_inv {α β : Type} {x : M α} {f : α → M β} {s s' : Sto} {b : β} (h : M.bind x f s = .ok b s') : ∃ a s1, x s = .ok a s1 ∧ f a s1 = .ok b s' := by
  have h : (match x s with
    | .ok a s' => f a s'
    | .exc e s' => .exc e s'
    | .no => .no) = .ok b s' := h
  cases q : x s with
  | ok a s1 => rw [q] at h; exact ⟨a, s1, rfl, h⟩
  | exc e s1 => rw [q] at h; cases h
  | no => rw [q] at h; cases h
theorem M.pure_inv {α : Type} {a b : α} {s s' : Sto} (h : M.pure a s = .ok b s') : a = b ∧ s = s' := by
  have h : Res.ok a s = .ok b s' := h
  injection h with h1 h2
  exact ⟨h1, h2⟩
theorem body_ok {tg : Tg} {fc : Env → M Bool} {fe : Env → M D} {r0 : Env} {x : D} {s s2 : Sto} {rr : Option D} (h : lcBody tg fc fe r0 x s = .ok rr s2) :
    ∃ r1 b s3, bindT tg x r0 s = .ok r1 s ∧ fc r1 s = .ok b s3 ∧ ((b = true ∧ ∃ y, fe r1 s3 = .ok y s2 ∧ rr = some y) ∨ (b = false ∧ rr = none ∧ s2 = s3)) := by
  unfold lcBody at h
  obtain ⟨r1, s', e, h⟩ := M.bind_inv h
  obtain ⟨b, s3, e2, h⟩ := M.bind_inv h
  rcases bindT_cases tg x r0 s with q | ⟨r2, q⟩
  · rw [q] at e; cases e
  · rw [q] at e
    cases e
    refine ⟨r1, b, s3, q, e2, ?_⟩
    cases b with
    | true =>
      obtain ⟨y, s4, e3, h⟩ := M.bind_inv h
      obtain ⟨h1, h2⟩ := M.pure_inv h
      subst h1 h2
      exact .inl ⟨rfl, y, e3, rfl⟩
    | false =>
      obtain ⟨h1, h2⟩ := M.pure_inv h
      exact .inr ⟨rfl, h1.symm, h2.symm⟩
theorem lcGo_succ {it : Itr} {body : D → M (Option D)} {n i : Nat} {acc : List D} {s : Sto} : lcGo it body (n + 1) i acc s = match it.at_ i s with
    | none => .no
    | some x => match body x s with
      | .ok r s1 => lcGo it body n (i + 1) (acc ++ r.toList) s1
      | _ => .no := rfl
theorem lcGo_zero {it : Itr} {body : D → M (Option D)} {i : Nat} {acc : List D} {s : Sto} : lcGo it body 0 i acc s = if it.fin s then .ok acc s else .no := rfl
theorem lcGo_step {G : Gb} {m1 : Mp} {s1 s' : Sto} {H1 : Hp} {Xp : XP} {it : Itr} {body : D → M (Option D)} {n i : Nat} {acc : List D} {f : List D → M D} {K : D → Mp → Sto → Hp → Prop}
    (P : Post G m1 s1 H1 Xp (M.bind (lcGo it body (n + 1) i acc) f s') K) : ∃ d rr s2, it.at_ i s' = some d ∧ body d s' = .ok rr s2 ∧ Post G m1 s1 H1 Xp (M.bind (lcGo it body n (i + 1) (acc ++ rr.toList)) f s2) K := by
  have e : M.bind (lcGo it body (n + 1) i acc) f s' = match it.at_ i s' with
      | none => .no
      | some x => match body x s' with
        | .ok r s1 => M.bind (lcGo it body n (i + 1) (acc ++ r.toList)) f s1
        | _ => .no := by
    rw [M.bind_def, lcGo_succ]
    cases it.at_ i s' with
    | none => rfl
    | some x =>
      dsimp only
      cases body x s' <;> rfl
  rw [e] at P
  cases q : it.at_ i s' with
  | none => rw [q] at P; exact P.elim
  | some d =>
    rw [q] at P
    dsimp only at P
    cases q2 : body d s' with
    | no => rw [q2] at P; exact P.elim
    | exc x s2 => rw [q2] at P; exact P.elim
    | ok rr s2 =>
      rw [q2] at P
      exact ⟨d, rr, s2, rfl, q2, P⟩

section
variable {G : Gb} {g : Pm} {X : Cx}
theorem lc_read {fs : Env → M (List D)} {k : IK} {tg : Tg} {fc : Env → M Bool} {fe : Env → M D} {vs : List Nat} {a : AS} {H : Hp} {Q : VK} (hsl : ∀ i ∈ tg.slots, i ∈ vs) (h : tE G g (lcM fs k tg fc fe vs) a H Q) :
    tLc (tI G g fs k) (gOf G.K tg) (tB G g.in_ fc) (tE G g.in_ fe) vs a H Q := by
  obtain ⟨m, r, s, R, E, P⟩ := h
  refine ⟨m, r, s, R, E, ?_⟩
  have P0 : Post G m s H (wX G g.W a) (M.bind (M.bind (fs r) (mkIt k)) (fun it => M.bind (lcGo it (lcBody tg fc fe (wipeE r vs)) it.n 0 []) fun acc => newO (.lst acc)) s) (fun d m' s' H' => ∀ v, RV m' s'.length H' v d → Q v H') := by
    rw [M.bind_assoc]; exact P
  refine P0.bind.imp fun it m1 s1 H1 e1 r1 P1 J hJ p hp => ?_
  refine ⟨fun i mm Hc => mm = it.n - i ∧ i ≤ it.n ∧ ∃ m' s' accD accV, Rel G m' s' Hc ∧ Ext m1 s1 H1 m' s' Hc ∧ Hc p = some (.lst accV) ∧ Nown m' s' p ∧ RVs m' s'.length Hc accV accD ∧ accD.length ≤ i ∧
    Post G m1 s1 H1 (wX G g.W a) (M.bind (lcGo it (lcBody tg fc fe (wipeE r vs)) (it.n - i) i accD) (fun acc => newO (.lst acc)) s') (fun d m' s' H' => ∀ v, RV m' s'.length H' v d → Q v H'), ?_, ?_⟩
  · obtain ⟨z1, z2⟩ := r1.same (upd_keep (o := .lst []) hp)
    refine ⟨it.n - 0, rfl, Nat.zero_le _, m1, s1, [], [], z1, z2, upd_same, fun i o h1 h2 q => ?_, by unfold RVs; rfl, Nat.le_refl _, P1⟩
    obtain ⟨u, h3, _⟩ := OR.own (r1.obs i o h1) h2
    rw [q, hp] at h3; cases h3
  · rintro i mm Hc ⟨rfl, hi, m', s', accD, accV, R', e', hD', no', rv', hl', P'⟩
    by_cases hlt : i < it.n
    · obtain ⟨n, hn⟩ : ∃ n, it.n - i = n + 1 := ⟨it.n - i - 1, by omega⟩
      have hn2 : it.n - (i + 1) = n := by omega
      rw [hn] at P'
      obtain ⟨d, rr, s2, q1, q2, P2⟩ := lcGo_step P'
      obtain ⟨r2, b, s3, b1, b2, b3⟩ := body_ok q2
      obtain ⟨go, step⟩ := hJ.go m' s' Hc i d e' R' q1 hlt
      refine .inr ⟨go, fun H' => ∃ mm, mm = it.n - (i + 1) ∧ i + 1 ≤ it.n ∧ ∃ m' s' accD accV, Rel G m' s' H' ∧ Ext m1 s1 H1 m' s' H' ∧ H' p = some (.lst accV) ∧ Nown m' s' p ∧ RVs m' s'.length H' accV accD ∧ accD.length ≤ i + 1 ∧
        Post G m1 s1 H1 (wX G g.W a) (M.bind (lcGo it (lcBody tg fc fe (wipeE r vs)) (it.n - (i + 1)) (i + 1) accD) (fun acc => newO (.lst acc)) s') (fun d m' s' H' => ∀ v, RV m' s'.length H' v d → Q v H'), fun H' ⟨mm, h1, h2⟩ => ⟨mm, by omega, h1, h2⟩, fun x H2 hy => ?_⟩
      obtain ⟨keep, hx⟩ := step x H2 hy
      obtain ⟨R2, e2⟩ := R'.same keep
      have E1 : RE g.chi m' s'.length H2 (L2.wipe a vs) (wipeE r vs) := ((E.mono (((e1.trans e').trans e2).stay R))).wipe vs
      refine tgt_ok b1 hx E1 fun c hc hsm => ⟨wipe_same hsm hsl, m', r2, s', R2, hc, ?_⟩
      rw [b2]
      intro m3 H3 e3 R3 v hv
      subst hv
      have hD3 : H3 p = some (.lst accV) := e3.fr p _ (keep _ _ hD') no'
      have no3 : Nown m3 s3 p := no'.ext e3 (keep _ _ hD')
      have ee3 : Ext m1 s1 H1 m3 s3 H3 := (e'.trans e2).trans e3
      have rv3 : RVs m3 s3.length H3 accV accD := RVs.mono (e3.stay R2) _ _ (RVs.mono (e2.stay R') _ _ rv')
      rcases b3 with ⟨rfl, y, b4, rfl⟩ | ⟨rfl, rfl, rfl⟩
      · refine iteT ⟨m3, r2, s3, R3, hc.mono (e3.stay R2), ?_⟩
        rw [b4]
        intro m4 H4 e4 R4 yv hyv
        have hD4 : H4 p = some (.lst accV) := e4.fr p _ hD3 no3
        have no4 : Nown m4 s2 p := no3.ext e4 hD3
        have rv4 : RVs m4 s2.length H4 accV accD := RVs.mono (e4.stay R3) _ _ rv3
        have hz : accV.length < sizeLine := by rw [rv4.len]; exact Nat.lt_of_le_of_lt hl' (Nat.lt_of_lt_of_le hlt hJ.sz)
        refine ⟨accV, hD4, hz, it.n - (i + 1), rfl, hlt, m4, s2, accD ++ [y], accV ++ [yv], ?_⟩
        obtain ⟨R5, st5⟩ := R4.side (u := .lst (accV ++ [yv])) hD4 no4
        refine ⟨R5, (ee3.trans e4).side hp, upd_same, no4, (RVs.mono st5 _ _ rv4).app (.one (RV.mono st5 _ _ hyv)), by simp; exact hl', ?_⟩
        rw [hn2]; exact P2
      · refine iteF ⟨it.n - (i + 1), rfl, hlt, m3, s2, accD, accV, R3, ee3, hD3, no3, rv3, Nat.le_succ_of_le hl', ?_⟩
        rw [hn2]
        have P3 := P2
        simp only [Option.toList, List.append_nil] at P3
        exact P3
    · have hin : i = it.n := by omega
      subst hin
      rw [Nat.sub_self] at P'
      rw [M.bind_def, lcGo_zero] at P'
      cases q : it.fin s' with
      | false =>
        rw [q] at P'
        exact P'.elim
      | true =>
        rw [q] at P'
        have P2 : Post G m1 s1 H1 (wX G g.W a) (.ok (.ref s'.length) (s' ++ [.lst accD])) (fun d m' s' H' => ∀ v, RV m' s'.length H' v d → Q v H') := P'
        obtain ⟨m5, R5, e5, h5⟩ := R'.adopt e' hD' hp no' rv' (by rw [rv'.len]; exact Nat.le_trans hl' hJ.sz)
        exact .inl ⟨hJ.stop m' s' Hc e' R' q, P2.at_ e5 R5 _ h5⟩
/-- as a value -/
theorem me_lc {elt tgE iter : Expr} {ifs : List Expr} {scope : Scope} {own : List (Str × Nat)} {pos : Pos} {fs : Env → M (List D)} {k : IK} {tg : Tg} {fc : Env → M Bool} {fe : Env → M D} (hc : X.calm = true) (hN : X.N.Nodup) (hi : PI X tgE iter (tI G g fs k)) (ok : BlkOk X.N X.env.scope scope own)
    (hg : ∀ (s : Shared) (H : Hp) (C : Addr) (cl : List (Str × Addr)) (fp : List Addr), PG (X.blk s H scope (compEnvC scope cl C X.env) fp) tgE (gOf G.K tg)) (ht : ∀ (s : Shared) (H : Hp) (C : Addr) (cl : List (Str × Addr)) (fp : List Addr), PTs (X.blk s H scope (compEnvC scope cl C X.env) fp) ifs (tB G g.in_ fc))
    (he : ∀ (s : Shared) (H : Hp) (C : Addr) (cl : List (Str × Addr)) (fp : List Addr), PE (X.blk s H scope (compEnvC scope cl C X.env) fp) elt (tE G g.in_ fe)) (hs : ∀ x, foldedSetIterable iter X.env x = pure x) (hsl : ∀ i ∈ tg.slots, i ∈ own.map (·.2)) :
    PE X (.ListComp elt [⟨tgE, iter, ifs, 0⟩] scope pos) (tE G g (lcM fs k tg fc fe (own.map (·.2)))) := impPE (pe_lc hc hN hi ok hg ht he hs) fun a H Q h => lc_read hsl h
end
end EW

set_option Elab.async false
set_option linter.all false
set_option maxRecDepth 100000
/-! M layer 11: statements. -/
namespace EW
open PySem PySem.Spec PyProof.Rows L2

def PostS (G : Gb) (g : Pm) (m : Mp) (s : Sto) (H : Hp) (q : SRes) (D : Ends) : Prop := match q with
  | .nx r s' => ∀ m' a' H', Ext m s H m' s' H' → Rel G m' s' H' → RE g.chi m' s'.length H' a' r → D.nx a' H'
  | .rt d s' => ∀ m' H' v, Ext m s H m' s' H' → Rel G m' s' H' → RV m' s'.length H' v d → D.rt v H'
  | .ex x r s' => ∀ m' a' H' cls dd, Ext m s H m' s' H' → Rel G m' s' H' → RE g.chi m' s'.length H' a' r → XR G m' s'.length H' cls dd x → g.W cls dd a' H'
  | .no => False
def tS (G : Gb) (g : Pm) (f : Env → Sto → SRes) : TS := fun D a H => ∃ m r s, Rel G m s H ∧ RE g.chi m s.length H a r ∧ PostS G g m s H (f r s) D
section
variable {G : Gb} {g : Pm} {m m1 : Mp} {s s1 : Sto} {H H1 : Hp} {D D' : Ends} {α : Type}
theorem PostS.rebase {q : SRes} (e : Ext m s H m1 s1 H1) (h : PostS G g m s H q D) : PostS G g m1 s1 H1 q D := by
  cases q with
  | nx r s2 => exact fun m2 a2 H2 e2 => h m2 a2 H2 (e.trans e2)
  | rt d s2 => exact fun m2 H2 v e2 => h m2 H2 v (e.trans e2)
  | ex x r s2 => exact fun m2 a2 H2 c d e2 => h m2 a2 H2 c d (e.trans e2)
  | no => exact h
theorem PostS.lift {x : M α} {r : Env} {k : α → Sto → SRes} {a : AS} (h : PostS G g m s H (EW.lift x r k s) D) (E : RE g.chi m s.length H a r) (R : Rel G m s H) :
    Post G m s H (wX G g.W a) (x s) (fun d m1 s1 H1 => PostS G g m s H (k d s1) D) := by
  unfold EW.lift at h
  cases q : x s with
  | ok d s1 => rw [q] at h; exact fun _ _ _ _ => h
  | exc e s1 =>
    rw [q] at h
    exact fun m1 H1 e1 r1 cls dd hx => h m1 a H1 cls dd e1 r1 (E.mono (e1.stay R)) hx
  | no => rw [q] at h; exact h
end
section
variable {G : Gb} {g : Pm} {X : Cx} {e : Expr} {fe : Env → M EW.D} {pos : Pos}
theorem mss_nil : PSs X [] (tS G g fun r s => .nx r s) := impPSs pss_nil fun D a H h => by
  obtain ⟨m, r, s, R, E, P⟩ := h
  exact P m a H Ext.refl R E
theorem mss_cons {st : Stmt} {rest : List Stmt} {f1 f2 : Env → Sto → SRes} (h1 : PS X st (tS G g f1)) (h2 : PSs X rest (tS G g f2)) :
    PSs X (st :: rest) (tS G g fun r s => match f1 r s with
      | .nx r1 s1 => f2 r1 s1
      | q => q) := impPSs (pss_cons h1 h2) fun D a H h => by
  obtain ⟨m, r, s, R, E, P⟩ := h
  refine ⟨m, r, s, R, E, ?_⟩
  dsimp only at P
  cases q : f1 r s with
  | nx r1 s1 =>
    rw [q] at P
    exact fun m1 a1 H1 e1 R1 E1 => ⟨m1, r1, s1, R1, E1, PostS.rebase e1 P⟩
  | rt d s1 => rw [q] at P; exact P
  | ex x r1 s1 => rw [q] at P; exact P
  | no => rw [q] at P; exact P
theorem ms_expr (he : PE X e (tE G g fe)) (hs : swapsWith e none pos.line X.env = pure false) : PS X (.Expr e pos) (tS G g fun r s => lift (fe r) r (fun _ s1 => .nx r s1) s) := impPS (ps_expr he hs) fun D a H h => by
  obtain ⟨m, r, s, R, E, P⟩ := h
  exact ⟨m, r, s, R, E, (P.lift E R).imp fun d m1 s1 H1 e1 R1 P1 v hv => P1 m1 a H1 e1 R1 (E.mono (e1.stay R))⟩
theorem ms_ret (he : PE X e (tE G g fe)) : PS X (.Return (some e) pos) (tS G g fun r s => lift (fe r) r (fun v s1 => .rt v s1) s) := impPS (ps_ret he) fun D a H h => by
  obtain ⟨m, r, s, R, E, P⟩ := h
  exact ⟨m, r, s, R, E, (P.lift E R).imp fun d m1 s1 H1 e1 R1 P1 v hv => P1 m1 H1 v e1 R1 hv⟩
theorem ms_retn : PS X (.Return none pos) (tS G g fun r s => .rt .non s) := impPS ps_retN fun D a H h => by
  obtain ⟨m, r, s, R, E, P⟩ := h
  exact P m H .non Ext.refl R (by unfold RV; rfl)
theorem ms_nop {st : Stmt} (h : PS X st tNext) : PS X st (tS G g fun r s => .nx r s) := impPS h fun D a H h => by
  obtain ⟨m, r, s, R, E, P⟩ := h
  exact P m a H Ext.refl R E
theorem ms_if {c : Expr} {p q : List Stmt} {tc : Env → M Bool} {f1 f2 : Env → Sto → SRes} (hc : PT X c (tB G g tc)) (h1 : PSs X p (tS G g f1)) (h2 : PSs X q (tS G g f2)) :
    PS X (.If c p q pos) (tS G g fun r s => match tc r s with
      | .ok k s1 => if k = true then f1 r s1 else f2 r s1
      | .exc x s1 => .ex x r s1
      | .no => .no) := impPS (ps_if hc h1 h2) fun D a H h => by
  obtain ⟨m, r, s, R, E, P⟩ := h
  refine ⟨m, r, s, R, E, ?_⟩
  dsimp only at P
  cases z : tc r s with
  | ok k s1 =>
    rw [z] at P
    intro m1 H1 e1 R1 v hv
    subst hv
    cases v with
    | true => exact iteT ⟨m1, r, s1, R1, E.mono (e1.stay R), PostS.rebase e1 P⟩
    | false => exact iteF ⟨m1, r, s1, R1, E.mono (e1.stay R), PostS.rebase e1 P⟩
  | exc x s1 =>
    rw [z] at P
    exact fun m1 H1 e1 R1 cls dd hx => P m1 a H1 cls dd e1 R1 (E.mono (e1.stay R)) hx
  | no => rw [z] at P; exact P
/-- target = value -/
theorem ms_asg {tgE : Expr} {t : Tg} (he : PE X e (tE G g fe)) (hg : PG X tgE (gOf G.K t)) (hs : swapsWithSole [tgE] e pos.line X.env = pure false) (hw : swappedStores [tgE] e X.env = pure none)
    (h1 : (assignEach [tgE] X.env).map (·.2) = [assign tgE X.env]) : PS X (.Assign [tgE] e pos) (tS G g fun r s => lift (M.bind (fe r) fun x => bindT t x r) r (fun r1 s1 => .nx r1 s1) s) := impPS (ps_asg he hg hs hw h1) fun D a H h => by
  obtain ⟨m, r, s, R, E, P⟩ := h
  refine ⟨m, r, s, R, E, (P.lift E R).bindO.imp fun d m1 s1 H1 e1 R1 P1 v hv => ?_⟩
  rcases bindT_cases t d r s1 with q | ⟨r1, q⟩
  · rw [q] at P1; exact P1.elim
  · rw [q] at P1
    have P2 := P1.at_ e1 R1
    exact tgt_ok q hv (E.mono (e1.stay R)) fun b hb _ => P2 m1 b H1 e1 R1 hb
theorem FR.put {fN : Nat → Str} {m : Mp} {n : Nat} {H : Hp} {f : Nat} {v : V} {d : EW.D} : ∀ {fs : List (Nat × EW.D)} {vs : List (Str × V)}, FR fN m n H vs fs → (∀ p ∈ fs, fN p.1 = fN f → p.1 = f) → RV m n H v d → FR fN m n H (putF (fN f) v vs) (putA f d fs)
  | [], vs, h, _, hv => by
    unfold FR at h
    subst h
    show FR fN m n H [(fN f, v)] [(f, d)]
    unfold FR
    exact ⟨v, [], rfl, hv, by unfold FR; rfl⟩
  | p :: r, vs, h, i, hv => by
    unfold FR at h
    obtain ⟨w, u, rfl, h1, h2⟩ := h
    unfold putF putA
    by_cases q : p.1 = f
    · rw [if_pos (by rw [q]), if_pos q]
      subst q
      unfold FR
      exact ⟨v, u, rfl, hv, h2⟩
    · rw [if_neg fun z => q (i p List.mem_cons_self z), if_neg q]
      unfold FR
      exact ⟨w, _, rfl, h1, FR.put h2 (fun p hp => i p (List.mem_cons_of_mem _ hp)) hv⟩
theorem FR.len {fN : Nat → Str} {m : Mp} {n : Nat} {H : Hp} : ∀ {fs : List (Nat × EW.D)} {vs : List (Str × V)}, FR fN m n H vs fs → vs.length = fs.length
  | [], vs, h => by unfold FR at h; subst h; rfl
  | p :: r, vs, h => by
    unfold FR at h
    obtain ⟨w, u, rfl, h1, h2⟩ := h
    rw [List.length_cons, List.length_cons, FR.len h2]
theorem putA_mem {f : Nat} {v : EW.D} {P : Nat → Prop} : ∀ {fs : List (Nat × EW.D)}, (∀ p ∈ fs, P p.1) → P f → ∀ p ∈ putA f v fs, P p.1
  | [], _, hf, p, hp => by
    have e : p = (f, v) := by simpa [putA] using hp
    subst e; exact hf
  | q :: r, h, hf, p, hp => by
    unfold putA at hp
    split at hp
    · rcases List.mem_cons.mp hp with e | hp
      · subst e; exact hf
      · exact h p (List.mem_cons_of_mem _ hp)
    · rcases List.mem_cons.mp hp with e | hp
      · subst e; exact h _ List.mem_cons_self
      · exact putA_mem (fun p hp => h p (List.mem_cons_of_mem _ hp)) hf p hp
theorem setF_cases (P : Prg) (o : EW.D) (f : Nat) (v : EW.D) (s : Sto) : setF P o f v s = .no ∨ ∃ i c fs, o = .ref i ∧ s[i]? = some (.ins c fs) ∧ P.flds c f = true ∧ fs.length < 1000 ∧ setF P o f v s = .ok () (s.set i (.ins c (putA f v fs))) := by
  unfold setF
  cases o <;> (try dsimp only) <;> first | exact .inl rfl | skip
  split
  · rename_i c fs q
    split
    · rename_i hc
      obtain ⟨h1, h2⟩ := Bool.and_eq_true_iff.mp hc
      exact .inr ⟨_, c, fs, rfl, q, h1, of_decide_eq_true h2, rfl⟩
    · exact .inl rfl
  · exact .inl rfl
theorem ms_setf {o : Expr} {f : Nat} {fo : Env → M EW.D} {pos' : Pos} (F : FOk G) (hK : X.K = G.K) (ha : PE X o (tE G g fo)) (hv : PE X e (tE G g fe)) (hs : swapsWith e (some (.Attribute o (G.fN f) pos')) pos.line X.env = pure false) :
    PS X (.Assign [.Attribute o (G.fN f) pos'] e pos) (tS G g fun r s => lift (M.bind (fe r) fun v => M.bind (fo r) fun x => setF G.Q x f v) r (fun _ s1 => .nx r s1) s) := impPS (ps_fld ha hv hs) fun D a H h => by
  obtain ⟨m, r, s, R, E, P⟩ := h
  refine ⟨m, r, s, R, E, (P.lift E R).bindO.imp fun d m1 s1 H1 e1 R1 P1 v hv => ?_⟩
  refine ⟨m1, r, s1, R1, E.mono (e1.stay R), (Post.rebase e1 P1.bindO).imp fun d2 m2 s2 H2 e2 R2 P2 u hu => ?_⟩
  rcases setF_cases G.Q d2 f d s2 with q | ⟨i, c, fs, rfl, hi, hf, hl, q⟩
  · rw [q] at P2; exact P2.elim
  · rw [q] at P2
    unfold RV at hu
    obtain ⟨_, rfl⟩ := hu
    obtain ⟨z, dx, vs, q1, q2⟩ := R2.obs i _ hi
    obtain ⟨c1, c2⟩ := F.cls c f hf
    refine ⟨m2 i, G.cA c, dx, vs, rfl, q1, by rw [hK]; exact c1, by rw [hK]; exact c2, by rw [q2.len]; exact hl, ?_⟩
    have tupK : ∀ b ws, H2 b = some (.tup ws) → upd H2 (m2 i) (.ins (G.cA c) dx (putF (G.fN f) v vs)) b = some (.tup ws) := fun b ws z => by
      rw [upd_ne]; exact z
      intro e; rw [e, q1] at z; cases z
    have S : Stay m2 s2.length H2 m2 s2.length (upd H2 (m2 i) (.ins (G.cA c) dx (putF (G.fN f) v vs))) := ⟨Nat.le_refl _, fun _ _ => rfl, tupK⟩
    obtain ⟨R3, e3⟩ := R2.put (o' := .ins c (putA f d fs)) (u := .ins (G.cA c) dx (putF (G.fN f) v vs)) hi rfl rfl (fun _ e => HO.noConfusion e)
      ⟨putA_mem (P := fun x => G.Q.flds c x = true) z hf, dx, _, upd_same, FR.put (FR.mono S _ _ q2) (fun p hp q => F.inj c _ _ (z p hp) hf q) (RV.mono S _ _ (RV.mono (e2.stay R1) _ _ hv))⟩
    have e4 := (e1.trans e2).trans e3
    exact (P2.at_ e4 R3) m2 a _ e4 R3 (E.mono (e4.stay R))
end
end EW

set_option Elab.async false
set_option linter.all false
set_option maxRecDepth 100000
/-! M layer 12: stores by place, append, loops, raise, try. -/
namespace EW
open PySem PySem.Spec PyProof.Rows L2

section
variable {G : Gb} {g : Pm} {X : Cx} {e : Expr} {fe : Env → M EW.D} {pos : Pos}
theorem stay_upd {m : Mp} {n : Nat} {H : Hp} {p : Addr} {o u : HO} (h : H p = some o) (nt : ∀ vs, o ≠ .tup vs) : Stay m n H m n (upd H p u) :=
  ⟨Nat.le_refl _, fun _ _ => rfl, fun b ws z => by
    rw [upd_ne]; exact z
    intro e; rw [e, h] at z; exact nt ws (Option.some.inj z)⟩
/-- a list of ours gets other items -/
theorem Rel.lput {m : Mp} {s : Sto} {H : Hp} {i : Nat} {xs ys : List EW.D} {vs ws : List V} (R : Rel G m s H) (hi : s[i]? = some (.lst xs)) (h : H (m i) = some (.lst vs)) (hw : RVs m s.length H ws ys) (z : ys.length ≤ sizeLine) :
    Rel G m (s.set i (.lst ys)) (upd H (m i) (.lst ws)) ∧ Ext m s H m (s.set i (.lst ys)) (upd H (m i) (.lst ws)) :=
  R.put (o' := .lst ys) (u := .lst ws) hi rfl rfl (fun _ e => HO.noConfusion e) ⟨z, ws, upd_same, RVs.mono (stay_upd h fun _ e => HO.noConfusion e) _ _ hw⟩
/-! ### o[i] = v -/
def rS (G : Gb) : TSet := fun o i v H Q => ∃ m s a b c X, Rel G m s H ∧ RV m s.length H o a ∧ RV m s.length H i b ∧ RV m s.length H v c ∧ Post G m s H X (setI a b c s) (fun _ m' s' H' => Q H')
theorem set_item : PSet X (rS G) := by
  intro pins sh σ H o i v ov iv u Q I ro ri rv ⟨m, s, da, db, dc, Xp, R, h1, h2, h3, P⟩
  unfold setI at P
  cases da <;> (try dsimp only at P) <;> first | exact P.elim | skip
  cases db <;> (try dsimp only at P) <;> first | exact P.elim | skip
  rename_i k j
  split at P
  · rename_i xs q
    split at P
    · rename_i n hn
      unfold RV at h1 h2
      obtain ⟨_, rfl⟩ := h1
      subst h2
      obtain ⟨z, vs, q1, q2⟩ := R.obs k _ q
      refine set_list pins sh σ H _ _ v ov iv u Q I ro ri rv ⟨m k, vs, j, n, rfl, rfl, q1, by rw [q2.len]; exact hn, ?_⟩
      obtain ⟨R1, e1⟩ := R.lput q q1 (q2.set n h3) (by simpa using z)
      exact P.at_ e1 R1
    · exact P.elim
  · exact P.elim
theorem ms_seti {o i : Expr} {fo fi : Env → M EW.D} {pos' : Pos} (hv : PE X e (tE G g fe)) (ho : PE X o (tE G g fo)) (hi : PE X i (tE G g fi))
    (ha : ∀ v, assign (.Subscript o i pos') X.env v = (do
      let ov ← holding [v] (eval o X.env)
      let iv ← holding [v, ov] (eval i X.env)
      standAt pos'
      holding [v, ov, iv] (setItem ov iv v)
      release [v, ov, iv] [])) (hs : swapsWithSole [.Subscript o i pos'] e pos.line X.env = pure false) :
    PS X (.Assign [.Subscript o i pos'] e pos) (tS G g fun r s => lift (M.bind (fe r) fun v => M.bind (fo r) fun x => M.bind (fi r) fun y => setI x y v) r (fun _ s1 => .nx r s1) s) := impPS (ps_asg hv (pg_sub ho hi set_item ha) hs) fun D a H h => by
  obtain ⟨m, r, s, R, E, P⟩ := h
  refine ⟨m, r, s, R, E, (P.lift E R).bindO.imp fun d m1 s1 H1 e1 R1 P1 v hv => ?_⟩
  refine ⟨m1, r, s1, R1, E.mono (e1.stay R), (Post.rebase e1 P1.bindO).imp fun d2 m2 s2 H2 e2 R2 P2 u hu => ?_⟩
  refine ⟨m2, r, s2, R2, E.mono ((e1.trans e2).stay R), (Post.rebase (e1.trans e2) P2.bindO).imp fun d3 m3 s3 H3 e3 R3 P3 w hw => ?_⟩
  refine ⟨m3, s3, d2, d3, d, _, R3, RV.mono (e3.stay R2) _ _ hu, hw, RV.mono ((e2.trans e3).stay R1) _ _ hv, (Post.rebase ((e1.trans e2).trans e3) P3).imp fun _ m4 s4 H4 e4 R4 P4 => ?_⟩
  have e5 := ((e1.trans e2).trans e3).trans e4
  exact P4 m4 a H4 e5 R4 (E.mono (e5.stay R))

/-! ### methods of built-in types -/
def rB (G : Gb) (f : EW.D → List EW.D → M EW.D) : V → List V → Hp → VK → Prop := fun x xs H Q => ∃ m s a ds X, Rel G m s H ∧ RV m s.length H x a ∧ RVs m s.length H xs ds ∧ Post G m s H X (f a ds s) (fun d m' s' H' => ∀ v, RV m' s'.length H' v d → Q v H')
theorem bm_append : MtR X "list.append" (rB G (bms .append)) := by
  intro pins sh σ H x xs v us Q I rx rs ⟨m, s, da, ds, Xp, R, h1, h2, P⟩
  rcases ds with _ | ⟨d, _ | ⟨d2, ds⟩⟩
  · exact False.elim P
  · have P : Post G m s H Xp (appD da d s) _ := P
    unfold appD at P
    cases da <;> (try dsimp only at P) <;> first | exact P.elim | skip
    split at P
    · rename_i ys q
      obtain ⟨c, P⟩ := Post.ite P
      unfold RV at h1
      obtain ⟨_, rfl⟩ := h1
      obtain ⟨w, rfl, hw⟩ := h2.one_inv
      obtain ⟨z, vs, q1, q2⟩ := R.obs _ _ q
      refine mt_append pins sh σ H _ _ v us Q I rx rs ⟨_, vs, w, rfl, rfl, q1, by rw [q2.len]; exact c, ?_⟩
      obtain ⟨R1, e1⟩ := R.lput q q1 (q2.app (.one hw)) (by simp; omega)
      exact P.at_ e1 R1 _ (by unfold RV; rfl)
    · exact P.elim
  · exact False.elim P
theorem chkB_cases (b : BM) (d : EW.D) (s : Sto) : chkB b d s = .no ∨ (chkB b d s = .ok () s ∧ ((bmT b = .lst ∧ ∃ i xs, d = .ref i ∧ s[i]? = some (.lst xs)) ∨ (bmT b = .dic ∧ ∃ i xs, d = .ref i ∧ s[i]? = some (.dic xs)) ∨ (bmT b = .str ∧ ∃ x, d = .str x))) := by
  unfold chkB
  cases q : bmT b <;> cases d <;> (try dsimp only) <;> first | exact .inl rfl | skip
  · exact .inr ⟨rfl, .inr (.inr ⟨rfl, _, rfl⟩)⟩
  · split
    · rename_i xs h
      exact .inr ⟨rfl, .inl ⟨rfl, _, xs, rfl, h⟩⟩
    · exact .inl rfl
  · split
    · rename_i xs h
      exact .inr ⟨rfl, .inr (.inl ⟨rfl, _, xs, rfl, h⟩)⟩
    · exact .inl rfl
theorem me_bm {b : BM} {id : String} {name : Str} {apos : Pos} {o e0 : Expr} {es : List Expr} {fo : Env → M EW.D} {fs : Env → M (List EW.D)} (hK : X.K = G.K) (pa : PlainAttrs (tyN (bmT b))) (slot : PySem.Slot (tyN (bmT b)) name id) (hty : typeOf (.builtin id) = pure (.type "method_descriptor")) (hm : MtR X id (rB G (bms b))) (ho : PE X o (tE G g fo)) (ha : PA X (e0 :: es) (tL G g fs))
    (hbase : attributeBase o name X.env (eval o X.env) = eval o X.env)
    (hfew : ((backTo pos (starEach (e0 :: es) X.env)).all (fun x => !x.1) && (backToKw pos (keywordEach [] X.env)).all (fun x => x.1.isSome)
      && decide ((e0 :: es).length + ([] : List Keyword).length + (if ([] : List Keyword).isEmpty then 0 else 1) < 30)) = true)
    (hline : (apos.endLine == pos.line) = true) (hs : starEach (e0 :: es) X.env = (false, eval e0 X.env) :: starEach es X.env) (hplain : (backTo pos (starEach es X.env)).any (·.1) = false) :
    PE X (.Call (.Attribute o name apos) (e0 :: es) [] pos) (tE G g fun r => M.bind (fo r) fun x => M.bind (chkB b x) fun _ => M.bind (fs r) fun xs => bms b x xs) := impPE (pe_bm pa slot hty hm ho ha hbase hfew hline hs hplain) fun a H Q h => by
  obtain ⟨m, r, s, R, E, P⟩ := h
  refine ⟨m, r, s, R, E, P.bindO.imp fun d m1 s1 H1 e1 R1 P1 v hv => ?_⟩
  have P1 := Post.rebase e1 P1
  have P2 := P1.bindO
  rcases chkB_cases b d s1 with q | ⟨q, hq⟩
  · rw [q] at P2; exact P2.elim
  · rw [q] at P2
    have P3 := P2.ok R1
    refine ⟨?_, m1, r, s1, R1, E.mono (e1.stay R), P3.bindO.imp fun ds m2 s2 H2 e2 R2 P4 us hu => ⟨m2, s2, d, ds, _, R2, RV.mono (e2.stay R1) _ _ hv, hu, Post.rebase e2 P4⟩⟩
    rw [hK]
    rcases hq with ⟨hb, i, xs, rfl, hi⟩ | ⟨hb, i, xs, rfl, hi⟩ | ⟨hb, x, rfl⟩
    · unfold RV at hv
      obtain ⟨_, rfl⟩ := hv
      obtain ⟨_, vs, q1, _⟩ := R1.obs i _ hi
      exact .inl ⟨by rw [hb]; rfl, vs, .of q1⟩
    · unfold RV at hv
      obtain ⟨_, rfl⟩ := hv
      obtain ⟨_, vs, q1, _⟩ := R1.obs i _ hi
      exact .inr (.inr (.inl ⟨by rw [hb]; rfl, .inl ⟨vs, q1⟩⟩))
    · unfold RV at hv
      subst hv
      show tyN (bmT b) = "str"
      rw [hb]; rfl
/-- name = [..] on one line -/
theorem ms_asgLc {i : Nat} {y : Str} {py : Pos} {elt tgE iter : Expr} {ifs : List Expr} {scope : Scope} {own : List (Str × Nat)} {pos spos : Pos} {fs : Env → M (List EW.D)} {k : IK} {tg : Tg} {fc : Env → M Bool} {fel : Env → M EW.D} (hc : X.calm = true) (hN : X.N.Nodup) (hy : X.N[i]? = some y) (hyl : X.env.scope.names.lookup y = some .local)
    (hsw : swapsWith (.ListComp elt [⟨tgE, iter, ifs, 0⟩] scope pos) (some (.Name y py)) spos.line X.env = pure true) (hi : PI X tgE iter (tI G g fs k)) (ok : BlkOk X.N X.env.scope scope own)
    (hg : ∀ (s : Shared) (H : Hp) (C : Addr) (cl : List (Str × Addr)) (fp : List Addr), PG (X.blk s H scope (compEnvC scope cl C X.env) fp) tgE (gOf G.K tg)) (ht : ∀ (s : Shared) (H : Hp) (C : Addr) (cl : List (Str × Addr)) (fp : List Addr), PTs (X.blk s H scope (compEnvC scope cl C X.env) fp) ifs (tB G g.in_ fc))
    (he : ∀ (s : Shared) (H : Hp) (C : Addr) (cl : List (Str × Addr)) (fp : List Addr), PE (X.blk s H scope (compEnvC scope cl C X.env) fp) elt (tE G g.in_ fel)) (hs : ∀ x, foldedSetIterable iter X.env x = pure x) (hsl : ∀ i ∈ tg.slots, i ∈ own.map (·.2)) :
    PS X (.Assign [.Name y py] (.ListComp elt [⟨tgE, iter, ifs, 0⟩] scope pos) spos) (tS G g fun r s => lift (M.bind (lcM fs k tg fc fel (own.map (·.2)) r) fun x => bindT (.nm i) x r) r (fun r1 s1 => .nx r1 s1) s) := impPS (ps_setLc hc hN hy hyl hsw hi ok hg ht he hs) fun D a H h => by
  obtain ⟨m, r, s, R, E, P⟩ := h
  refine lc_read hsl ⟨m, r, s, R, E, (P.lift E R).bindO.imp fun d m1 s1 H1 e1 R1 P1 v hv => ?_⟩
  have P2 : Post G m s H (wX G g.W a) (.ok (r.set i (.val d)) s1) _ := P1
  exact (P2.at_ e1 R1) m1 _ H1 e1 R1 ((E.mono (e1.stay R)).set hv i)

/-! ### loops -/
theorem ms_for {tgE iter : Expr} {body : List Stmt} {t : Tg} {k : IK} {fs : Env → M (List EW.D)} {fb : Env → Sto → SRes} (hp : PassesOwn (model X.prog X.w) X.A X.env X.xe) (hc : X.calm = true) (hi : PI X tgE iter (tI G g fs k)) (hg : PG X tgE (gOf G.K t)) (hb : PSs X body (tS G g fb))
    (hs : ∀ x, foldedSetIterable iter X.env x = pure x) :
    PS X (.For tgE iter body [] pos) (tS G g fun r s => match M.bind (fs r) (mkIt k) s with
      | .ok it s1 => forGo it t fb it.n 0 r s1
      | .exc x s1 => .ex x r s1
      | .no => .no) := impPS (ps_for hp hc hi hg hb hs) fun D a H h => by
  obtain ⟨m, r, s, R, E, P⟩ := h
  refine ⟨m, r, s, R, E, ?_⟩
  dsimp only at P
  cases q : M.bind (fs r) (mkIt k) s with
  | no => rw [q] at P; exact P
  | exc x s1 =>
    rw [q] at P
    exact fun m1 H1 e1 R1 cls dd hx => P m1 a H1 cls dd e1 R1 (E.mono (e1.stay R)) hx
  | ok it s1 =>
    rw [q] at P
    intro m1 H1 e1 R1 J hJ
    have P := PostS.rebase e1 P
    refine ⟨fun i mm a' Hc => mm = it.n - i ∧ i ≤ it.n ∧ ∃ m' r' s', Rel G m' s' Hc ∧ RE g.chi m' s'.length Hc a' r' ∧ Ext m1 s1 H1 m' s' Hc ∧ PostS G g m1 s1 H1 (forGo it t fb (it.n - i) i r' s') D, ⟨it.n, rfl, Nat.zero_le _, m1, r, s1, R1, E.mono (e1.stay R), Ext.refl, P⟩, ?_⟩
    rintro i mm a' Hc ⟨rfl, hi, m', r', s', R', E', e', P'⟩
    by_cases hlt : i < it.n
    · obtain ⟨n, hn⟩ : ∃ n, it.n - i = n + 1 := ⟨it.n - i - 1, by omega⟩
      have hn2 : it.n - (i + 1) = n := by omega
      rw [hn] at P'
      unfold forGo at P'
      cases q1 : it.at_ i s' with
      | none => rw [q1] at P'; exact P'.elim
      | some d =>
        rw [q1] at P'
        dsimp only at P'
        rcases bindT_cases t d r' s' with q2 | ⟨r2, q2⟩
        · rw [q2] at P'; exact P'.elim
        · rw [q2] at P'
          dsimp only at P'
          obtain ⟨go, step⟩ := hJ.go m' s' Hc i d e' R' q1 hlt
          refine .inr ⟨go, fun a'' H' => ∃ mm, mm = it.n - (i + 1) ∧ i + 1 ≤ it.n ∧ ∃ m' r' s', Rel G m' s' H' ∧ RE g.chi m' s'.length H' a'' r' ∧ Ext m1 s1 H1 m' s' H' ∧ PostS G g m1 s1 H1 (forGo it t fb (it.n - (i + 1)) (i + 1) r' s') D, fun a'' H' ⟨mm, h1, h2⟩ => ⟨mm, by omega, h1, h2⟩, fun x H2 hy => ?_⟩
          obtain ⟨keep, hx⟩ := step x H2 hy
          obtain ⟨R2, e2⟩ := R'.same keep
          refine tgt_ok q2 hx (E'.mono (e2.stay R')) fun c hcc _ => ⟨m', r2, s', R2, hcc, ?_⟩
          have ee := e'.trans e2
          cases q3 : fb r2 s' with
          | nx r3 s3 =>
            rw [q3] at P'
            exact fun m3 a3 H3 e3 R3 E3 => ⟨_, rfl, hlt, m3, r3, s3, R3, E3, ee.trans e3, by rw [hn2]; exact P'⟩
          | rt d s3 => rw [q3] at P'; exact PostS.rebase ee P'
          | ex x r3 s3 => rw [q3] at P'; exact PostS.rebase ee P'
          | no => rw [q3] at P'; exact P'
    · have hin : i = it.n := by omega
      subst hin
      rw [Nat.sub_self] at P'
      unfold forGo at P'
      cases q1 : it.fin s' with
      | false => rw [q1] at P'; exact P'.elim
      | true =>
        rw [q1] at P'
        exact .inl ⟨hJ.stop m' s' Hc e' R' q1, P' m' a' Hc e' R' E'⟩
theorem ms_while {c : Expr} {body : List Stmt} {tc : Env → M Bool} {fb : Env → Sto → SRes} {L : Nat} (hp : PassesOwn (model X.prog X.w) X.A X.env X.xe) (hc : PT X c (tB G g tc)) (hb : PSs X body (tS G g fb)) :
    PS X (.While c body [] pos) (tS G g fun r s => whGo tc fb L r s) := impPS (ps_while hp hc hb) fun D a H h => by
  obtain ⟨m, r, s, R, E, P⟩ := h
  refine ⟨fun n a' Hc => ∃ m' r' s', Rel G m' s' Hc ∧ RE g.chi m' s'.length Hc a' r' ∧ Ext m s H m' s' Hc ∧ PostS G g m s H (whGo tc fb n r' s') D, ⟨L, m, r, s, R, E, Ext.refl, P⟩, ?_⟩
  rintro n a' Hc ⟨m', r', s', R', E', e', P'⟩
  cases n with
  | zero => exact P'.elim
  | succ n =>
    refine ⟨m', r', s', R', E', ?_⟩
    unfold whGo at P'
    cases q : tc r' s' with
    | no => rw [q] at P'; exact P'.elim
    | exc x s1 =>
      rw [q] at P'
      exact fun m1 H1 e1 R1 cls dd hx => P' m1 a' H1 cls dd (e'.trans e1) R1 (E'.mono (e1.stay R')) hx
    | ok b s1 =>
      rw [q] at P'
      intro m1 H1 e1 R1 v hv
      subst hv
      have ee := e'.trans e1
      cases v with
      | false => exact iteF (P' m1 a' H1 ee R1 (E'.mono (e1.stay R')))
      | true =>
        refine iteT ⟨fun a'' H' => ∃ m' r' s', Rel G m' s' H' ∧ RE g.chi m' s'.length H' a'' r' ∧ Ext m s H m' s' H' ∧ PostS G g m s H (whGo tc fb n r' s') D, fun a'' H' h => ⟨n, Nat.lt_succ_self n, h⟩, m1, r', s1, R1, E'.mono (e1.stay R'), ?_⟩
        dsimp only at P'
        cases q3 : fb r' s1 with
        | nx r3 s3 =>
          rw [q3] at P'
          exact fun m3 a3 H3 e3 R3 E3 => ⟨m3, r3, s3, R3, E3, ee.trans e3, P'⟩
        | rt d s3 => rw [q3] at P'; exact PostS.rebase ee P'
        | ex x r3 s3 => rw [q3] at P'; exact PostS.rebase ee P'
        | no => rw [q3] at P'; exact P'
end
end EW

set_option Elab.async false
set_option linter.all false
set_option maxRecDepth 100000
/-! M layer 13: exceptions. -/
namespace EW
open PySem PySem.Spec PyProof.Rows L2

/-- what is written of the exception classes -/
structure EOk (G : Gb) : Prop where
  can : ∀ c, G.Q.xr c = true → PySem.W.excIn G.K (G.xA c) He.veBase "ValueError.__new__" = true ∧ PySem.W.keepIn G.K (.ref (G.xA c)) = true ∧ PySem.W.subIn G.K (.ref (G.xA c)) (.type "BaseException") = some true ∧ PySem.W.typeIn G.K (.ref (G.xA c)) = some (.type "type")
  sub : ∀ x c b, G.Q.sub x c = some b → PySem.W.exmOne G.K (.ref (G.xA x)) (.ref (G.xA c)) = some b ∧ PySem.W.kitOne G.K (.ref (G.xA x)) (.ref (G.xA c)) = some b ∧ ExcC G.K (G.xA x)
section
variable {G : Gb} {g : Pm} {X : Cx}
theorem ms_raise {c j : Nat} {x msg : Str} {p p2 pos2 pos : Pos} (o : XOk G g X) (eo : EOk G) (hc : X.calm = true) (hg : Gl X x) (hm : X.mg x = some (.ref (G.xA c))) (hdb : (x == ("__debug__" : Str)) = false) (hx : G.Q.xr c = true) :
    PS X (.Raise (some (.Call (.Name x p) [.Constant (.str msg) j p2] [] pos2)) none pos) (tS G g fun r s => if G.Q.xr c = true then .ex ⟨c, []⟩ r s else .no) := by
  obtain ⟨h1, h2, h3, h4⟩ := eo.can c hx
  refine impPS (ps_raise hc o.tk (pmk_own PySem.F.excBase_ValueError (by rw [o.K]; exact h1) hm (by rw [o.K]; exact h2) (raises_own (by rw [o.K]; exact h3) (by rw [o.K]; exact h4)) hg hdb)) fun D a H h => ?_
  obtain ⟨m, r, s, R, E, P⟩ := h
  have P : PostS G g m s H (if G.Q.xr c = true then .ex ⟨c, []⟩ r s else .no) D := P
  rw [if_pos hx] at P
  exact P m a H _ _ Ext.refl R E ⟨rfl, rfl⟩
theorem slotX_cases (r : Env) (i : Nat) (s : Sto) : slotX r i s = .no ∨ ∃ x, r[i]? = some (.exc x) ∧ slotX r i s = .ok x s := by
  unfold slotX
  split
  · rename_i d q
    exact .inr ⟨d, q, rfl⟩
  · exact .inl rfl
/-- isinstance(e, C) of the exception that is held -/
theorem me_isx {i c : Nat} {x y z : Str} {p p2 p3 pos : Pos} (o : XOk G g X) (hg : Gl X x) (hm : X.mg x = none) (hv : bootBuiltins x = some (.builtin "isinstance"))
    (hN : X.N[i]? = some y) (hvy : Vis X.env.scope y) (hdy : (y == ("__debug__" : Str)) = false) (hcy : (y == ("__classdict__" : Str)) = false)
    (hgz : Gl X z) (hmz : X.mg z = some (.ref (G.xA c))) (hdz : (z == ("__debug__" : Str)) = false) (hn : x ≠ "__name__") (hdb : (x == ("__debug__" : Str)) = false) :
    PE X (.Call (.Name x p) [.Name y p2, .Name z p3] [] pos) (tE G g fun r => M.bind (slotX r i) fun x => isxD G.Q x c) := by
  refine ⟨fun pins s a H Q I h => ?_⟩
  obtain ⟨m, r, st, R, E, P⟩ := h
  have P1 := P.bindO
  rcases slotX_cases r i st with q | ⟨ex, q, q2⟩
  · rw [q] at P1; exact P1.elim
  · rw [q2] at P1
    have P2 := P1.ok R
    unfold isxD at P2
    obtain ⟨hf, P2⟩ := Post.ite P2
    split at P2
    · rename_i b hb
      obtain ⟨v, h1, h2⟩ := E.exc i ex q
      exact (pe_callB (o.isx v ex c b h2 hf hb) hg hm hv (pa_cons (pe_var hN hvy hdy hcy) (pa_cons (pe_glob hgz hmz (v := .ref (G.xA c)) rfl hdz) pa_nil rfl) rfl) hn hdb rfl rfl).run pins s a H Q I ⟨_, h1, rfl, P2.ok R _ rfl⟩
    · exact P2.elim

/-- what an except suite knows: the exception at a -/
def chiS (G : Gb) (a : Addr) (cls : Value) (d : Option Addr) : Addr → Exn → Prop := fun p x => p = a ∧ cls = .ref (G.xA x.c) ∧ (x.fs = [] → d = none)
def Pm.suite (G : Gb) (a : Addr) (cls : Value) (d : Option Addr) : Pm := ⟨fun _ _ _ _ => False, chiS G a cls d⟩
theorem clrX_get (r : Env) (j : Nat) : (∀ d, (clrX r)[j]? = some (.val d) ↔ r[j]? = some (.val d)) ∧ ∀ x, (clrX r)[j]? ≠ some (.exc x) := by
  unfold clrX
  rw [List.getElem?_map]
  cases r[j]? with
  | none => exact ⟨fun d => ⟨fun h => (by cases h), fun h => (by cases h)⟩, fun x h => (by cases h)⟩
  | some z =>
    cases z with
    | non => exact ⟨fun d => ⟨fun h => (by cases h), fun h => (by cases h)⟩, fun x h => (by cases h)⟩
    | val e => exact ⟨fun d => ⟨fun h => h, fun h => h⟩, fun x h => (by cases h)⟩
    | exc e => exact ⟨fun d => ⟨fun h => (by cases h), fun h => (by cases h)⟩, fun x h => (by cases h)⟩
theorem RE.exc' {chi chi' : Addr → Exn → Prop} {m : Mp} {n : Nat} {H : Hp} {a : AS} {r : Env} {p : Addr} {x : Exn} (E : RE chi m n H a r) (hno : ∀ p x, ¬ chi p x) (hx : chi' p x) (i : Nat) : RE chi' m n H (a.set i (some (.ref p))) (r.set i (.exc x)) := by
  have hl := E.len
  refine ⟨by simp [hl], fun j e q => ?_, fun j y q => ?_⟩
  · by_cases hj : i = j
    · subst hj
      have hi : i < r.length := by
        have := (List.getElem?_eq_some_iff.mp q).1
        simpa using this
      rw [List.getElem?_set_self hi] at q
      cases q
    · rw [List.getElem?_set_ne hj] at q ⊢
      exact E.val j e q
  · by_cases hj : i = j
    · subst hj
      have hi : i < r.length := by
        have := (List.getElem?_eq_some_iff.mp q).1
        simpa using this
      rw [List.getElem?_set_self hi] at q
      cases q
      exact ⟨p, by rw [List.getElem?_set_self (by omega)], hx⟩
    · rw [List.getElem?_set_ne hj] at q ⊢
      obtain ⟨p', _, h2⟩ := E.exc j y q
      exact absurd h2 (hno p' y)
theorem RE.gone {chi chi' : Addr → Exn → Prop} {m : Mp} {n : Nat} {H : Hp} {a : AS} {r : Env} (E : RE chi m n H a r) (i : Nat) : RE chi' m n H (a.set i none) ((clrX r).set i .non) := by
  have hl := E.len
  refine ⟨by simp [clrX, hl], fun j e q => ?_, fun j y q => ?_⟩
  · by_cases hj : i = j
    · subst hj
      have hi : i < (clrX r).length := by
        have := (List.getElem?_eq_some_iff.mp q).1
        simpa using this
      rw [List.getElem?_set_self hi] at q
      cases q
    · rw [List.getElem?_set_ne hj] at q ⊢
      exact E.val j e (((clrX_get r j).1 e).mp q)
  · by_cases hj : i = j
    · subst hj
      have hi : i < (clrX r).length := by
        have := (List.getElem?_eq_some_iff.mp q).1
        simpa using this
      rw [List.getElem?_set_self hi] at q
      cases q
    · rw [List.getElem?_set_ne hj] at q
      exact absurd q ((clrX_get r j).2 y)
theorem RE.same {chi chi' : Addr → Exn → Prop} {m : Mp} {n : Nat} {H : Hp} {a : AS} {r : Env} (E : RE chi m n H a r) (h : ∀ p x, chi p x → chi' p x) : RE chi' m n H a r :=
  ⟨E.len, E.val, fun i x q => let ⟨p, h1, h2⟩ := E.exc i x q; ⟨p, h1, h p x h2⟩⟩
theorem RE.clr {chi chi' : Addr → Exn → Prop} {m : Mp} {n : Nat} {H : Hp} {a : AS} {r : Env} (E : RE chi m n H a r) : RE chi' m n H a (clrX r) := by
  refine ⟨by simp [clrX, E.len], fun j e q => E.val j e (((clrX_get r j).1 e).mp q), fun j y q => absurd q ((clrX_get r j).2 y)⟩

/-- the meaning of a try -/
def tryM (P : Prg) (c : Nat) (nm : Option Nat) (fb fh : Env → Sto → SRes) : Env → Sto → SRes := fun r s => match fb r s with
  | .ex x r1 s1 => match P.sub x.c c with
    | some true => (match fh (setN r1 nm (.exc x)) s1 with
      | .nx r2 s2 => .nx (setN (clrX r2) nm .non) s2
      | .rt d s2 => .rt d s2
      | _ => .no)
    | some false => .ex x r1 s1
    | none => .no
  | q => q
theorem ms_try_as {i c : Nat} {x n : Str} {np pos pos' : Pos} {body suite : List Stmt} {b0 : Stmt} {fb fh : Env → Sto → SRes} (o : XOk G g X) (eo : EOk G) (hno : ∀ p x, ¬ g.chi p x) (hs : X.stack = X.env :: X.outer) (hf : X.env.frame = some X.env.locals) (hN : X.N.Nodup) (hi : X.N[i]? = some n) (hln : X.env.kindOf n = some .local)
    (hgx : Gl X x) (hdx : (x == ("__debug__" : Str)) = false) (hmx : X.mg x = some (.ref (G.xA c)))
    (hb : ∀ (W : WX) (pn : List (Addr × Obj)) (xe : Value → Shared → Prop), Takes (X.tr pn xe) W → PassesOwn (model X.prog X.w) X.A X.env xe → PSs (X.tr pn xe) body (tS G ⟨W, g.chi⟩ fb))
    (hsu : ∀ (a : Addr) (oe : Obj) (cls : Value) (d : Option Addr) (pn : List (Addr × Obj)), Zc cls d oe → (∃ vs, oe.data = .fields vs) → PSs (X.suite a ((a, oe) :: pn)) (b0 :: suite) (tS G (Pm.suite G a cls d) fh)) :
    PS X (.Try body [.ExceptHandler (some (.Name x np)) (some n) (b0 :: suite) pos'] [] [] pos) (tS G g (tryM G.Q c (some i) fb fh)) := impPS (ps_try_as (tb := fun W => tS G ⟨W, g.chi⟩ fb) (ts := fun a cls d => tS G (Pm.suite G a cls d) fh) hs hf hN hi hln (c := .ref (G.xA c)) ⟨hgx, hdx, .inl hmx⟩ o.tk hb hsu) fun D a H h => by
  obtain ⟨m, r, s, R, E, P⟩ := h
  refine ⟨m, r, s, R, E, ?_⟩
  unfold tryM at P
  cases q : fb r s with
  | nx r1 s1 => rw [q] at P; exact P
  | rt d s1 => rw [q] at P; exact P
  | no => rw [q] at P; exact P
  | ex x r1 s1 =>
    rw [q] at P
    dsimp only at P
    intro m1 a1 H1 cls dd e1 R1 E1 hx
    obtain ⟨rfl, hx2⟩ := id hx
    cases q2 : G.Q.sub x.c c with
    | none => rw [q2] at P; exact P.elim
    | some b =>
      rw [q2] at P
      refine ⟨b, by rw [o.K]; exact (eo.sub _ _ _ q2).1, fun hb2 p hp => ?_, fun hb2 => ?_⟩
      · subst hb2
        dsimp only at P
        have hc1 : chiS G p (.ref (G.xA x.c)) dd p x := ⟨rfl, rfl, fun hfs => by rw [hfs] at hx2; exact hx2⟩
        refine ⟨m1, r1.set i (.exc x), s1, R1, E1.exc' hno hc1 i, ?_⟩
        · have P : PostS G g m s H (match fh (r1.set i (.exc x)) s1 with
            | .nx r2 s2 => .nx ((clrX r2).set i .non) s2
            | .rt d s2 => .rt d s2
            | _ => .no) D := P
          cases q3 : fh (r1.set i (.exc x)) s1 with
          | nx r2 s2 =>
            rw [q3] at P
            exact fun m2 a2 H2 e2 R2 E2 => P m2 _ H2 (e1.trans e2) R2 (E2.gone i)
          | rt d s2 =>
            rw [q3] at P
            exact fun m2 H2 v e2 R2 hv => P m2 H2 v (e1.trans e2) R2 hv
          | ex y r2 s2 => rw [q3] at P; exact P.elim
          | no => rw [q3] at P; exact P.elim
      · subst hb2
        dsimp only at P
        exact P m1 a1 H1 _ dd e1 R1 E1 hx
theorem ms_try_only {c : Nat} {x : Str} {np pos pos' : Pos} {body suite : List Stmt} {b0 : Stmt} {fb fh : Env → Sto → SRes} (o : XOk G g X) (eo : EOk G) (hno : ∀ p x, ¬ g.chi p x) (hs : X.stack = X.env :: X.outer) (hf : X.env.frame = some X.env.locals)
    (hgx : Gl X x) (hdx : (x == ("__debug__" : Str)) = false) (hmx : X.mg x = some (.ref (G.xA c)))
    (hb : ∀ (W : WX) (pn : List (Addr × Obj)) (xe : Value → Shared → Prop), Takes (X.tr pn xe) W → PassesOwn (model X.prog X.w) X.A X.env xe → PSs (X.tr pn xe) body (tS G ⟨W, g.chi⟩ fb))
    (hsu : ∀ (a : Addr) (oe : Obj) (cls : Value) (d : Option Addr) (pn : List (Addr × Obj)), Zc cls d oe → (∃ vs, oe.data = .fields vs) → PSs (X.suite a ((a, oe) :: pn)) (b0 :: suite) (tS G (Pm.suite G a cls d) fh)) :
    PS X (.Try body [.ExceptHandler (some (.Name x np)) none (b0 :: suite) pos'] [] [] pos) (tS G g (tryM G.Q c none fb fh)) := impPS (ps_try_only (tb := fun W => tS G ⟨W, g.chi⟩ fb) (ts := fun a cls d => tS G (Pm.suite G a cls d) fh) hs hf (c := .ref (G.xA c)) ⟨hgx, hdx, .inl hmx⟩ o.tk hb hsu) fun D a H h => by
  obtain ⟨m, r, s, R, E, P⟩ := h
  refine ⟨m, r, s, R, E, ?_⟩
  unfold tryM at P
  cases q : fb r s with
  | nx r1 s1 => rw [q] at P; exact P
  | rt d s1 => rw [q] at P; exact P
  | no => rw [q] at P; exact P
  | ex x r1 s1 =>
    rw [q] at P
    dsimp only at P
    intro m1 a1 H1 cls dd e1 R1 E1 hx
    obtain ⟨rfl, hx2⟩ := id hx
    cases q2 : G.Q.sub x.c c with
    | none => rw [q2] at P; exact P.elim
    | some b =>
      rw [q2] at P
      refine ⟨b, by rw [o.K]; exact (eo.sub _ _ _ q2).1, fun hb2 p hp => ?_, fun hb2 => ?_⟩
      · subst hb2
        dsimp only at P
        refine ⟨m1, r1, s1, R1, E1.same fun p x h => absurd h (hno p x), ?_⟩
        have P : PostS G g m s H (match fh r1 s1 with
            | .nx r2 s2 => .nx (clrX r2) s2
            | .rt d s2 => .rt d s2
            | _ => .no) D := P
        cases q3 : fh r1 s1 with
        | nx r2 s2 =>
          rw [q3] at P
          exact fun m2 a2 H2 e2 R2 E2 => P m2 _ H2 (e1.trans e2) R2 E2.clr
        | rt d s2 =>
          rw [q3] at P
          exact fun m2 H2 v e2 R2 hv => P m2 H2 v (e1.trans e2) R2 hv
        | ex y r2 s2 => rw [q3] at P; exact P.elim
        | no => rw [q3] at P; exact P.elim
      · subst hb2
        dsimp only at P
        exact P m1 a1 H1 _ dd e1 R1 E1 hx
/-- the suite's context is one of ours -/
theorem XOk.suite (o : XOk G g X) (eo : EOk G) {a : Addr} {oe : Obj} {cls : Value} {d : Option Addr} {pn : List (Addr × Obj)} (hz : Zc cls d oe) (hf : ∃ vs, oe.data = .fields vs) : XOk G (Pm.suite G a cls d) (X.suite a ((a, oe) :: pn)) :=
  ⟨o.P, o.w, o.K, o.mg, takes0, fun p x c b h hfs hb => by
    obtain ⟨rfl, h2, h3⟩ := h
    have hd := h3 hfs
    subst h2 hd
    obtain ⟨_, k1, k2⟩ := eo.sub _ _ _ hb
    refine impC (call_isE (pn := pn) (by rw [o.K]; exact k2) hz hf) fun xs H Q ⟨e, q⟩ => ?_
    subst e
    exact ⟨.ref (G.xA c), .ref (G.xA c), b, rfl, fun u r => r, by rw [o.K]; exact k1, q⟩⟩
theorem XOk.try_ (o : XOk G g X) {W : WX} {pn : List (Addr × Obj)} {xe : Value → Shared → Prop} (hno : ∀ p x, ¬ g.chi p x) (tk : Takes (X.tr pn xe) W) : XOk G ⟨W, g.chi⟩ (X.tr pn xe) :=
  ⟨o.P, o.w, o.K, o.mg, tk, fun p x c b h => absurd h (hno p x)⟩
theorem XOk.blk (o : XOk G g X) {s : Shared} {H : Hp} {scope : Scope} {cenv : PySem.Env} {fp : List Addr} (hno : ∀ p x, ¬ g.chi p x) : XOk G g.in_ (X.blk s H scope cenv fp) :=
  ⟨o.P, o.w, o.K, o.mg, takes0, fun p x c b h => absurd h (hno p x)⟩
end
end EW

set_option Elab.async false
set_option linter.all false
set_option maxRecDepth 100000
/-! M layer 14: the check of a small expression against the written one. -/
namespace EW
open PySem PySem.Spec PyProof.Rows L2

/-! ### small facts of the text -/
def nst : Expr → Bool
  | .Starred _ _ => false
  | _ => true
def notSup : Expr → Bool
  | .Call (.Name _ _) [] [] _ => false
  | _ => true
def notLc : Expr → Bool
  | .ListComp .. => false
  | .SetComp .. => false
  | .DictComp .. => false
  | _ => true
def notTup : Expr → Bool
  | .Tuple .. => false
  | .List .. => false
  | _ => true
def notSet : Expr → Bool
  | .Set .. => false
  | _ => true
def notSlice : Expr → Bool
  | .Slice .. => false
  | _ => true
def plainT : Expr → Bool
  | .UnaryOp .Not _ _ => false
  | .BoolOp .. => false
  | .IfExp .. => false
  | .Compare .. => false
  | _ => true
section
variable {env : PySem.Env}
theorem star_cons {e : Expr} {es : List Expr} (h : nst e = true) : starEach (e :: es) env = (false, eval e env) :: starEach es env := by
  cases e <;> first | rfl | cases h
theorem star_all : ∀ {es : List Expr}, es.all nst = true → starEach es env = es.map fun e => (false, eval e env)
  | [], _ => rfl
  | e :: es, h => by
    obtain ⟨h1, h2⟩ := Bool.and_eq_true_iff.mp (show (nst e && es.all nst) = true from h)
    rw [star_cons h1, star_all h2]
    rfl
theorem back_any {pos : Pos} {es : List Expr} (h : es.all nst = true) : (backTo pos (starEach es env)).any (·.1) = false := by
  rw [star_all h]
  unfold backTo
  rw [List.any_eq_false]
  intro p hp
  obtain ⟨q, hq, rfl⟩ := List.mem_map.mp hp
  obtain ⟨e, he, rfl⟩ := List.mem_map.mp hq
  simp
theorem back_all {pos : Pos} {es : List Expr} (h : es.all nst = true) : (backTo pos (starEach es env)).all (fun x => !x.1) = true := by
  rw [star_all h]
  unfold backTo
  rw [List.all_eq_true]
  intro p hp
  obtain ⟨q, hq, rfl⟩ := List.mem_map.mp hp
  obtain ⟨e, he, rfl⟩ := List.mem_map.mp hq
  simp
theorem abase {e : Expr} {f : Str} {w : Sem Value} (h : notSup e = true) : attributeBase e f env w = w := by
  unfold attributeBase
  split
  · cases h
  · rfl
theorem sw_no {e : Expr} {t : Option Expr} {l : Nat} (h : notLc e = true) : swapsWith e t l env = pure false := by
  cases e <;> first | rfl | cases h
theorem ss_no1 {t e : Expr} (h : notTup t = true) : swappedStores [t] e env = pure none := by
  cases t <;> first | (cases h; done) | (cases e <;> rfl)
theorem ss_no2 {t e : Expr} (h : notTup e = true) : swappedStores [t] e env = pure none := by
  cases e <;> first | (cases h; done) | (cases t <;> rfl)
theorem fold_no {e : Expr} (h : notSet e = true) (x : Value) : foldedSetIterable e env x = pure x := by
  cases e <;> first | rfl | cases h
theorem true_plain {e : Expr} (h : plainT e = true) (whole : Sem Value) : isTrue e env whole = (do let v ← whole; standAt e.pos; holding [v] (truthy v)) := by
  cases e
  case UnaryOp op x p => cases op <;> first | rfl | cases h
  all_goals first | rfl | cases h
theorem plainIx {e : Expr} (h : notSlice e = true) : PlainIx e := fun o i => by
  cases e <;> first | rfl | cases h
/-- the same of an assignment by a comprehension -/
def swB (sc : Scope) : Expr → Expr → Bool
  | .ListComp _ _ s pos, .Name t p => decide (sc.names.lookup t = some .local) && (p.line == pos.line) && !(s.names.any fun (n, k) => n == t && (k == .local || k == .cell))
  | _, _ => false
def lcOnly : Expr → Bool
  | .SetComp .. => false
  | .DictComp .. => false
  | _ => true
theorem sw_val {e t : Expr} {l : Nat} (hk : env.scope.kind = .function) (h : lcOnly e = true) : swapsWith e (some t) l env = pure (swB env.scope e t) := by
  cases e
  case ListComp elt gs s pos =>
    cases t
    case Name t p =>
      have hb : env.blockKind = .function := by unfold Env.blockKind; rw [hk]; rfl
      have hf : (env.blockKind == .function && env.kindOf t == some .local && p.line == pos.line && !(s.names.any fun (n, k) => n == t && (k == .local || k == .cell))) = swB env.scope (.ListComp elt gs s pos) (.Name t p) := by
        have e2 : (env.kindOf t == some NameKind.local) = decide (env.scope.names.lookup t = some .local) := by
          by_cases q : env.scope.names.lookup t = some .local
          · have : env.kindOf t = some .local := q
            rw [this, decide_eq_true q]; rfl
          · have : ¬ env.kindOf t = some .local := q
            rw [decide_eq_false q]
            exact beq_false_of_ne this
        unfold swB
        rw [hb, e2]
        rfl
      rw [← hf]
      rfl
    all_goals rfl
  all_goals first | rfl | cases h
end
/-- a name that is not one of the two odd ones -/
def nmB (x : Str) : Bool := !(x == ("__debug__" : Str)) && !(x == ("__classdict__" : Str)) && decide (x ≠ "__name__")
def visB (sc : Scope) (x : Str) : Bool := match sc.names.lookup x with
  | some .local => true
  | some .cell => true
  | some .free => true
  | _ => false
def glB (sc : Scope) (x : Str) : Bool := match sc.names.lookup x with
  | some .globalImplicit => true
  | _ => false
theorem nmB_ok {x : Str} (h : nmB x = true) : (x == ("__debug__" : Str)) = false ∧ (x == ("__classdict__" : Str)) = false ∧ x ≠ "__name__" := by
  unfold nmB at h
  simp only [Bool.and_eq_true, Bool.not_eq_true', decide_eq_true_eq] at h
  exact ⟨h.1.1, h.1.2, h.2⟩
theorem visB_ok {sc : Scope} {x : Str} (h : visB sc x = true) : Vis sc x := by
  unfold visB at h
  split at h <;> first | exact .inl (by assumption) | exact .inr (.inl (by assumption)) | exact .inr (.inr (by assumption)) | cases h
theorem glB_ok {sc : Scope} {x : Str} (h : glB sc x = true) : sc.names.lookup x = some .globalImplicit := by
  unfold glB at h
  split at h <;> first | assumption | cases h

/-! ### tables, contexts -/
structure Tab where
  fn : List (Str × Nat)
  cl : List (Str × Nat)
  ex : List (Str × Nat)
  con : List (Str × Nat)
  free : List Str
  fN : Nat → Str
  mN : Nat → Str
structure TabOk (G : Gb) (fi : Nat → FI) (T : Tab) : Prop where
  fn : ∀ p ∈ T.fn, G.mg p.1 = some (.ref (fi p.2).ad) ∧ PySem.W.keepIn G.K (.ref (fi p.2).ad) = true
  cl : ∀ p ∈ T.cl, G.mg p.1 = some (.ref (G.cA p.2))
  ex : ∀ p ∈ T.ex, G.mg p.1 = some (.ref (G.xA p.2))
  con : ∀ p ∈ T.con, ∃ u v, G.mg p.1 = some u ∧ RelV v u ∧ ∀ m n H, RV m n H v (G.Q.con p.2)
  free : ∀ x ∈ T.free, G.mg x = none
  fN : T.fN = G.fN
structure KC where
  sc : Scope
  N : List Str
  calm : Bool
  hx : Bool
  blk : Bool
structure KOk (G : Gb) (k : Nat) (base : Heap) (c : KC) (g : Pm) (X : Cx) : Prop where
  x : XOk G g X
  sc : X.env.scope = c.sc
  kf : X.env.scope.kind = .function
  N : X.N = c.N
  nd : X.N.Nodup
  calm : c.calm = true → X.calm = true
  room : c.calm = true → Room (k + 1) X.A
  un : X.A.units + 64 < cLine
  base : X.base = base
  chi : c.hx = false → ∀ p x, ¬ g.chi p x
  fnl : c.blk = false → ∀ x, X.fn x = true
/-- what all the program's texts know -/
structure GOk (G : Gb) (fi : Nat → FI) (TT : Tab) (C : Cal) (k : Nat) (base : Heap) : Prop where
  T : TabOk G fi TT
  F : FOk G
  D : DOk G fi TT.mN
  E : EOk G
  C : CalOk G fi C k base

/-! ### operators -/
def boB : BO → Operator → Bool
  | .add, .Add => true
  | .sub, .Sub => true
  | .mul, .Mult => true
  | .fdiv, .FloorDiv => true
  | .mod, .Mod => true
  | .pow, .Pow => true
  | .and, .BitAnd => true
  | .or, .BitOr => true
  | .xor, .BitXor => true
  | .shl, .LShift => true
  | .shr, .RShift => true
  | _, _ => false
theorem boB_ok {G : Gb} {X : Cx} {op : BO} {o : Operator} (h : boB op o = true) : OpR X (binaryOp o) (r2 G (bin op)) := by
  cases op <;> cases o <;> first | (cases h; done) | exact ob_add | exact ob_sub | exact ob_mul | exact ob_fdiv | exact ob_mod | exact ob_pow | exact ob_and | exact ob_or | exact ob_xor | exact ob_shl | exact ob_shr
def coB : CO → CmpOp → Bool
  | .eq, .Eq => true
  | .ne, .NotEq => true
  | .lt, .Lt => true
  | .le, .LtE => true
  | .gt, .Gt => true
  | .ge, .GtE => true
  | .is, .Is => true
  | .isnot, .IsNot => true
  | _, _ => false
theorem coB_ok {G : Gb} {X : Cx} {op : CO} {o : CmpOp} (hK : X.K = G.K) (hu : X.A.units + 64 < cLine) (h : coB op o = true) : OpR X (compareOp o) (r2 G (cmp op)) := by
  cases op <;> cases o <;> first | (cases h; done) | exact cmp_eq hK hu | exact cmp_ne hK hu | exact cmp_is | exact cmp_isnot | exact cmp_lt | exact cmp_le | exact cmp_gt | exact cmp_ge
theorem coB_mark {op : CO} {o : CmpOp} (h : coB op o = true) (b : Expr) : behindInMarks o b = false := by
  cases op <;> cases o <;> first | (cases h; done) | exact nomark b
theorem cmp_bl {op : CO} {o : CmpOp} (h : coB op o = true) (x y : D) (s : Sto) (d : D) (s' : Sto) (e : cmp op x y s = .ok d s') : ∃ k, d = .bl k := by
  cases op <;> first | (cases o <;> cases h; done) | skip
  all_goals
    unfold cmp at e
    dsimp only at e
    repeat' split at e
    all_goals first | exact ⟨_, (Res.ok.inj e).1.symm⟩ | cases e

/-! ### built-ins -/
def biN : BI → Str
  | .len => "len" | .abs => "abs" | .int => "int" | .min2 => "min" | .max2 => "max" | .all => "all" | .any => "any" | .lst => "list" | .tup => "tuple"
  | _ => ""
def biV : BI → Value
  | .len => .builtin "len" | .abs => .builtin "abs" | .int => .type "int" | .min2 => .builtin "min" | .max2 => .builtin "max" | .all => .builtin "all" | .any => .builtin "any" | .lst => .type "list" | .tup => .type "tuple"
  | _ => .none
def biK : BI → Bool
  | .len | .abs | .int | .min2 | .max2 | .all | .any | .lst | .tup => true
  | _ => false
/-- what needs no calm -/
def biH : BI → Bool
  | .len | .abs | .int | .lst | .tup => true
  | _ => false
theorem biV_boot (b : BI) (h : biK b = true) : bootBuiltins (biN b) = some (biV b) := by
  cases b <;> first | (cases h; done) | decide +kernel
theorem me_bi {G : Gb} {g : Pm} {X : Cx} {b : BI} {p pos : Pos} {e : Expr} {es : List Expr} {f : Env → M (List D)} (hK : X.K = G.K) (hc0 : biH b = true ∨ X.calm = true) (h : biK b = true) (hg : Gl X (biN b)) (hm : X.mg (biN b) = none) (hn : nmB (biN b) = true) (ha : PA X (e :: es) (tL G g f)) (he : (e :: es).all nst = true) :
    PE X (.Call (.Name (biN b) p) (e :: es) [] pos) (tE G g fun r => M.bind (f r) (bis b)) := by
  obtain ⟨n1, n2, n3⟩ := nmB_ok hn
  obtain ⟨h1, h2⟩ := Bool.and_eq_true_iff.mp (show (nst e && es.all nst) = true from he)
  have hv := biV_boot b h
  have hc : biH b = false → X.calm = true := fun z => by
    rcases hc0 with q | q
    · rw [z] at q; cases q
    · exact q
  cases b <;> first | (cases h; done) | skip
  · exact me_callB (bi_len hK) hg hm hv ha n3 n1 (star_cons h1) (back_any h2)
  · exact me_callB bi_abs hg hm hv ha n3 n1 (star_cons h1) (back_any h2)
  · exact me_callTy bi_int hg hm hv ha n3 n1 (star_cons h1) (back_any h2)
  · exact me_callB (bi_min2 (hc rfl)) hg hm hv ha n3 n1 (star_cons h1) (back_any h2)
  · exact me_callB (bi_max2 (hc rfl)) hg hm hv ha n3 n1 (star_cons h1) (back_any h2)
  · exact me_callB (bi_all hK (hc rfl)) hg hm hv ha n3 n1 (star_cons h1) (back_any h2)
  · exact me_callB (bi_any hK (hc rfl)) hg hm hv ha n3 n1 (star_cons h1) (back_any h2)
  · exact me_callTy (bi_tup hK) hg hm hv ha n3 n1 (star_cons h1) (back_any h2)
  · exact me_callTy (bi_lst hK) hg hm hv ha n3 n1 (star_cons h1) (back_any h2)
example (C : Cal) (r : Env) : den C r .nope = M.stuck := rfl
example (C : Cal) (r : Env) (a : CE) : den C r (.neg a) = M.bind (den C r a) neg := rfl
end EW

set_option Elab.async false
set_option linter.all false
set_option maxRecDepth 100000
/-! M layer 15: the check of expressions. -/
namespace EW
open PySem PySem.Spec PyProof.Rows L2

/-! ### one node -/
def qVar (c : KC) (i : Nat) : Expr → Bool
  | .Name x _ => decide (c.N[i]? = some x) && visB c.sc x && nmB x
  | _ => false
def qCon (T : Tab) (c : KC) (g : Nat) : Expr → Bool
  | .Name x _ => glB c.sc x && decide ((x, g) ∈ T.con) && nmB x
  | _ => false
def qConst (k : Const) : Expr → Bool
  | .Constant k' _ _ => decide (k' = k)
  | _ => false
def qBin (op : BO) (fa fb : Expr → Bool) : Expr → Bool
  | .BinOp a o b _ => boB op o && fa a && fb b
  | _ => false
def qUn (u : UnaryOp) (fa : Expr → Bool) : Expr → Bool
  | .UnaryOp o a _ => decide (o = u) && fa a
  | _ => false
def qBool (u : BoolOp) (f : List Expr → Bool) : Expr → Bool
  | .BoolOp o vs _ => decide (o = u) && !vs.isEmpty && f vs
  | _ => false
def qCmp (op : CO) (fa fb : Expr → Bool) : Expr → Bool
  | .Compare a [o] [b] _ => coB op o && fa a && fb b
  | _ => false
def qChn (op op2 : CO) (fa fb fc : Expr → Bool) : Expr → Bool
  | .Compare a [o, o2] [b, c] _ => coB op o && coB op2 o2 && fa a && fb b && fc c
  | _ => false
def qIfe (ft fa fb : Expr → Bool) : Expr → Bool
  | .IfExp t a b _ => ft t && fa a && fb b
  | _ => false
def qFld (T : Tab) (f : Nat) (fo : Expr → Bool) : Expr → Bool
  | .Attribute o x _ => decide (T.fN f = x) && notSup o && fo o
  | _ => false
def qIx (fo fi : Expr → Bool) : Expr → Bool
  | .Subscript o i _ => notSlice i && fo o && fi i
  | _ => false
def qTup (n : Nat) (f : List Expr → Bool) : Expr → Bool
  | .Tuple es _ _ => decide (n ≤ 1000) && f es
  | _ => false
def qLst (n : Nat) (f : List Expr → Bool) : Expr → Bool
  | .List es _ => decide (n ≤ 1000) && f es
  | _ => false
/-- a call of a global name -/
def qCall (c : KC) (ok : Str → Bool) (f : List Expr → Bool) : Expr → Bool
  | .Call (.Name x _) es [] _ => glB c.sc x && nmB x && ok x && f es
  | _ => false
def qMeth (T : Tab) (m : Nat) (fo : Expr → Bool) (f : List Expr → Bool) : Expr → Bool
  | .Call (.Attribute o x a) es [] p => decide (T.mN m = x) && notSup o && (a.endLine == p.line) && decide (es.length < 30) && fo o && f es
  | _ => false
def bmN : BM → Str
  | .append => "append"
  | _ => ""
def bmB : BM → Bool
  | .append => true
  | _ => false
def qBm (b : BM) (fo : Expr → Bool) (f : List Expr → Bool) : Expr → Bool
  | .Call (.Attribute o x a) es [] p => decide (bmN b = x) && notSup o && (a.endLine == p.line) && decide (es.length < 30) && !es.isEmpty && fo o && f es
  | _ => false
def tyS : Ty → Str
  | .int => "int" | .bool => "bool" | .str => "str" | .tup => "tuple" | .lst => "list" | .dic => "dict" | .cls _ => ""
def qIsi (T : Tab) (c : KC) (fe : Expr → Bool) : List Ty → Expr → Bool
  | [t], .Call (.Name x _) [e, .Name z _] [] _ => decide (x = "isinstance") && glB c.sc x && decide (x ∈ T.free) && tyB t && decide (z = tyS t) && glB c.sc z && decide (z ∈ T.free) && nst e && fe e
  | _, _ => false
def qIsx (T : Tab) (c : KC) (i k : Nat) : Expr → Bool
  | .Call (.Name x _) [.Name y _, .Name z _] [] _ => decide (x = "isinstance") && glB c.sc x && decide (x ∈ T.free) && decide (c.N[i]? = some y) && visB c.sc y && nmB y && glB c.sc z && nmB z && decide ((z, k) ∈ T.ex)
  | _ => false
def tgN (c : KC) (i : Nat) : Expr → Bool
  | .Name x _ => decide (c.N[i]? = some x) && (decide (c.sc.names.lookup x = some .local) || (!c.blk && decide (c.sc.names.lookup x = some .cell)))
  | _ => false
def tgNs (c : KC) : List Nat → List Expr → Bool
  | [], [] => true
  | i :: is, e :: es => nst e && tgN c i e && tgNs c is es
  | _, _ => false
def tgTup (c : KC) (is : List Nat) : Expr → Bool
  | .Tuple es _ _ => c.calm && tgNs c is es
  | _ => false
def tgB (c : KC) : Tg → Expr → Bool
  | .nm i, e => tgN c i e
  | .tp is, e => tgTup c is e
  | .tp2 i js, .Tuple [a, b] _ _ => c.calm && nst a && nst b && tgN c i a && tgTup c js b
  | _, _ => false
/-- what a loop runs over -/
def itB (T : Tab) (c : KC) (k : IK) (f : List Expr → Bool) (e : Expr) : Bool := match k with
  | .plain => notSet e && f [e]
  | .range1 => (match e with
    | .Call (.Name x _) [a] [] _ => decide (x = "range") && glB c.sc x && decide (x ∈ T.free) && f [a]
    | _ => false)
  | .range2 => (match e with
    | .Call (.Name x _) [a, b] [] _ => decide (x = "range") && glB c.sc x && decide (x ∈ T.free) && f [a, b]
    | _ => false)
  | _ => false
def ownP (c : KC) (own : List Nat) : List (Str × Nat) := own.map fun i => (c.N.getD i "", i)
def KC.in_ (c : KC) (scope : Scope) : KC := { c with sc := relS scope c.sc, blk := true }
/-- [elt for tg in iter if ..] -/
def qLc (T : Tab) (c : KC) (own : List Nat) (tg : Tg) (k : IK) (nc : Nat) (fs : List Expr → Bool) (fc : KC → List Expr → Bool) (fe : KC → Expr → Bool) : Expr → Bool
  | .ListComp elt [⟨tgE, iter, ifs, z⟩] scope _ => decide (z = 0) && c.calm && !c.hx && blkC c.N c.sc scope (ownP c own) && decide (ifs.length ≤ 1) && tgB (c.in_ scope) tg tgE && (tg.slots.all fun i => decide (i ∈ own)) && itB T c k fs iter && fc (c.in_ scope) ifs && fe (c.in_ scope) elt
  | _ => false
/-! ### tests -/
def qNotT (f : Expr → Bool) : Expr → Bool
  | .UnaryOp .Not a _ => f a
  | _ => false
def qBoolT (f : List Expr → Bool) : Expr → Bool
  | .BoolOp _ vs _ => f vs
  | _ => false
mutual
def tOk : CE → Expr → Bool
  | .nt a => qNotT (tOk a)
  | .andl es => qBoolT (tOks es)
  | .orl es => qBoolT (tOks es)
  | .cmp _ _ _ => fun _ => true
  | .chn _ _ _ _ _ => fun _ => true
  | .var _ => plainT | .non => plainT | .bl _ => plainT | .int _ => plainT | .str _ => plainT | .con _ => plainT
  | .bin _ _ _ => plainT | .neg _ => plainT | .fld _ _ => plainT | .ix _ _ => plainT | .tup _ => plainT | .lst _ => plainT
  | .call _ _ => plainT | .meth _ _ _ => plainT | .bi _ _ => plainT | .bm _ _ _ => plainT | .isi _ _ => plainT | .isx _ _ => plainT
  | .lc _ _ _ _ _ _ => plainT
  | _ => fun _ => false
def tOks : CEs → List Expr → Bool
  | .nil => fun es => es.isEmpty
  | .cons a r => fun es => match es with
    | [] => false
    | e :: es => tOk a e && tOks r es
end
mutual
def cE (G : Prg) (T : Tab) : CE → KC → Expr → Bool
  | .var i => fun c => qVar c i
  | .non => fun _ => qConst .none
  | .bl b => fun _ => qConst (.bool b)
  | .int i => fun _ => qConst (.int i)
  | .str x => fun _ => qConst (.str (strOf x))
  | .con g => fun c => qCon T c g
  | .bin op a b => fun c => qBin op (cE G T a c) (cE G T b c)
  | .neg a => fun c => qUn .USub (cE G T a c)
  | .nt a => fun c => qUn .Not (cE G T a c)
  | .andl es => fun c => qBool .And (cEs G T es c)
  | .orl es => fun c => qBool .Or (cEs G T es c)
  | .cmp op a b => fun c => qCmp op (cE G T a c) (cE G T b c)
  | .chn op op2 a b d => fun c => qChn op op2 (cE G T a c) (cE G T b c) (cE G T d c)
  | .ife t a b => fun c => qIfe (fun e => cE G T t c e && tOk t e) (cE G T a c) (cE G T b c)
  | .fld o f => fun c => qFld T f (cE G T o c)
  | .ix o i => fun c => qIx (cE G T o c) (cE G T i c)
  | .tup es => fun c => qTup es.len (cEs G T es c)
  | .lst es => fun c => qLst es.len (cEs G T es c)
  | .lc own tg k src cond elt => fun c => qLc T c own tg k cond.len (cEs G T src c) (fun c' es => cEs G T cond c' es && tOks cond es) (fun c' e => cE G T elt c' e)
  | .call f es => fun c => qCall c (fun x => c.calm && decide ((x, f) ∈ T.fn) && G.can f es.len) (cEs G T es c)
  | .make k es => fun c => qCall c (fun x => c.calm && decide ((x, k) ∈ T.cl) && (match G.init k with
    | some f => G.can f (es.len + 1)
    | none => G.plain k && decide (es.len = 0))) (cEs G T es c)
  | .meth m o es => fun c e => c.calm && qMeth T m (cE G T o c) (cEs G T es c) e
  | .bi b es => fun c => qCall c (fun x => (biH b || c.calm) && biK b && decide (x = biN b) && decide (x ∈ T.free) && decide (0 < es.len)) (cEs G T es c)
  | .bm b o es => fun c e => bmB b && qBm b (cE G T o c) (cEs G T es c) e
  | .isi e ts => fun c => qIsi T c (cE G T e c) ts
  | .isx i k => fun c => qIsx T c i k
  | _ => fun _ _ => false
def cEs (G : Prg) (T : Tab) : CEs → KC → List Expr → Bool
  | .nil => fun _ es => es.isEmpty
  | .cons a r => fun c es => match es with
    | [] => false
    | e :: es => nst e && cE G T a c e && cEs G T r c es
end
theorem cEs_len {G : Prg} {T : Tab} : ∀ {es : CEs} {c : KC} {l : List Expr}, cEs G T es c l = true → l.length = es.len ∧ l.all nst = true
  | .nil, c, l, h => by
    have : l.isEmpty = true := h
    cases l with
    | nil => exact ⟨rfl, rfl⟩
    | cons a b => cases this
  | .cons a r, c, [], h => by cases h
  | .cons a r, c, e :: l, h => by
    have h : (nst e && cE G T a c e && cEs G T r c l) = true := h
    simp only [Bool.and_eq_true] at h
    obtain ⟨h1, h2⟩ := cEs_len h.2
    exact ⟨by show l.length + 1 = r.len + 1; rw [h1], by show (nst e && l.all nst) = true; rw [h.1.1, h2]; rfl⟩
theorem dens_len {C : Cal} {r : Env} : ∀ {es : CEs} {s s' : Sto} {ds : List D}, dens C r es s = .ok ds s' → ds.length = es.len
  | .nil, s, s', ds, h => by
    obtain ⟨e, _⟩ := M.pure_inv h
    subst e
    rfl
  | .cons a b, s, s', ds, h => by
    obtain ⟨x, s1, h1, h2⟩ := M.bind_inv h
    obtain ⟨y, s2, h3, h4⟩ := M.bind_inv h2
    obtain ⟨e, _⟩ := M.pure_inv h4
    subst e
    show y.length + 1 = b.len + 1
    rw [dens_len h3]
end EW

set_option Elab.async false
set_option linter.all false
set_option maxRecDepth 100000
/-! M layer 16: the check is sound: expressions. -/
namespace EW
open PySem PySem.Spec PyProof.Rows L2

section
variable {env : PySem.Env}
theorem asg_cons {e : Expr} {es : List Expr} (h : nst e = true) : assignEach (e :: es) env = (false, assign e env) :: assignEach es env := by
  cases e <;> first | rfl | cases h
end
theorem tgNs_nst {c : KC} : ∀ {is : List Nat} {es : List Expr}, tgNs c is es = true → es.all nst = true ∧ es.length = is.length
  | [], [], _ => ⟨rfl, rfl⟩
  | [], _ :: _, h => by cases h
  | _ :: _, [], h => by cases h
  | i :: is, e :: es, h => by
    have h : (nst e && tgN c i e && tgNs c is es) = true := h
    simp only [Bool.and_eq_true] at h
    obtain ⟨h1, h2⟩ := tgNs_nst h.2
    exact ⟨by show (nst e && es.all nst) = true; rw [h.1.1, h1]; rfl, by show es.length + 1 = is.length + 1; rw [h2]⟩
theorem asg_len {env : PySem.Env} : ∀ {es : List Expr}, es.all nst = true → (assignEach es env).length = es.length ∧ (assignEach es env).findIdx? (·.1) = none
  | [], _ => ⟨rfl, rfl⟩
  | e :: es, h => by
    obtain ⟨h1, h2⟩ := Bool.and_eq_true_iff.mp (show (nst e && es.all nst) = true from h)
    obtain ⟨h3, h4⟩ := asg_len (env := env) h2
    rw [asg_cons h1]
    refine ⟨by show (assignEach es env).length + 1 = es.length + 1; rw [h3], ?_⟩
    rw [List.findIdx?_cons, h4]
    rfl
section
variable {G : Gb} {k : Nat} {base : Heap} {c : KC} {g : Pm} {X : Cx}
theorem tgN_ok (o : KOk G k base c g X) {i : Nat} {e : Expr} (h : tgN c i e = true) : PG X e (gName i) := by
  cases e <;> first | (cases h; done) | skip
  rename_i x p
  have h : (decide (c.N[i]? = some x) && (decide (c.sc.names.lookup x = some .local) || (!c.blk && decide (c.sc.names.lookup x = some .cell)))) = true := h
  simp only [Bool.and_eq_true, Bool.or_eq_true, decide_eq_true_eq, Bool.not_eq_true'] at h
  obtain ⟨h1, h2⟩ := h
  have hN : X.N[i]? = some x := by rw [o.N]; exact h1
  rcases h2 with h2 | ⟨h2, h3⟩
  · exact pg_name o.nd hN (.inl (by rw [o.sc]; exact h2)) (.inr (by rw [o.sc]; exact h2))
  · exact pg_name o.nd hN (.inr (by rw [o.sc]; exact h3)) (.inl (o.fnl h2 x))
theorem tgNs_ok (o : KOk G k base c g X) : ∀ {is : List Nat} {es : List Expr}, tgNs c is es = true → PGs X es (gNames is)
  | [], [], _ => pgs_nil
  | [], _ :: _, h => by cases h
  | _ :: _, [], h => by cases h
  | i :: is, e :: es, h => by
    have h : (nst e && tgN c i e && tgNs c is es) = true := h
    simp only [Bool.and_eq_true] at h
    exact pgs_cons (tgN_ok o h.1.2) (tgNs_ok o h.2) (by rw [asg_cons h.1.1]; rfl)
theorem tgTup_ok (o : KOk G k base c g X) {is : List Nat} {e : Expr} (h : tgTup c is e = true) : PG X e (gTup G.K is.length (gNames is)) := by
  cases e <;> first | (cases h; done) | skip
  rename_i es kk p
  obtain ⟨h1, h2⟩ := Bool.and_eq_true_iff.mp (show (c.calm && tgNs c is es) = true from h)
  obtain ⟨h3, h4⟩ := tgNs_nst h2
  obtain ⟨h5, h6⟩ := asg_len (env := X.env) h3
  rw [← o.x.K]
  exact pg_tup (o.calm h1) (tgNs_ok o h2) (h5.trans h4) h6
theorem tgB_ok (o : KOk G k base c g X) {t : Tg} {e : Expr} (h : tgB c t e = true) : PG X e (gOf G.K t) := by
  cases t with
  | nm i => exact tgN_ok o (show tgN c i e = true by cases e <;> exact h)
  | tp is => exact tgTup_ok o (show tgTup c is e = true by cases e <;> exact h)
  | tp2 i js =>
    unfold tgB at h
    split at h
    · rename_i q1; cases q1
    · rename_i q1; cases q1
    · rename_i i' js' a b kk p q1
      cases q1
      simp only [Bool.and_eq_true] at h
      obtain ⟨⟨⟨⟨h1, h2⟩, h3⟩, h4⟩, h5⟩ := h
      show PG X (.Tuple [a, b] kk p) (gTup G.K 2 (gCons (gName i) (gCons (gTup G.K js.length (gNames js)) gNil)))
      have e1 : ([a, b] : List Expr).all nst = true := by simp [h2, h3]
      obtain ⟨h6, h7⟩ := asg_len (env := X.env) e1
      have e2 := pg_tup (k := kk) (pos := p) (o.calm h1) (pgs_cons (tgN_ok o h4) (pgs_cons (tgTup_ok o h5) pgs_nil (by rw [asg_cons h3]; rfl)) (by rw [asg_cons h2]; rfl)) h6 h7
      rw [o.x.K] at e2
      exact e2
    · cases h
theorem Gl_of (o : KOk G k base c g X) {x : Str} (h : glB c.sc x = true) : Gl X x := by
  show X.env.scope.names.lookup x = _
  rw [o.sc]
  exact glB_ok h
theorem KOk.in_ (o : KOk G k base c g X) (hx : c.hx = false) {scope : Scope} (hk : scope.kind = .function) {s : Shared} {H : Hp} {C : Addr} {cl : List (Str × Addr)} {fp : List Addr} : KOk G k base (c.in_ scope) g.in_ (X.blk s H scope (compEnvC scope cl C X.env) fp) where
  x := o.x.blk (o.chi hx)
  sc := by show relS scope X.env.scope = relS scope c.sc; rw [o.sc]
  kf := hk
  N := o.N
  nd := o.nd
  calm := o.calm
  room := o.room
  un := o.un
  base := o.base
  chi := o.chi
  fnl := fun h => by cases h
/-- a chain of two comparisons, tested -/
theorem mt_chn {op op' : CmpOp} {o o' : D → D → M D} {ea eb ec : Expr} {fa fb fc : Env → M D} {pos : Pos} (ho : OpR X (compareOp op) (r2 G o)) (ho' : OpR X (compareOp op') (r2 G o')) (ha : PE X ea (tE G g fa)) (hb : PE X eb (tE G g fb)) (hc : PE X ec (tE G g fc))
    (hm : lastMarks [op, op'] [eb, ec] = false) (hbl : ∀ x y s d s', o' x y s = .ok d s' → ∃ k, d = .bl k) :
    PT X (.Compare ea [op, op'] [eb, ec] pos) (tB G g fun r => M.bind (M.bind (fa r) fun x => M.bind (fb r) fun y => M.bind (o x y) fun k => match k with
      | .bl true => M.bind (fc r) fun z => o' y z
      | .bl false => M.pure (.bl false)
      | _ => M.stuck) tru) := impPT (pt_chain ho ho' ha hb hc hm) fun a H Q h => by
  obtain ⟨m, r, s, R, E, P⟩ := h
  refine ⟨m, r, s, R, E, P.bind.bind.imp fun d m1 s1 H1 e1 r1 P1 v hv => ?_⟩
  refine ⟨m1, r, s1, r1, E.mono (e1.stay R), P1.bind.imp fun d2 m2 s2 H2 e2 r2 P2 u hu => ?_⟩
  refine ⟨m2, s2, d, d2, wX G g.W a, r2, RV.mono (e2.stay r1) d v hv, hu, P2.bind.imp fun k m3 s3 H3 e3 r3 P3 z hz => ?_⟩
  obtain ⟨k, rfl⟩ : ∃ b, k = .bl b := by
    cases k <;> first | exact ⟨_, rfl⟩ | exact False.elim P3
  refine ⟨k, hz, ?_⟩
  cases k with
  | false =>
    refine iteF ⟨false, rfl, ?_⟩
    have P4 := P3.ok r3
    have P4 : Post G m3 s3 H3 (wX G g.W a) (EW.tru (.bl false) s3) _ := P4
    exact P4.ok r3 _ rfl
  | true =>
    refine iteT ⟨m3, r, s3, r3, ((E.mono (e1.stay R)).mono (e2.stay r1)).mono (e3.stay r2), P3.bind.imp fun d4 m4 s4 H4 e4 r4 P4 w hw => ?_⟩
    refine ⟨m4, s4, d2, d4, wX G g.W a, r4, RV.mono (e4.stay r3) d2 u (RV.mono (e3.stay r2) d2 u hu), hw, ?_⟩
    have hbl' := hbl d2 d4 s4
    cases q : o' d2 d4 s4 with
    | ok z s5 =>
      rw [q] at P4 hbl'
      obtain ⟨k, rfl⟩ := hbl' z s5 rfl
      intro m5 H5 e5 r5 w5 hw5
      have hw' : w5 = .bl k := hw5
      subst hw'
      refine ⟨k, rfl, ?_⟩
      have P5 := P4 m5 H5 e5 r5
      have P5 : Post G m5 s5 H5 (wX G g.W a) (EW.tru (.bl k) s5) _ := P5
      exact P5.ok r5 _ rfl
    | exc z s5 => rw [q] at P4; exact P4
    | no => rw [q] at P4; exact P4
/-- the single test -/
theorem mw_and1 {ea : Expr} {pos : Pos} {ta : Env → M Bool} (ha : PT X ea (tB G g ta)) : PW X (.BoolOp .And [ea] pos) (tB G g ta) := pw_and1 ha
theorem mw_or1 {ea : Expr} {pos : Pos} {ta : Env → M Bool} (ha : PT X ea (tB G g ta)) : PW X (.BoolOp .Or [ea] pos) (tB G g ta) := pw_or1 ha
theorem PT.congr {e : Expr} {f f' : Env → M Bool} (h : PT X e (tB G g f)) (q : ∀ r s, f' r s = f r s) : PT X e (tB G g f') := by
  have : f' = f := funext fun r => funext fun s => q r s
  rw [this]; exact h
theorem PW.congr {e : Expr} {f f' : Env → M Bool} (h : PW X e (tB G g f)) (q : ∀ r s, f' r s = f r s) : PW X e (tB G g f') := by
  have : f' = f := funext fun r => funext fun s => q r s
  rw [this]; exact h
theorem PE.congr {e : Expr} {f f' : Env → M D} (h : PE X e (tE G g f)) (q : ∀ r s, f' r s = f r s) : PE X e (tE G g f') := by
  have : f' = f := funext fun r => funext fun s => q r s
  rw [this]; exact h
theorem tru_det {d : D} {s s' : Sto} {b : Bool} (h : tru d s = .ok b s') : s' = s := by
  rcases tru_cases d s with e | ⟨b', e⟩
  · rw [e] at h; cases h
  · rw [e] at h; cases h; rfl
/-- and, tested: the value's truth -/
theorem and_tru (fa fb : M D) (s : Sto) : M.bind (M.bind fa fun x => M.bind (tru x) fun b => if b = true then fb else M.pure x) tru s = M.bind (M.bind fa tru) (fun b => if b = true then M.bind fb tru else M.pure false) s := by
  rw [M.bind_assoc, M.bind_assoc]
  show M.bind fa _ s = M.bind fa _ s
  rw [M.bind_def, M.bind_def]
  cases fa s with
  | ok x s1 =>
    show M.bind (M.bind (tru x) _) tru s1 = M.bind (tru x) _ s1
    rw [M.bind_assoc, M.bind_def, M.bind_def]
    cases q : tru x s1 with
    | ok b s2 =>
      have := tru_det q
      subst this
      cases b with
      | true => rfl
      | false =>
        show tru x s2 = .ok false s2
        exact q
    | exc x s2 => rfl
    | no => rfl
  | exc x s1 => rfl
  | no => rfl
theorem or_tru (fa fb : M D) (s : Sto) : M.bind (M.bind fa fun x => M.bind (tru x) fun b => if b = true then M.pure x else fb) tru s = M.bind (M.bind fa tru) (fun b => if b = true then M.pure true else M.bind fb tru) s := by
  rw [M.bind_assoc, M.bind_assoc]
  show M.bind fa _ s = M.bind fa _ s
  rw [M.bind_def, M.bind_def]
  cases fa s with
  | ok x s1 =>
    show M.bind (M.bind (tru x) _) tru s1 = M.bind (tru x) _ s1
    rw [M.bind_assoc, M.bind_def, M.bind_def]
    cases q : tru x s1 with
    | ok b s2 =>
      have := tru_det q
      subst this
      cases b with
      | false => rfl
      | true =>
        show tru x s2 = .ok true s2
        exact q
    | exc x s2 => rfl
    | no => rfl
  | exc x s1 => rfl
  | no => rfl
theorem not_tru (fa : M D) (s : Sto) : M.bind (M.bind fa fun x => M.bind (tru x) fun b => M.pure (D.bl (!b))) tru s = M.bind (M.bind fa tru) (fun b => M.pure (!b)) s := by
  rw [M.bind_assoc, M.bind_assoc]
  show M.bind fa _ s = M.bind fa _ s
  rw [M.bind_def, M.bind_def]
  cases fa s with
  | ok x s1 =>
    show M.bind (M.bind (tru x) _) tru s1 = M.bind (tru x) _ s1
    rw [M.bind_assoc, M.bind_def, M.bind_def]
    cases q : tru x s1 with
    | ok b s2 => rfl
    | exc x s2 => rfl
    | no => rfl
  | exc x s1 => rfl
  | no => rfl
end
end EW

set_option Elab.async false
set_option linter.all false
set_option maxRecDepth 100000
set_option maxHeartbeats 0
/-! M layer 17: the check is sound: expressions, all. -/
namespace EW
open PySem PySem.Spec PyProof.Rows L2

theorem tyN_S (t : Ty) (h : tyB t = true) : bootBuiltins (tyS t) = some (.type (tyN t)) := by
  cases t <;> first | (cases h; done) | decide +kernel
theorem tyS_nm (t : Ty) (h : tyB t = true) : nmB (tyS t) = true := by
  cases t <;> first | (cases h; done) | decide +kernel
theorem nm_isi : nmB "isinstance" = true := by decide +kernel
theorem boot_isi : bootBuiltins "isinstance" = some (.builtin "isinstance") := by decide +kernel
section
variable {G : Gb} {fi : Nat → FI} {T : Tab} {C : Cal} {k : Nat} {base : Heap}
/-- the shape of a call's arguments -/
theorem args_shape {X : Cx} {pos : Pos} {l : List Expr} {es : CEs} {fs : Env → M (List D)} (h1 : l.length = es.len) (h2 : l.all nst = true) (h0 : es.len = 0 → ∀ r, fs r = M.pure []) :
    l = [] ∧ (∀ r, fs r = M.pure []) ∨ ∃ e es', l = e :: es' ∧ starEach (e :: es') X.env = (false, eval e X.env) :: starEach es' X.env ∧ (backTo pos (starEach es' X.env)).any (·.1) = false := by
  cases l with
  | nil => exact .inl ⟨rfl, h0 h1.symm⟩
  | cons e l =>
    obtain ⟨h3, h4⟩ := Bool.and_eq_true_iff.mp (show (nst e && l.all nst) = true from h2)
    exact .inr ⟨e, l, rfl, star_cons h3, back_any h4⟩
theorem dens_zero {C : Cal} {es : CEs} (h : es.len = 0) (r : Env) : dens C r es = M.pure [] := by
  cases es with
  | nil => rfl
  | cons a b => cases h
theorem asgB_ok {X : Cx} {g : Pm} {c : KC} (o : KOk G k base c g X) {x : Str} (h : decide (x ∈ T.free) = true) (GO : GOk G fi T C k base) : X.mg x = none := by
  rw [o.x.mg]
  exact GO.T.free x (of_decide_eq_true h)
mutual
theorem sE (GO : GOk G fi T C k base) : ∀ (ce : CE) {c : KC} {g : Pm} {X : Cx} {e : Expr}, KOk G k base c g X → cE G.Q T ce c e = true → PE X e (tE G g fun r => den C r ce)
  | .var i, c, g, X, e, o, h => by
    cases e <;> first | (cases h; done) | skip
    rename_i x p
    have h : (decide (c.N[i]? = some x) && visB c.sc x && nmB x) = true := h
    simp only [Bool.and_eq_true, decide_eq_true_eq] at h
    obtain ⟨n1, n2, _⟩ := nmB_ok h.2
    exact me_var (by rw [o.N]; exact h.1.1) (by rw [o.sc]; exact visB_ok h.1.2) n1 n2
  | .non, c, g, X, e, o, h => by
    cases e <;> first | (cases h; done) | skip
    have h := of_decide_eq_true (show decide _ = true from h)
    subst h
    exact me_const pe_non fun _ _ _ => rfl
  | .bl b, c, g, X, e, o, h => by
    cases e <;> first | (cases h; done) | skip
    have h := of_decide_eq_true (show decide _ = true from h)
    subst h
    exact me_const pe_bl fun _ _ _ => rfl
  | .int i, c, g, X, e, o, h => by
    cases e <;> first | (cases h; done) | skip
    have h := of_decide_eq_true (show decide _ = true from h)
    subst h
    exact me_const pe_int fun _ _ _ => rfl
  | .str x, c, g, X, e, o, h => by
    cases e <;> first | (cases h; done) | skip
    have h := of_decide_eq_true (show decide _ = true from h)
    subst h
    exact me_const pe_str fun _ _ _ => rfl
  | .con i, c, g, X, e, o, h => by
    cases e <;> first | (cases h; done) | skip
    rename_i x p
    have h : (glB c.sc x && decide ((x, i) ∈ T.con) && nmB x) = true := h
    simp only [Bool.and_eq_true, decide_eq_true_eq] at h
    obtain ⟨n1, n2, _⟩ := nmB_ok h.2
    obtain ⟨u, v, q1, q2, q3⟩ := GO.T.con _ h.1.2
    have q4 := me_const (G := G) (g := g) (pe_glob (X := X) (pos := p) (Gl_of o h.1.1) (by rw [o.x.mg]; exact q1) q2 n1) q3
    show PE X (.Name x p) (tE G g fun _ => M.pure (C.P.con i))
    rw [GO.C.P]
    exact q4
  | .bin op a b, c, g, X, e, o, h => by
    cases e <;> first | (cases h; done) | skip
    rename_i ea oo eb p
    have h : (boB op oo && cE G.Q T a c ea && cE G.Q T b c eb) = true := h
    simp only [Bool.and_eq_true] at h
    exact me_two (boB_ok h.1.1) (sE GO a o h.1.2) (sE GO b o h.2)
  | .neg a, c, g, X, e, o, h => by
    cases e <;> first | (cases h; done) | skip
    rename_i u ea p
    have h : (decide (u = .USub) && cE G.Q T a c ea) = true := h
    simp only [Bool.and_eq_true, decide_eq_true_eq] at h
    obtain ⟨rfl, h'⟩ := h
    exact me_neg (sE GO a o h')
  | .nt a, c, g, X, e, o, h => by
    cases e <;> first | (cases h; done) | skip
    rename_i u ea p
    have h : (decide (u = .Not) && cE G.Q T a c ea) = true := h
    simp only [Bool.and_eq_true, decide_eq_true_eq] at h
    obtain ⟨rfl, h'⟩ := h
    exact me_not o.x.K (sE GO a o h')
  | .andl es, c, g, X, e, o, h => by
    cases e <;> first | (cases h; done) | skip
    rename_i u vs p
    have h : (decide (u = .And) && !vs.isEmpty && cEs G.Q T es c vs) = true := h
    simp only [Bool.and_eq_true, decide_eq_true_eq] at h
    obtain ⟨⟨rfl, h0⟩, h'⟩ := h
    exact sAnd GO es o h' (by cases vs <;> first | (cases h0; done) | simp)
  | .orl es, c, g, X, e, o, h => by
    cases e <;> first | (cases h; done) | skip
    rename_i u vs p
    have h : (decide (u = .Or) && !vs.isEmpty && cEs G.Q T es c vs) = true := h
    simp only [Bool.and_eq_true, decide_eq_true_eq] at h
    obtain ⟨⟨rfl, h0⟩, h'⟩ := h
    exact sOr GO es o h' (by cases vs <;> first | (cases h0; done) | simp)
  | .cmp op a b, c, g, X, e, o, h => by
    cases e <;> first | (cases h; done) | skip
    rename_i ea ops l p
    rcases ops with _ | ⟨oo, _ | ⟨o2, ops⟩⟩ <;> first | (cases h; done) | skip
    rcases l with _ | ⟨eb, _ | ⟨ec, l⟩⟩ <;> first | (cases h; done) | skip
    have h : (coB op oo && cE G.Q T a c ea && cE G.Q T b c eb) = true := h
    simp only [Bool.and_eq_true] at h
    exact me_cmp (coB_ok o.x.K o.un h.1.1) (sE GO a o h.1.2) (sE GO b o h.2) (coB_mark h.1.1 _)
  | .chn op op2 a b d, c, g, X, e, o, h => by
    cases e <;> first | (cases h; done) | skip
    rename_i ea ops l p
    rcases ops with _ | ⟨oo, _ | ⟨o2, _ | ⟨o3, ops⟩⟩⟩ <;> first | (cases h; done) | skip
    rcases l with _ | ⟨eb, _ | ⟨ec, _ | ⟨ed, l⟩⟩⟩ <;> first | (cases h; done) | skip
    have h : (coB op oo && coB op2 o2 && cE G.Q T a c ea && cE G.Q T b c eb && cE G.Q T d c ec) = true := h
    simp only [Bool.and_eq_true] at h
    obtain ⟨⟨⟨⟨h1, h2⟩, h3⟩, h4⟩, h5⟩ := h
    exact me_chn (coB_ok o.x.K o.un h1) (coB_ok o.x.K o.un h2) (sE GO a o h3) (sE GO b o h4) (sE GO d o h5) (coB_mark h2 _)
  | .ife t a b, c, g, X, e, o, h => by
    cases e <;> first | (cases h; done) | skip
    rename_i et ea eb p
    have h : ((cE G.Q T t c et && tOk t et) && cE G.Q T a c ea && cE G.Q T b c eb) = true := h
    simp only [Bool.and_eq_true] at h
    refine PE.congr (me_ife (sT GO t o h.1.1.1 h.1.1.2 (sE GO t o h.1.1.1)) (sE GO a o h.1.2) (sE GO b o h.2)) fun r s => ?_
    show M.bind (den C r t) _ s = M.bind (M.bind (den C r t) tru) _ s
    rw [M.bind_assoc]
  | .fld ob f, c, g, X, e, o, h => by
    cases e <;> first | (cases h; done) | skip
    rename_i eo x p
    have h : (decide (T.fN f = x) && notSup eo && cE G.Q T ob c eo) = true := h
    simp only [Bool.and_eq_true, decide_eq_true_eq] at h
    obtain ⟨⟨rfl, h1⟩, h2⟩ := h
    have q := me_fld (f := f) (pos := p) GO.F o.x.K (sE GO ob o h2) (abase h1)
    rw [← GO.T.fN, ← GO.C.P] at q
    exact q
  | .ix ob i, c, g, X, e, o, h => by
    cases e <;> first | (cases h; done) | skip
    rename_i eo ei p
    have h : (notSlice ei && cE G.Q T ob c eo && cE G.Q T i c ei) = true := h
    simp only [Bool.and_eq_true] at h
    exact me_ix o.x.K (sE GO ob o h.1.2) (sE GO i o h.2) (plainIx h.1.1)
  | .tup es, c, g, X, e, o, h => by
    cases e <;> first | (cases h; done) | skip
    rename_i l kk p
    have h : (decide (es.len ≤ 1000) && cEs G.Q T es c l) = true := h
    simp only [Bool.and_eq_true, decide_eq_true_eq] at h
    exact me_tup (sEs GO es o h.2) fun r s ds s' q => by
      rw [dens_len q, sizeLine_eq]; omega
  | .lst es, c, g, X, e, o, h => by
    cases e <;> first | (cases h; done) | skip
    rename_i l p
    have h : (decide (es.len ≤ 1000) && cEs G.Q T es c l) = true := h
    simp only [Bool.and_eq_true, decide_eq_true_eq] at h
    exact me_lst (sEs GO es o h.2) fun r s ds s' q => by
      rw [dens_len q, sizeLine_eq]; omega
  | .lc own tg ik src cond elt, c, g, X, e, o, h => by
    cases e <;> first | (cases h; done) | skip
    rename_i ee gs scope p
    rcases gs with _ | ⟨⟨tgE, iter, ifs, z⟩, _ | ⟨g2, gs⟩⟩ <;> first | (cases h; done) | skip
    have h : (decide (z = 0) && c.calm && !c.hx && blkC c.N c.sc scope (ownP c own) && decide (ifs.length ≤ 1) && tgB (c.in_ scope) tg tgE && (tg.slots.all fun i => decide (i ∈ own)) && itB T c ik (cEs G.Q T src c) iter && (cEs G.Q T cond (c.in_ scope) ifs && tOks cond ifs) && cE G.Q T elt (c.in_ scope) ee) = true := h
    simp only [Bool.and_eq_true, decide_eq_true_eq, Bool.not_eq_true'] at h
    obtain ⟨⟨⟨⟨⟨⟨⟨⟨⟨rfl, h1⟩, h2⟩, h3⟩, h4⟩, h5⟩, h6⟩, h7⟩, h8, h9⟩, h10⟩ := h
    have ok := blkOk_by h3
    have e1 : (ownP c own).map (·.2) = own := by
      unfold ownP
      rw [List.map_map]
      exact List.map_id' own
    rw [← o.sc, ← o.N] at ok
    have q := me_lc (G := G) (g := g) (pos := p) (elt := ee) (fs := fun r => dens C r src) (fc := fun r => denC C r cond) (fe := fun r => den C r elt) (o.calm h1) o.nd (sIt GO src o h7) ok (fun s H Cc cl fp => tgB_ok (o.in_ h2 ok.kind) h5)
      (fun s H Cc cl fp => sC GO cond (o.in_ h2 ok.kind) h8 h9 h4) (fun s H Cc cl fp => sE GO elt (o.in_ h2 ok.kind) h10) (fun x => by
        unfold itB at h7
        cases ik <;> dsimp only at h7
        · exact fold_no (Bool.and_eq_true_iff.mp h7).1 x
        · cases iter <;> first | (cases h7; done) | rfl
        · cases iter <;> first | (cases h7; done) | rfl
        all_goals cases h7) (fun i hi => by
        rw [e1]
        exact of_decide_eq_true (List.all_eq_true.mp h6 i hi))
    rw [e1] at q
    exact q
  | .call f es, c, g, X, e, o, h => by
    cases e <;> first | (cases h; done) | skip
    rename_i ef l kw p
    cases ef <;> first | (cases h; done) | skip
    rename_i x px
    cases kw <;> first | (cases h; done) | skip
    have h : (glB c.sc x && nmB x && (c.calm && decide ((x, f) ∈ T.fn) && G.Q.can f es.len) && cEs G.Q T es c l) = true := h
    simp only [Bool.and_eq_true, decide_eq_true_eq] at h
    obtain ⟨⟨⟨h1, h2⟩, ⟨h3, h4⟩, h5⟩, h6⟩ := h
    obtain ⟨n1, n2, n3⟩ := nmB_ok h2
    obtain ⟨m1, m2⟩ := GO.T.fn _ h4
    obtain ⟨l1, l2⟩ := cEs_len h6
    have hc : CalOk G fi C k X.base := by rw [o.base]; exact GO.C
    have hr := (o.room h3).mono (Nat.le_succ k)
    have hm : X.mg x = some (.ref (fi f).ad) := by rw [o.x.mg]; exact m1
    cases l with
    | nil =>
      have z : es.len = 0 := l1.symm
      refine PE.congr (me_call0 o.x GO.D hc hr (by rw [← z]; exact h5) (Gl_of o h1) hm m2 n1) fun r s => ?_
      show M.bind (dens C r es) (callN C f es.len) s = _
      rw [dens_zero z, z]
    | cons e1 l =>
      obtain ⟨h3', h4'⟩ := Bool.and_eq_true_iff.mp (show (nst e1 && l.all nst) = true from l2)
      exact me_call o.x GO.D hc hr h5 (Gl_of o h1) hm m2 (sEs GO es o h6) n1 (star_cons h3') (back_any h4')
  | .make cl es, c, g, X, e, o, h => by
    cases e <;> first | (cases h; done) | skip
    rename_i ef l kw p
    cases ef <;> first | (cases h; done) | skip
    rename_i x px
    cases kw <;> first | (cases h; done) | skip
    have h : (glB c.sc x && nmB x && (c.calm && decide ((x, cl) ∈ T.cl) && (match G.Q.init cl with
      | some f => G.Q.can f (es.len + 1)
      | none => G.Q.plain cl && decide (es.len = 0))) && cEs G.Q T es c l) = true := h
    simp only [Bool.and_eq_true, decide_eq_true_eq] at h
    obtain ⟨⟨⟨h1, h2⟩, ⟨h3, h4⟩, h5⟩, h6⟩ := h
    obtain ⟨n1, n2, n3⟩ := nmB_ok h2
    obtain ⟨l1, l2⟩ := cEs_len h6
    have hc : CalOk G fi C k X.base := by rw [o.base]; exact GO.C
    have hm : X.mg x = some (.ref (G.cA cl)) := by rw [o.x.mg]; exact GO.T.cl _ h4
    cases q : G.Q.init cl with
    | some f =>
      rw [q] at h5
      have e1 := me_make (pos := p) (p := px) o.x GO.D hc (o.room h3) q h5 (Gl_of o h1) hm (sEs GO es o h6) (args_shape l1 l2 dens_zero) n1
      refine PE.congr e1 fun r s => ?_
      show M.bind (dens C r es) (fun xs => match C.P.init cl with
        | some f => M.bind (newO (.ins cl [])) fun o => M.bind (callN C f (es.len + 1) (o :: xs)) fun v => if v = .non then M.pure o else M.stuck
        | none => if C.P.plain cl = true ∧ xs = [] then newO (.ins cl []) else M.stuck) s = _
      rw [GO.C.P, q]
    | none =>
      rw [q] at h5
      simp only [Bool.and_eq_true, decide_eq_true_eq] at h5
      have z : l = [] := List.length_eq_zero_iff.mp (l1.trans h5.2)
      subst z
      refine PE.congr (me_make0 (pos := p) (p := px) o.x GO.D h5.1 (Gl_of o h1) hm n1) fun r s => ?_
      show M.bind (dens C r es) (fun xs => match C.P.init cl with
        | some f => M.bind (newO (.ins cl [])) fun o => M.bind (callN C f (es.len + 1) (o :: xs)) fun v => if v = .non then M.pure o else M.stuck
        | none => if C.P.plain cl = true ∧ xs = [] then newO (.ins cl []) else M.stuck) s = _
      rw [GO.C.P, q, dens_zero h5.2]
      show (if G.Q.plain cl = true ∧ ([] : List D) = [] then newO (.ins cl []) else M.stuck) s = _
      rw [if_pos ⟨h5.1, rfl⟩]
  | .meth m ob es, c, g, X, e, o, h => by
    have hz := Bool.and_eq_true_iff.mp (show (c.calm && qMeth T m (cE G.Q T ob c) (cEs G.Q T es c) e) = true from h)
    clear h
    obtain ⟨h0, h⟩ := hz
    cases e <;> first | (cases h; done) | skip
    rename_i ef l kw p
    cases ef <;> first | (cases h; done) | skip
    rename_i eo x pa
    cases kw <;> first | (cases h; done) | skip
    have h : (decide (T.mN m = x) && notSup eo && (pa.endLine == p.line) && decide (l.length < 30) && cE G.Q T ob c eo && cEs G.Q T es c l) = true := h
    simp only [Bool.and_eq_true, decide_eq_true_eq] at h
    obtain ⟨⟨⟨⟨⟨rfl, h1⟩, h2⟩, h3⟩, h4⟩, h5⟩ := h
    obtain ⟨l1, l2⟩ := cEs_len h5
    have hc : CalOk G fi C k X.base := by rw [o.base]; exact GO.C
    refine me_meth (pl := do return (← importBound eo X.env).getD true) (na := es.len + 1) o.x GO.D hc ((o.room h0).mono (Nat.le_succ k)) (sE GO ob o h4) (sEs GO es o h5) (args_shape l1 l2 dens_zero) ?_
    rw [arm_eval_Call, abase h1]
    have hform : methodCallForm (l.length + ([] : List Keyword).length) (backTo p (starEach l X.env)) (backToKw p (keywordEach [] X.env)) = true := by
      unfold methodCallForm
      rw [back_all l2]
      show (true && true && decide (l.length + 0 + 0 < 30)) = true
      rw [decide_eq_true (by omega)]
      rfl
    have hpos : methodCallPos true eo X.env pa p = pure p := by unfold methodCallPos; simp [h2]
    unfold methodCall
    rw [hform, hpos]
    rfl
  | .bi b es, c, g, X, e, o, h => by
    cases e <;> first | (cases h; done) | skip
    rename_i ef l kw p
    cases ef <;> first | (cases h; done) | skip
    rename_i x px
    cases kw <;> first | (cases h; done) | skip
    have h : (glB c.sc x && nmB x && ((biH b || c.calm) && biK b && decide (x = biN b) && decide (x ∈ T.free) && decide (0 < es.len)) && cEs G.Q T es c l) = true := h
    simp only [Bool.and_eq_true] at h
    obtain ⟨⟨⟨h1, h2⟩, ⟨⟨⟨h3, h4⟩, h5⟩, h6⟩, h7⟩, h8⟩ := h
    have h5 := of_decide_eq_true h5
    subst h5
    obtain ⟨l1, l2⟩ := cEs_len h8
    cases l with
    | nil =>
      have := of_decide_eq_true h7
      rw [← l1] at this
      cases this
    | cons e1 l =>
      have h3' : biH b = true ∨ X.calm = true := by
        rcases Bool.or_eq_true_iff.mp h3 with q | q
        · exact .inl q
        · exact .inr (o.calm q)
      exact me_bi o.x.K h3' h4 (Gl_of o h1) (asgB_ok o h6 GO) h2 (sEs GO es o h8) l2
  | .bm b ob es, c, g, X, e, o, h => by
    have hz := Bool.and_eq_true_iff.mp (show (bmB b && qBm b (cE G.Q T ob c) (cEs G.Q T es c) e) = true from h)
    clear h
    obtain ⟨h0, h⟩ := hz
    cases e <;> first | (cases h; done) | skip
    rename_i ef l kw p
    cases ef <;> first | (cases h; done) | skip
    rename_i eo x pa
    cases kw <;> first | (cases h; done) | skip
    have h : (decide (bmN b = x) && notSup eo && (pa.endLine == p.line) && decide (l.length < 30) && !l.isEmpty && cE G.Q T ob c eo && cEs G.Q T es c l) = true := h
    simp only [Bool.and_eq_true, decide_eq_true_eq] at h
    obtain ⟨⟨⟨⟨⟨⟨rfl, h1⟩, h2⟩, h3⟩, h4⟩, h5⟩, h6⟩ := h
    obtain ⟨l1, l2⟩ := cEs_len h6
    cases l with
    | nil => cases h4
    | cons e1 l =>
      obtain ⟨h3', h4'⟩ := Bool.and_eq_true_iff.mp (show (nst e1 && l.all nst) = true from l2)
      have few : ((backTo p (starEach (e1 :: l) X.env)).all (fun x => !x.1) && (backToKw p (keywordEach [] X.env)).all (fun x => x.1.isSome)
          && decide ((e1 :: l).length + ([] : List Keyword).length + (if ([] : List Keyword).isEmpty then 0 else 1) < 30)) = true := by
        rw [back_all l2]
        show (true && true && decide ((e1 :: l).length + 0 + 0 < 30)) = true
        rw [decide_eq_true (by omega)]
        rfl
      cases b <;> first | (cases h0; done) | skip
      exact me_bm (b := .append) (id := "list.append") (name := "append") o.x.K PySem.F.plainAttrs_list slot_list_append type_list_append bm_append (sE GO ob o h5) (sEs GO es o h6) (abase h1) few h2 (star_cons h3') (back_any h4')
  | .isi a ts, c, g, X, e, o, h => by
    rcases ts with _ | ⟨t, _ | ⟨t2, ts⟩⟩ <;> first | (cases h; done) | skip
    cases e <;> first | (cases h; done) | skip
    rename_i ef l kw p
    cases ef <;> first | (cases h; done) | skip
    rename_i x px
    rcases l with _ | ⟨e1, _ | ⟨e2, _ | ⟨e3, l⟩⟩⟩ <;> first | (cases h; done) | (cases e2 <;> cases h; done) | skip
    cases e2 <;> first | (cases h; done) | skip
    rename_i z pz
    cases kw <;> first | (cases h; done) | skip
    have h : (decide (x = "isinstance") && glB c.sc x && decide (x ∈ T.free) && tyB t && decide (z = tyS t) && glB c.sc z && decide (z ∈ T.free) && nst e1 && cE G.Q T a c e1) = true := h
    simp only [Bool.and_eq_true] at h
    obtain ⟨⟨⟨⟨⟨⟨⟨⟨h1, h2⟩, h3⟩, h4⟩, h5⟩, h6⟩, h7⟩, h8⟩, h9⟩ := h
    have h1 := of_decide_eq_true h1
    have h5 := of_decide_eq_true h5
    subst h1 h5
    obtain ⟨n1, n2, n3⟩ := nmB_ok nm_isi
    obtain ⟨n4, n5, n6⟩ := nmB_ok (tyS_nm t h4)
    exact me_isi t h4 (Gl_of o h2) (asgB_ok o h3 GO) boot_isi (sE GO a o h9) (Gl_of o h6) (asgB_ok o h7 GO) (tyN_S t h4) n3 n1 n6 n4 (star_cons h8)
  | .isx i kx, c, g, X, e, o, h => by
    cases e <;> first | (cases h; done) | skip
    rename_i ef l kw p
    cases ef <;> first | (cases h; done) | skip
    rename_i x px
    rcases l with _ | ⟨e1, _ | ⟨e2, _ | ⟨e3, l⟩⟩⟩ <;> first | (cases h; done) | (cases e1 <;> cases h; done) | (cases e1 <;> cases e2 <;> cases h; done) | skip
    cases e1 <;> first | (cases h; done) | skip
    rename_i y py
    cases e2 <;> first | (cases h; done) | skip
    rename_i z pz
    cases kw <;> first | (cases h; done) | skip
    have h : (decide (x = "isinstance") && glB c.sc x && decide (x ∈ T.free) && decide (c.N[i]? = some y) && visB c.sc y && nmB y && glB c.sc z && nmB z && decide ((z, kx) ∈ T.ex)) = true := h
    simp only [Bool.and_eq_true] at h
    obtain ⟨⟨⟨⟨⟨⟨⟨⟨h1, h2⟩, h3⟩, h4⟩, h5⟩, h6⟩, h7⟩, h8⟩, h9⟩ := h
    have h1 := of_decide_eq_true h1
    subst h1
    obtain ⟨n1, n2, n3⟩ := nmB_ok nm_isi
    obtain ⟨n4, n5, n6⟩ := nmB_ok h6
    obtain ⟨n7, n8, n9⟩ := nmB_ok h8
    have q := me_isx (G := G) (g := g) (p := px) (p2 := py) (p3 := pz) (pos := p) o.x (Gl_of o h2) (asgB_ok o h3 GO) boot_isi (by rw [o.N]; exact of_decide_eq_true h4) (by rw [o.sc]; exact visB_ok h5) n4 n5 (Gl_of o h7) (by rw [o.x.mg]; exact GO.T.ex _ (of_decide_eq_true h9)) n7 n3 n1
    rw [← GO.C.P] at q
    exact q
  | .slc _ _ _, c, g, X, e, o, h => by cases h
  | .nope, c, g, X, e, o, h => by cases h
  | .dct _ _, c, g, X, e, o, h => by cases h
  | .xfl _ _, c, g, X, e, o, h => by cases h
theorem sT (GO : GOk G fi T C k base) : ∀ (ce : CE) {c : KC} {g : Pm} {X : Cx} {e : Expr}, KOk G k base c g X → cE G.Q T ce c e = true → tOk ce e = true → PE X e (tE G g fun r => den C r ce) → PT X e (tB G g fun r => M.bind (den C r ce) tru)
  | .nt a, c, g, X, e, o, h, t, he => by
    cases e <;> first | (cases h; done) | skip
    rename_i u ea p
    have h : (decide (u = .Not) && cE G.Q T a c ea) = true := h
    simp only [Bool.and_eq_true, decide_eq_true_eq] at h
    obtain ⟨rfl, h'⟩ := h
    exact PT.congr (mt_not (sT GO a o h' t (sE GO a o h'))) fun r s => not_tru _ s
  | .andl es, c, g, X, e, o, h, t, he => by
    cases e <;> first | (cases h; done) | skip
    rename_i u vs p
    have h : (decide (u = .And) && !vs.isEmpty && cEs G.Q T es c vs) = true := h
    simp only [Bool.and_eq_true, decide_eq_true_eq] at h
    obtain ⟨⟨rfl, h0⟩, h'⟩ := h
    exact (sAndT GO es o h' t (by cases vs <;> first | (cases h0; done) | simp)).pt
  | .orl es, c, g, X, e, o, h, t, he => by
    cases e <;> first | (cases h; done) | skip
    rename_i u vs p
    have h : (decide (u = .Or) && !vs.isEmpty && cEs G.Q T es c vs) = true := h
    simp only [Bool.and_eq_true, decide_eq_true_eq] at h
    obtain ⟨⟨rfl, h0⟩, h'⟩ := h
    exact (sOrT GO es o h' t (by cases vs <;> first | (cases h0; done) | simp)).pt
  | .cmp op a b, c, g, X, e, o, h, t, he => by
    cases e <;> first | (cases h; done) | skip
    rename_i ea ops l p
    rcases ops with _ | ⟨oo, _ | ⟨o2, ops⟩⟩ <;> first | (cases h; done) | skip
    rcases l with _ | ⟨eb, _ | ⟨ec, l⟩⟩ <;> first | (cases h; done) | skip
    have h : (coB op oo && cE G.Q T a c ea && cE G.Q T b c eb) = true := h
    simp only [Bool.and_eq_true] at h
    exact mt_cmp (coB_ok o.x.K o.un h.1.1) (sE GO a o h.1.2) (sE GO b o h.2) (coB_mark h.1.1 _) (cmp_bl h.1.1)
  | .chn op op2 a b d, c, g, X, e, o, h, t, he => by
    cases e <;> first | (cases h; done) | skip
    rename_i ea ops l p
    rcases ops with _ | ⟨oo, _ | ⟨o2, _ | ⟨o3, ops⟩⟩⟩ <;> first | (cases h; done) | skip
    rcases l with _ | ⟨eb, _ | ⟨ec, _ | ⟨ed, l⟩⟩⟩ <;> first | (cases h; done) | skip
    have h : (coB op oo && coB op2 o2 && cE G.Q T a c ea && cE G.Q T b c eb && cE G.Q T d c ec) = true := h
    simp only [Bool.and_eq_true] at h
    obtain ⟨⟨⟨⟨h1, h2⟩, h3⟩, h4⟩, h5⟩ := h
    exact mt_chn (coB_ok o.x.K o.un h1) (coB_ok o.x.K o.un h2) (sE GO a o h3) (sE GO b o h4) (sE GO d o h5) (coB_mark h2 _) (cmp_bl h2)
  | .var _, c, g, X, e, o, h, t, he => mt_plain o.x.K he (true_plain t)
  | .non, c, g, X, e, o, h, t, he => mt_plain o.x.K he (true_plain t)
  | .bl _, c, g, X, e, o, h, t, he => mt_plain o.x.K he (true_plain t)
  | .int _, c, g, X, e, o, h, t, he => mt_plain o.x.K he (true_plain t)
  | .str _, c, g, X, e, o, h, t, he => mt_plain o.x.K he (true_plain t)
  | .con _, c, g, X, e, o, h, t, he => mt_plain o.x.K he (true_plain t)
  | .bin _ _ _, c, g, X, e, o, h, t, he => mt_plain o.x.K he (true_plain t)
  | .neg _, c, g, X, e, o, h, t, he => mt_plain o.x.K he (true_plain t)
  | .fld _ _, c, g, X, e, o, h, t, he => mt_plain o.x.K he (true_plain t)
  | .ix _ _, c, g, X, e, o, h, t, he => mt_plain o.x.K he (true_plain t)
  | .tup _, c, g, X, e, o, h, t, he => mt_plain o.x.K he (true_plain t)
  | .lst _, c, g, X, e, o, h, t, he => mt_plain o.x.K he (true_plain t)
  | .call _ _, c, g, X, e, o, h, t, he => mt_plain o.x.K he (true_plain t)
  | .meth _ _ _, c, g, X, e, o, h, t, he => mt_plain o.x.K he (true_plain t)
  | .bi _ _, c, g, X, e, o, h, t, he => mt_plain o.x.K he (true_plain t)
  | .bm _ _ _, c, g, X, e, o, h, t, he => mt_plain o.x.K he (true_plain t)
  | .isi _ _, c, g, X, e, o, h, t, he => mt_plain o.x.K he (true_plain t)
  | .isx _ _, c, g, X, e, o, h, t, he => mt_plain o.x.K he (true_plain t)
  | .lc _ _ _ _ _ _, c, g, X, e, o, h, t, he => mt_plain o.x.K he (true_plain t)
  | .ife _ _ _, c, g, X, e, o, h, t, he => by cases t
  | .slc _ _ _, c, g, X, e, o, h, t, he => by cases t
  | .nope, c, g, X, e, o, h, t, he => by cases t
  | .dct _ _, c, g, X, e, o, h, t, he => by cases t
  | .xfl _ _, c, g, X, e, o, h, t, he => by cases t
  | .make _ _, c, g, X, e, o, h, t, he => by cases t
theorem sEs (GO : GOk G fi T C k base) : ∀ (ces : CEs) {c : KC} {g : Pm} {X : Cx} {l : List Expr}, KOk G k base c g X → cEs G.Q T ces c l = true → PA X l (tL G g fun r => dens C r ces)
  | .nil, c, g, X, [], o, h => ml_nil
  | .nil, c, g, X, _ :: _, o, h => by cases h
  | .cons a r, c, g, X, [], o, h => by cases h
  | .cons a r, c, g, X, e :: l, o, h => by
    have h : (nst e && cE G.Q T a c e && cEs G.Q T r c l) = true := h
    simp only [Bool.and_eq_true] at h
    exact ml_cons (sE GO a o h.1.2) (sEs GO r o h.2) (star_cons h.1.1)
theorem sAnd (GO : GOk G fi T C k base) : ∀ (ces : CEs) {c : KC} {g : Pm} {X : Cx} {l : List Expr} {p : Pos}, KOk G k base c g X → cEs G.Q T ces c l = true → l ≠ [] → PE X (.BoolOp .And l p) (tE G g fun r => denAnd C r ces)
  | .nil, c, g, X, [], p, o, h, z => absurd rfl z
  | .nil, c, g, X, _ :: _, p, o, h, z => by cases h
  | .cons a r, c, g, X, [], p, o, h, z => by cases h
  | .cons a .nil, c, g, X, e :: l, p, o, h, z => by
    have h : (nst e && cE G.Q T a c e && cEs G.Q T .nil c l) = true := h
    simp only [Bool.and_eq_true] at h
    cases l with
    | nil => exact pe_one (sE GO a o h.1.2)
    | cons _ _ => cases h.2
  | .cons a (.cons b r), c, g, X, e :: l, p, o, h, z => by
    have h : (nst e && cE G.Q T a c e && cEs G.Q T (.cons b r) c l) = true := h
    simp only [Bool.and_eq_true] at h
    cases l with
    | nil => cases h.2
    | cons e2 l => exact me_and o.x.K (sE GO a o h.1.2) (sAnd GO (.cons b r) o h.2 (by simp))
theorem sOr (GO : GOk G fi T C k base) : ∀ (ces : CEs) {c : KC} {g : Pm} {X : Cx} {l : List Expr} {p : Pos}, KOk G k base c g X → cEs G.Q T ces c l = true → l ≠ [] → PE X (.BoolOp .Or l p) (tE G g fun r => denOr C r ces)
  | .nil, c, g, X, [], p, o, h, z => absurd rfl z
  | .nil, c, g, X, _ :: _, p, o, h, z => by cases h
  | .cons a r, c, g, X, [], p, o, h, z => by cases h
  | .cons a .nil, c, g, X, e :: l, p, o, h, z => by
    have h : (nst e && cE G.Q T a c e && cEs G.Q T .nil c l) = true := h
    simp only [Bool.and_eq_true] at h
    cases l with
    | nil => exact pe_one (sE GO a o h.1.2)
    | cons _ _ => cases h.2
  | .cons a (.cons b r), c, g, X, e :: l, p, o, h, z => by
    have h : (nst e && cE G.Q T a c e && cEs G.Q T (.cons b r) c l) = true := h
    simp only [Bool.and_eq_true] at h
    cases l with
    | nil => cases h.2
    | cons e2 l => exact me_or o.x.K (sE GO a o h.1.2) (sOr GO (.cons b r) o h.2 (by simp))
theorem sAndT (GO : GOk G fi T C k base) : ∀ (ces : CEs) {c : KC} {g : Pm} {X : Cx} {l : List Expr} {p : Pos}, KOk G k base c g X → cEs G.Q T ces c l = true → tOks ces l = true → l ≠ [] → PW X (.BoolOp .And l p) (tB G g fun r => M.bind (denAnd C r ces) tru)
  | .nil, c, g, X, [], p, o, h, t, z => absurd rfl z
  | .nil, c, g, X, _ :: _, p, o, h, t, z => by cases h
  | .cons a r, c, g, X, [], p, o, h, t, z => by cases h
  | .cons a .nil, c, g, X, e :: l, p, o, h, t, z => by
    have h : (nst e && cE G.Q T a c e && cEs G.Q T .nil c l) = true := h
    simp only [Bool.and_eq_true] at h
    cases l with
    | nil => exact mw_and1 (sT GO a o h.1.2 (Bool.and_eq_true_iff.mp (show (tOk a e && tOks .nil []) = true from t)).1 (sE GO a o h.1.2))
    | cons _ _ => cases h.2
  | .cons a (.cons b r), c, g, X, e :: l, p, o, h, t, z => by
    have h : (nst e && cE G.Q T a c e && cEs G.Q T (.cons b r) c l) = true := h
    simp only [Bool.and_eq_true] at h
    obtain ⟨t1, t2⟩ := Bool.and_eq_true_iff.mp (show (tOk a e && tOks (.cons b r) l) = true from t)
    cases l with
    | nil => cases h.2
    | cons e2 l => exact PW.congr (mw_and (sT GO a o h.1.2 t1 (sE GO a o h.1.2)) (sAndT GO (.cons b r) o h.2 t2 (by simp))) fun r' s => and_tru _ _ s
theorem sOrT (GO : GOk G fi T C k base) : ∀ (ces : CEs) {c : KC} {g : Pm} {X : Cx} {l : List Expr} {p : Pos}, KOk G k base c g X → cEs G.Q T ces c l = true → tOks ces l = true → l ≠ [] → PW X (.BoolOp .Or l p) (tB G g fun r => M.bind (denOr C r ces) tru)
  | .nil, c, g, X, [], p, o, h, t, z => absurd rfl z
  | .nil, c, g, X, _ :: _, p, o, h, t, z => by cases h
  | .cons a r, c, g, X, [], p, o, h, t, z => by cases h
  | .cons a .nil, c, g, X, e :: l, p, o, h, t, z => by
    have h : (nst e && cE G.Q T a c e && cEs G.Q T .nil c l) = true := h
    simp only [Bool.and_eq_true] at h
    cases l with
    | nil => exact mw_or1 (sT GO a o h.1.2 (Bool.and_eq_true_iff.mp (show (tOk a e && tOks .nil []) = true from t)).1 (sE GO a o h.1.2))
    | cons _ _ => cases h.2
  | .cons a (.cons b r), c, g, X, e :: l, p, o, h, t, z => by
    have h : (nst e && cE G.Q T a c e && cEs G.Q T (.cons b r) c l) = true := h
    simp only [Bool.and_eq_true] at h
    obtain ⟨t1, t2⟩ := Bool.and_eq_true_iff.mp (show (tOk a e && tOks (.cons b r) l) = true from t)
    cases l with
    | nil => cases h.2
    | cons e2 l => exact PW.congr (mw_or (sT GO a o h.1.2 t1 (sE GO a o h.1.2)) (sOrT GO (.cons b r) o h.2 t2 (by simp))) fun r' s => or_tru _ _ s
theorem sC (GO : GOk G fi T C k base) : ∀ (ces : CEs) {c : KC} {g : Pm} {X : Cx} {l : List Expr}, KOk G k base c g X → cEs G.Q T ces c l = true → tOks ces l = true → l.length ≤ 1 → PTs X l (tB G g fun r => denC C r ces)
  | .nil, c, g, X, [], o, h, t, z => ⟨fun pins s a H Q I h => pts_nil.run pins s a H Q I (by
      obtain ⟨m, r, st, R, E, P⟩ := h
      exact P.ok R _ rfl)⟩
  | .nil, c, g, X, _ :: _, o, h, t, z => by cases h
  | .cons a r, c, g, X, [], o, h, t, z => by cases h
  | .cons a .nil, c, g, X, e :: l, o, h, t, z => by
    have h : (nst e && cE G.Q T a c e && cEs G.Q T .nil c l) = true := h
    simp only [Bool.and_eq_true] at h
    cases l with
    | nil => exact pts_one (sT GO a o h.1.2 (Bool.and_eq_true_iff.mp (show (tOk a e && tOks .nil []) = true from t)).1 (sE GO a o h.1.2))
    | cons _ _ => cases h.2
  | .cons a (.cons b r), c, g, X, e :: l, o, h, t, z => by
    have h : (nst e && cE G.Q T a c e && cEs G.Q T (.cons b r) c l) = true := h
    simp only [Bool.and_eq_true] at h
    cases l with
    | nil => cases h.2
    | cons e2 l => simp at z
theorem sIt (GO : GOk G fi T C k base) : ∀ (ces : CEs) {c : KC} {g : Pm} {X : Cx} {tg e : Expr} {ik : IK}, KOk G k base c g X → itB T c ik (cEs G.Q T ces c) e = true → PI X tg e (tI G g (fun r => dens C r ces) ik)
  | .nil, c, g, X, tg, e, ik, o, h => by
    unfold itB at h
    cases ik <;> dsimp only at h
    · obtain ⟨_, h⟩ := Bool.and_eq_true_iff.mp h; cases h
    · split at h
      · simp only [Bool.and_eq_true] at h; cases h.2
      · cases h
    · split at h
      · simp only [Bool.and_eq_true] at h; cases h.2
      · cases h
    all_goals cases h
  | .cons a r, c, g, X, tg, e, ik, o, h => by
    have ha : ∀ l, cEs G.Q T (.cons a r) c l = true → PA X l (tL G g fun r' => dens C r' (.cons a r)) := fun l h => sEs GO (.cons a r) o h
    unfold itB at h
    cases ik <;> dsimp only at h
    · obtain ⟨h0, h⟩ := Bool.and_eq_true_iff.mp h
      have h : (nst e && cE G.Q T a c e && cEs G.Q T r c []) = true := h
      simp only [Bool.and_eq_true] at h
      have z : r = .nil := by
        cases r with
        | nil => rfl
        | cons x y => cases h.2
      subst z
      exact mi_plain o.x.K (sE GO a o h.1.2)
    · split at h
      · simp only [Bool.and_eq_true] at h
        obtain ⟨⟨⟨h1, h2⟩, h3⟩, h4⟩ := h
        have h1 := of_decide_eq_true h1
        subst h1
        obtain ⟨l1, l2⟩ := cEs_len h4
        exact mi_range1 (Gl_of o h2) (asgB_ok o h3 GO) (ha _ h4) (star_all l2)
      · cases h
    · split at h
      · rename_i a1 b1 p1
        simp only [Bool.and_eq_true] at h
        obtain ⟨⟨⟨h1, h2⟩, h3⟩, h4⟩ := h
        have h1 := of_decide_eq_true h1
        subst h1
        obtain ⟨l1, l2⟩ := cEs_len h4
        exact mi_range2 (Gl_of o h2) (asgB_ok o h3 GO) (ha _ h4) (star_all l2) (star_all (Bool.and_eq_true_iff.mp (show (nst a1 && [b1].all nst) = true from l2)).2)
      · cases h
    all_goals cases h
end
end
end EW

set_option Elab.async false
set_option linter.all false
set_option maxRecDepth 100000
set_option maxHeartbeats 0
/-! M layer 18: the check of statements, sound. -/
namespace EW
open PySem PySem.Spec PyProof.Rows L2

def KC.suite (c : KC) : KC := { c with calm := false, hx := true }
def qExpr (f : Expr → Bool) : Stmt → Bool
  | .Expr e _ => notLc e && f e
  | _ => false
def qNop : Stmt → Bool
  | .Pass _ => true
  | .Expr (.Constant (.str _) _ _) _ => true
  | _ => false
def qAsg (c : KC) (t : Tg) (f : Expr → Bool) : Stmt → Bool
  | .Assign [tg] e _ => nst tg && tgB c t tg && lcOnly e && (notTup tg || notTup e) && f e
  | _ => false
def qSetf (T : Tab) (k : Nat) (fo fe : Expr → Bool) : Stmt → Bool
  | .Assign [.Attribute o x _] e _ => decide (T.fN k = x) && lcOnly e && fo o && fe e
  | _ => false
def qSeti (fo fi fe : Expr → Bool) : Stmt → Bool
  | .Assign [.Subscript o i _] e _ => notSlice i && lcOnly e && fo o && fi i && fe e
  | _ => false
def qRet (f : Expr → Bool) : Stmt → Bool
  | .Return (some e) _ => f e
  | _ => false
def qRetn : Stmt → Bool
  | .Return none _ => true
  | _ => false
def qIf (fc : Expr → Bool) (fa fb : List Stmt → Bool) : Stmt → Bool
  | .If c a b _ => fc c && fa a && fb b
  | _ => false
def qFor (T : Tab) (c : KC) (t : Tg) (k : IK) (fs : List Expr → Bool) (fb : List Stmt → Bool) : Stmt → Bool
  | .For tg iter b [] _ => c.calm && tgB c t tg && itB T c k fs iter && fb b
  | _ => false
def qWhl (c : KC) (fc : Expr → Bool) (fb : List Stmt → Bool) : Stmt → Bool
  | .While e b [] _ => c.calm && fc e && fb b
  | _ => false
def nmOk (c : KC) : Option Nat → Option Str → Bool
  | none, none => true
  | some i, some n => decide (c.N[i]? = some n) && decide (c.sc.names.lookup n = some .local)
  | _, _ => false
def qTry (T : Tab) (c : KC) (k : Nat) (nm : Option Nat) (fb fh : List Stmt → Bool) : Stmt → Bool
  | .Try b [.ExceptHandler (some (.Name x _)) n (b0 :: su) _] [] [] _ => !c.hx && glB c.sc x && nmB x && decide ((x, k) ∈ T.ex) && nmOk c nm n && fb b && fh (b0 :: su)
  | _ => false
def qRaise (G : Prg) (T : Tab) (c : KC) (k : Nat) : Stmt → Bool
  | .Raise (some (.Call (.Name x _) [.Constant (.str _) _ _] [] _)) none _ => c.calm && glB c.sc x && nmB x && decide ((x, k) ∈ T.ex) && G.xr k
  | _ => false
mutual
def cS (G : Prg) (T : Tab) : CS → KC → Stmt → Bool
  | .expr e => fun c => qExpr (cE G T e c)
  | .asg t e => fun c => qAsg c t (cE G T e c)
  | .setf o f e => fun c => qSetf T f (cE G T o c) (cE G T e c)
  | .seti o i e => fun c => qSeti (cE G T o c) (cE G T i c) (cE G T e c)
  | .ret e => fun c => qRet (cE G T e c)
  | .retn => fun _ => qRetn
  | .ite e a b => fun c => qIf (fun x => cE G T e c x && tOk e x) (cSs G T a c) (cSs G T b c)
  | .forS t k src b => fun c => qFor T c t k (cEs G T src c) (cSs G T b c)
  | .whl e b => fun c => qWhl c (fun x => cE G T e c x && tOk e x) (cSs G T b c)
  | .tryS b k nm h => fun c => qTry T c k nm (cSs G T b c) (cSs G T h c.suite)
  | .raise k => fun c => qRaise G T c k
  | .nop => fun _ => qNop
  | _ => fun _ _ => false
def cSs (G : Prg) (T : Tab) : CSs → KC → List Stmt → Bool
  | .nil => fun _ l => l.isEmpty
  | .cons a r => fun c l => match l with
    | [] => false
    | s :: l => cS G T a c s && cSs G T r c l
end
structure KOkS (G : Gb) (k : Nat) (base : Heap) (c : KC) (g : Pm) (X : Cx) : Prop extends KOk G k base c g X where
  st : X.stack = X.env :: X.outer
  fr : X.env.frame = some X.env.locals
  po : c.calm = true → PassesOwn (model X.prog X.w) X.A X.env X.xe
section
variable {G : Gb} {fi : Nat → FI} {T : Tab} {C : Cal} {k : Nat} {base : Heap}
theorem itB_fold {c : KC} {ik : IK} {f : List Expr → Bool} {iter : Expr} (h : itB T c ik f iter = true) {env : PySem.Env} (x : Value) : foldedSetIterable iter env x = pure x := by
  unfold itB at h
  cases ik <;> dsimp only at h
  · exact fold_no (Bool.and_eq_true_iff.mp h).1 x
  · cases iter <;> first | (cases h; done) | rfl
  · cases iter <;> first | (cases h; done) | rfl
  all_goals cases h
/-- name = [..] that takes the name along -/
theorem sAsgLc (GO : GOk G fi T C k base) {i : Nat} {ce : CE} {c : KC} {g : Pm} {X : Cx} {e tg : Expr} {p : Pos} (o : KOk G k base c g X) (hsw : swB c.sc e tg = true) (ht : tgN c i tg = true) (h : cE G.Q T ce c e = true) :
    PS X (.Assign [tg] e p) (tS G g fun r s => lift (M.bind (den C r ce) fun x => bindT (.nm i) x r) r (fun r1 s1 => .nx r1 s1) s) := by
  unfold swB at hsw
  split at hsw
  · rename_i ee gs scope lp y py
    cases ce <;> first | (cases h; done) | (have h2 := (Bool.and_eq_true_iff.mp h).2; cases h2; done) | skip
    case isi e0 ts => rcases ts with _ | ⟨t, _ | ⟨t2, ts⟩⟩ <;> cases h
    rename_i own tgt ik src cond elt
    rcases gs with _ | ⟨⟨tgE, iter, ifs, z⟩, _ | ⟨g2, gs⟩⟩ <;> first | (cases h; done) | skip
    have h : (decide (z = 0) && c.calm && !c.hx && blkC c.N c.sc scope (ownP c own) && decide (ifs.length ≤ 1) && tgB (c.in_ scope) tgt tgE && (tgt.slots.all fun i => decide (i ∈ own)) && itB T c ik (cEs G.Q T src c) iter && (cEs G.Q T cond (c.in_ scope) ifs && tOks cond ifs) && cE G.Q T elt (c.in_ scope) ee) = true := h
    simp only [Bool.and_eq_true, decide_eq_true_eq, Bool.not_eq_true'] at h
    obtain ⟨⟨⟨⟨⟨⟨⟨⟨⟨rfl, h1⟩, h2⟩, h3⟩, h4⟩, h5⟩, h6⟩, h7⟩, h8, h9⟩, h10⟩ := h
    have ok := blkOk_by h3
    have e1 : (ownP c own).map (·.2) = own := by
      unfold ownP
      rw [List.map_map]
      exact List.map_id' own
    rw [← o.sc, ← o.N] at ok
    have ht : (decide (c.N[i]? = some y) && (decide (c.sc.names.lookup y = some .local) || (!c.blk && decide (c.sc.names.lookup y = some .cell)))) = true := ht
    have hy := of_decide_eq_true (Bool.and_eq_true_iff.mp ht).1
    simp only [Bool.and_eq_true, decide_eq_true_eq, Bool.not_eq_true'] at hsw
    have q := ms_asgLc (G := G) (g := g) (pos := lp) (spos := p) (py := py) (elt := ee) (fs := fun r => dens C r src) (fc := fun r => denC C r cond) (fel := fun r => den C r elt) (o.calm h1) o.nd (by rw [o.N]; exact hy) (by rw [o.sc]; exact hsw.1.1)
      (sw_true o.kf (by rw [o.sc]; exact hsw.1.1) hsw.1.2 hsw.2) (sIt GO src o h7) ok (fun s H Cc cl fp => tgB_ok (o.in_ h2 ok.kind) h5)
      (fun s H Cc cl fp => sC GO cond (o.in_ h2 ok.kind) h8 h9 h4) (fun s H Cc cl fp => sE GO elt (o.in_ h2 ok.kind) h10) (itB_fold h7) (fun i hi => by
        rw [e1]
        exact of_decide_eq_true (List.all_eq_true.mp h6 i hi))
    rw [e1] at q
    exact q
  · cases hsw
theorem sAsg (GO : GOk G fi T C k base) {t : Tg} {ce : CE} {c : KC} {g : Pm} {X : Cx} {st : Stmt} (o : KOk G k base c g X) (h : qAsg c t (cE G.Q T ce c) st = true) :
    PS X st (tS G g fun r s => lift (M.bind (den C r ce) fun x => bindT t x r) r (fun r1 s1 => .nx r1 s1) s) := by
  cases st <;> first | (cases h; done) | skip
  rename_i tgs e p
  rcases tgs with _ | ⟨tg, _ | ⟨t2, tgs⟩⟩ <;> first | (cases h; done) | skip
  have h : (nst tg && tgB c t tg && lcOnly e && (notTup tg || notTup e) && cE G.Q T ce c e) = true := h
  simp only [Bool.and_eq_true, Bool.or_eq_true] at h
  obtain ⟨⟨⟨⟨h1, h2⟩, h3⟩, h4⟩, h5⟩ := h
  cases q : swB c.sc e tg with
  | true =>
    have z : ∃ i, t = .nm i := by
      cases t with
      | nm i => exact ⟨i, rfl⟩
      | tp is => cases e <;> cases tg <;> first | (cases q; done) | (cases h2; done)
      | tp2 i is => cases e <;> cases tg <;> first | (cases q; done) | (cases h2; done)
    obtain ⟨i, rfl⟩ := z
    exact sAsgLc GO o q (show tgN c i tg = true by cases tg <;> exact h2) h5
  | false =>
    refine ms_asg (sE GO ce o h5) (tgB_ok o h2) ?_ ?_ (by rw [asg_cons h1]; rfl)
    · show swapsWith e (some tg) p.line X.env = pure false
      rw [sw_val o.kf h3, o.sc, q]
    · rcases h4 with h4 | h4
      · exact ss_no1 h4
      · exact ss_no2 h4
theorem sRaise (GO : GOk G fi T C k base) {kx : Nat} {c : KC} {g : Pm} {X : Cx} {st : Stmt} (o : KOk G k base c g X) (h : qRaise G.Q T c kx st = true) :
    PS X st (tS G g fun r s => if G.Q.xr kx = true then .ex ⟨kx, []⟩ r s else .no) := by
  unfold qRaise at h
  split at h
  · rename_i x p1 msg j p2 p3 p4
    simp only [Bool.and_eq_true, decide_eq_true_eq] at h
    obtain ⟨⟨⟨⟨h1, h2⟩, h3⟩, h4⟩, h5⟩ := h
    exact ms_raise o.x GO.E (o.calm h1) (Gl_of o h2) (by rw [o.x.mg]; exact GO.T.ex _ h4) (nmB_ok h3).1 h5
  · cases h
theorem KOkS.tr {c : KC} {g : Pm} {X : Cx} (o : KOkS G k base c g X) (hno : ∀ p x, ¬ g.chi p x) {W : WX} {pn : List (Addr × Obj)} {xe : Value → Shared → Prop} (tk : Takes (X.tr pn xe) W) (po : PassesOwn (model X.prog X.w) X.A X.env xe) : KOkS G k base c ⟨W, g.chi⟩ (X.tr pn xe) :=
  ⟨⟨o.x.try_ hno tk, o.sc, o.kf, o.N, o.nd, o.calm, o.room, o.un, o.base, fun _ => hno, o.fnl⟩, o.st, o.fr, fun _ => po⟩
theorem KOkS.su {c : KC} {g : Pm} {X : Cx} (o : KOkS G k base c g X) (eo : EOk G) {a : Addr} {oe : Obj} {cls : Value} {d : Option Addr} {pn : List (Addr × Obj)} (hz : Zc cls d oe) (hf : ∃ vs, oe.data = .fields vs) : KOkS G k base c.suite (Pm.suite G a cls d) (X.suite a ((a, oe) :: pn)) :=
  ⟨⟨o.x.suite eo hz hf, o.sc, o.kf, o.N, o.nd, fun h => (by cases h), fun h => (by cases h), o.un, o.base, fun h => (by cases h), o.fnl⟩, o.st, o.fr, fun h => (by cases h)⟩
mutual
theorem sS (GO : GOk G fi T C k base) : ∀ (cs : CS) {c : KC} {g : Pm} {X : Cx} {st : Stmt}, KOkS G k base c g X → cS G.Q T cs c st = true → PS X st (tS G g fun r s => sem C r s cs)
  | .expr ce, c, g, X, st, o, h => by
    cases st <;> first | (cases h; done) | skip
    rename_i e p
    have h : (notLc e && cE G.Q T ce c e) = true := h
    simp only [Bool.and_eq_true] at h
    exact ms_expr (sE GO ce o.toKOk h.2) (sw_no h.1)
  | .asg t ce, c, g, X, st, o, h => sAsg GO o.toKOk h
  | .setf co f ce, c, g, X, st, o, h => by
    cases st <;> first | (cases h; done) | skip
    rename_i tgs e p
    rcases tgs with _ | ⟨tg, tgs⟩ <;> first | (cases h; done) | skip
    cases tg <;> first | (cases h; done) | skip
    rename_i eo x px
    cases tgs <;> first | (cases h; done) | skip
    have h : (decide (T.fN f = x) && lcOnly e && cE G.Q T co c eo && cE G.Q T ce c e) = true := h
    simp only [Bool.and_eq_true, decide_eq_true_eq] at h
    obtain ⟨⟨⟨rfl, h1⟩, h2⟩, h3⟩ := h
    have hs : swapsWith e (some (.Attribute eo (G.fN f) px)) p.line X.env = pure false := by
      rw [sw_val o.kf h1]
      cases e <;> rfl
    have q := ms_setf (f := f) (pos := p) (pos' := px) GO.F o.x.K (sE GO co o.toKOk h2) (sE GO ce o.toKOk h3) hs
    rw [← GO.T.fN, ← GO.C.P] at q
    exact q
  | .seti co ci ce, c, g, X, st, o, h => by
    cases st <;> first | (cases h; done) | skip
    rename_i tgs e p
    rcases tgs with _ | ⟨tg, tgs⟩ <;> first | (cases h; done) | skip
    cases tg <;> first | (cases h; done) | skip
    rename_i eo ei px
    cases tgs <;> first | (cases h; done) | skip
    have h : (notSlice ei && lcOnly e && cE G.Q T co c eo && cE G.Q T ci c ei && cE G.Q T ce c e) = true := h
    simp only [Bool.and_eq_true] at h
    obtain ⟨⟨⟨⟨h0, h1⟩, h2⟩, h3⟩, h4⟩ := h
    refine ms_seti (sE GO ce o.toKOk h4) (sE GO co o.toKOk h2) (sE GO ci o.toKOk h3) (fun v => ?_) ?_
    · cases ei <;> first | rfl | cases h0
    · show swapsWith e (some (.Subscript eo ei px)) p.line X.env = pure false
      rw [sw_val o.kf h1]
      cases e <;> rfl
  | .ret ce, c, g, X, st, o, h => by
    cases st <;> first | (cases h; done) | skip
    rename_i v p
    cases v <;> first | (cases h; done) | skip
    exact ms_ret (sE GO ce o.toKOk h)
  | .retn, c, g, X, st, o, h => by
    cases st <;> first | (cases h; done) | skip
    rename_i v p
    cases v <;> first | (cases h; done) | skip
    exact ms_retn
  | .ite ce a b, c, g, X, st, o, h => by
    cases st <;> first | (cases h; done) | skip
    rename_i e la lb p
    have h : ((cE G.Q T ce c e && tOk ce e) && cSs G.Q T a c la && cSs G.Q T b c lb) = true := h
    simp only [Bool.and_eq_true] at h
    exact ms_if (sT GO ce o.toKOk h.1.1.1 h.1.1.2 (sE GO ce o.toKOk h.1.1.1)) (sSs GO a o h.1.2) (sSs GO b o h.2)
  | .forS t ik src b, c, g, X, st, o, h => by
    cases st <;> first | (cases h; done) | skip
    rename_i tg iter body els p
    cases els <;> first | (cases h; done) | skip
    have h : (c.calm && tgB c t tg && itB T c ik (cEs G.Q T src c) iter && cSs G.Q T b c body) = true := h
    simp only [Bool.and_eq_true] at h
    obtain ⟨⟨⟨h1, h2⟩, h3⟩, h4⟩ := h
    exact ms_for (o.po h1) (o.calm h1) (sIt GO src o.toKOk h3) (tgB_ok o.toKOk h2) (sSs GO b o h4) (itB_fold h3)
  | .whl ce b, c, g, X, st, o, h => by
    cases st <;> first | (cases h; done) | skip
    rename_i e body els p
    cases els <;> first | (cases h; done) | skip
    have h : (c.calm && (cE G.Q T ce c e && tOk ce e) && cSs G.Q T b c body) = true := h
    simp only [Bool.and_eq_true] at h
    exact ms_while (o.po h.1.1) (sT GO ce o.toKOk h.1.2.1 h.1.2.2 (sE GO ce o.toKOk h.1.2.1)) (sSs GO b o h.2)
  | .tryS b kx nm hd, c, g, X, st, o, h => by
    replace h : qTry T c kx nm (cSs G.Q T b c) (cSs G.Q T hd c.suite) st = true := h
    unfold qTry at h
    split at h
    · rename_i body x p1 n b0 su p2 p3
      simp only [Bool.and_eq_true, decide_eq_true_eq, Bool.not_eq_true'] at h
      obtain ⟨⟨⟨⟨⟨⟨h1, h2⟩, h3⟩, h4⟩, h5⟩, h6⟩, h7⟩ := h
      have hno := o.chi h1
      have hm : X.mg x = some (.ref (G.xA kx)) := by rw [o.x.mg]; exact GO.T.ex _ h4
      have hb : ∀ (W : WX) (pn : List (Addr × Obj)) (xe : Value → Shared → Prop), Takes (X.tr pn xe) W → PassesOwn (model X.prog X.w) X.A X.env xe → PSs (X.tr pn xe) body (tS G ⟨W, g.chi⟩ fun r s => sems C r s b) :=
        fun W pn xe tk po => sSs GO b (o.tr hno tk po) h6
      have hsu : ∀ (a : Addr) (oe : Obj) (cls : Value) (d : Option Addr) (pn : List (Addr × Obj)), Zc cls d oe → (∃ vs, oe.data = .fields vs) → PSs (X.suite a ((a, oe) :: pn)) (b0 :: su) (tS G (Pm.suite G a cls d) fun r s => sems C r s hd) :=
        fun a oe cls d pn hz hf => sSs GO hd (o.su GO.E hz hf) h7
      show PS X _ (tS G g (tryM C.P kx nm (fun r s => sems C r s b) fun r s => sems C r s hd))
      rw [GO.C.P]
      cases nm with
      | none =>
        cases n with
        | none => exact ms_try_only o.x GO.E hno o.st o.fr (Gl_of o.toKOk h2) (nmB_ok h3).1 hm hb hsu
        | some n => cases h5
      | some i =>
        cases n with
        | none => cases h5
        | some n =>
          obtain ⟨h5, h8⟩ := Bool.and_eq_true_iff.mp (show (decide (c.N[i]? = some n) && decide (c.sc.names.lookup n = some .local)) = true from h5)
          exact ms_try_as o.x GO.E hno o.st o.fr o.nd (by rw [o.N]; exact of_decide_eq_true h5) (by show X.env.scope.names.lookup n = _; rw [o.sc]; exact of_decide_eq_true h8) (Gl_of o.toKOk h2) (nmB_ok h3).1 hm hb hsu
    · cases h
  | .raise kx, c, g, X, st, o, h => by
    have q := sRaise GO o.toKOk h
    rw [← GO.C.P] at q
    exact q
  | .nop, c, g, X, st, o, h => by
    have h : qNop st = true := h
    unfold qNop at h
    split at h
    · exact ms_nop ps_pass
    · exact ms_nop ps_doc
    · cases h
  | .deli _ _, c, g, X, st, o, h => by cases h
  | .raiseC _ _ _, c, g, X, st, o, h => by cases h
theorem sSs (GO : GOk G fi T C k base) : ∀ (cs : CSs) {c : KC} {g : Pm} {X : Cx} {l : List Stmt}, KOkS G k base c g X → cSs G.Q T cs c l = true → PSs X l (tS G g fun r s => sems C r s cs)
  | .nil, c, g, X, [], o, h => mss_nil
  | .nil, c, g, X, _ :: _, o, h => by cases h
  | .cons a r, c, g, X, [], o, h => by cases h
  | .cons a r, c, g, X, st :: l, o, h => by
    obtain ⟨h1, h2⟩ := Bool.and_eq_true_iff.mp (show (cS G.Q T a c st && cSs G.Q T r c l) = true from h)
    exact mss_cons (sS GO a o h1) (sSs GO r o h2)
end
end
end EW

set_option Elab.async false
set_option linter.all false
set_option maxRecDepth 100000
set_option maxHeartbeats 0
/-! M layer 19: a program's tables as data; its defs run by their meanings. -/
namespace EW
open PySem PySem.Spec PyProof.Rows L2

structure FT where
  ps : List Str
  N : List Str
  cs : CSs
structure CD where
  name : Str
  flds : List Nat
  meth : List (Nat × Nat)
  init : Option Nat
  plain : Bool
structure ED where
  name : Str
  can : Bool
  sub : List (Nat × Bool)
structure PD where
  defs : List He.DefD
  txt : List FT
  cls : List CD
  exc : List ED
  fN : List Str
  mN : List Str
  con : List (Str × D)
  free : List Str
  gfn : List (Str × Nat)
def lk {α β : Type} (l : List α) (i : Nat) (z : β) (f : α → β) : β := match l[i]? with
  | some x => f x
  | none => z
def nmOf (l : List Str) (i : Nat) : Str := lk l i "" id
def PD.prg (p : PD) : Prg where
  fns := p.txt.map fun t => ⟨t.ps.length, t.N.length, t.cs⟩
  meth := fun c m => lk p.cls c none fun d => d.meth.lookup m
  init := fun c => lk p.cls c none fun d => d.init
  plain := fun c => lk p.cls c false fun d => d.plain
  sub := fun x c => lk p.exc x none fun d => d.sub.lookup c
  xr := fun x => lk p.exc x false fun d => d.can
  con := fun g => lk p.con g .non fun d => d.2
  dfl := fun _ _ => []
  np := fun f => lk p.txt f 0 fun t => t.ps.length
  can := fun f n => decide (f < p.defs.length) && decide (n = lk p.txt f 0 fun t => t.ps.length)
  flds := fun c f => lk p.cls c false fun d => decide (f ∈ d.flds)
def ixs {α : Type} : List α → Nat → List (α × Nat)
  | [], _ => []
  | a :: r, i => (a, i) :: ixs r (i + 1)
theorem ixs_mem {α : Type} {a : α} {j : Nat} : ∀ {l : List α} {i : Nat}, (a, j) ∈ ixs l i → i ≤ j ∧ l[j - i]? = some a
  | [], i, h => by cases h
  | b :: r, i, h => by
    rcases List.mem_cons.mp h with h | h
    · cases h
      exact ⟨Nat.le_refl _, by simp⟩
    · obtain ⟨h1, h2⟩ := ixs_mem h
      refine ⟨by omega, ?_⟩
      have : j - i = (j - (i + 1)) + 1 := by omega
      rw [this, List.getElem?_cons_succ]
      exact h2
def PD.tab (p : PD) : Tab where
  fn := p.gfn
  cl := ixs (p.cls.map (·.name)) 0
  ex := ixs (p.exc.map (·.name)) 0
  con := ixs (p.con.map (·.1)) 0
  free := p.free
  fN := fun i => nmOf p.fN i
  mN := fun i => nmOf p.mN i
def PD.cN (p : PD) (i : Nat) : Str := lk p.cls i "" (·.name)
def PD.xN (p : PD) (i : Nat) : Str := lk p.exc i "" (·.name)
def PD.at_ (p : PD) (f : Nat) : Str × Option Str := lk p.defs f ("", none) (·.at_)

/-! ### facts -/
def conB (K : PySem.W.Frag) (x : Str) : D → Bool
  | .int i => (match PySem.W.nsIn K mainGlobals x with
    | some (some (.int j _)) => decide (j = i)
    | _ => false)
  | .str z => (match PySem.W.nsIn K mainGlobals x with
    | some (some (.str y _)) => decide (y = strOf z)
    | _ => false)
  | _ => false
def excCB (K : PySem.W.Frag) (D : Addr) : Bool :=
  He.eqO (PySem.W.findIn K (.ref D) "__getattribute__") (some (some (.builtin "BaseException.__getattribute__"))) && He.eqO (PySem.W.findIn K (.ref D) "__getattr__") (some none) && decide (PySem.W.subIn K (.ref D) (.type "BaseException") = some true) && PySem.W.hasDictIn K D &&
  He.eqO (PySem.W.findIn K (.ref D) "__class__") (some (some (.builtin "object.__class__"))) && He.eqO (PySem.W.specialIn K (.builtin "object.__class__") "__get__") (some (some (.builtin "getset_descriptor.__get__"))) && decide (PySem.W.takesIn K (.builtin "object.__class__") = some true) && decide (PySem.W.mroIn K D (.type "object") = some true)
theorem excCB_ok {K : PySem.W.Frag} {D : Addr} (h : excCB K D = true) : ExcC K D := by
  unfold excCB at h
  simp only [Bool.and_eq_true, decide_eq_true_eq] at h
  obtain ⟨⟨⟨⟨⟨⟨⟨h1, h2⟩, h3⟩, h4⟩, h5⟩, h6⟩, h7⟩, h8⟩ := h
  exact ⟨He.eqO_ok h1, He.eqO_ok h2, h3, h4, He.eqO_ok h5, He.eqO_ok h6, h7, h8⟩
def CD.ok (p : PD) (K : PySem.W.Frag) (d : CD) : Bool :=
  (He.Fa.glo d.name).ok K && (d.flds.isEmpty && d.meth.isEmpty || (He.Fa.cls d.name).ok K) && (d.flds.all fun f => (He.Fa.noat d.name (nmOf p.fN f)).ok K && d.meth.all fun m => decide (nmOf p.fN f ≠ nmOf p.mN m.1)) &&
  (d.meth.all fun m => (He.Fa.meth d.name (nmOf p.mN m.1)).ok K && decide (p.at_ m.2 = (d.name, some (nmOf p.mN m.1)))) &&
  (match d.init with
    | some f => (He.Fa.mkr d.name).ok K && decide (p.at_ f = (d.name, some ("__init__" : Str)))
    | none => true) &&
  (!d.plain || (PySem.W.makesIn K (He.ga K d.name) && He.eqO (PySem.W.findIn K (.ref (He.ga K d.name)) "__init__") (some (some (.builtin "object.__init__"))) && PySem.W.keepIn K (.ref (He.ga K d.name)))) &&
  (d.flds.all fun f => d.flds.all fun f' => decide (nmOf p.fN f = nmOf p.fN f' → f = f'))
def ED.ok (p : PD) (K : PySem.W.Frag) (d : ED) : Bool :=
  (He.Fa.glo d.name).ok K && (!d.can || (He.Fa.exc d.name).ok K) && (d.sub.isEmpty || excCB K (He.ga K d.name)) &&
  (d.sub.all fun q => (He.Fa.exm d.name (p.xN q.1) q.2).ok K && decide (PySem.W.kitOne K (.ref (He.ga K d.name)) (.ref (He.ga K (p.xN q.1))) = some q.2))
def PD.okB (p : PD) (K : PySem.W.Frag) : Bool :=
  (p.cls.all fun d => d.ok p K) && (p.exc.all fun d => d.ok p K) && (p.free.all fun x => (He.Fa.free x).ok K) && (p.con.all fun q => conB K q.1 q.2) &&
  (p.gfn.all fun q => (He.Fa.glo q.1).ok K && (He.Fa.keep q.1).ok K && decide (p.at_ q.2 = (q.1, none)))

/-! ### the hook -/
def obsM (p : PD) (K : PySem.W.Frag) : He.AlD := (p.okB K && p.defs.all fun d => d.ok K, p.defs.map fun d => He.fnW K d.at_)
def SaysM (p : PD) (K : PySem.W.Frag) : Prop := obsM p K = (true, p.defs.map He.DefD.val)
def obsMG (n : Nat) (p : PD) (g : Addr → Option Obj) : He.AlD := obsM p (He.frG g (He.asD g n))
def hookM (n : Nat) (p : PD) : PySem.W.Hook where
  α := He.AlD
  obs := fun s => obsMG n p s.heap.get?
  val := fun _ => (true, p.defs.map He.DefD.val)
  says := fun _ h => ∃ K : PySem.W.Frag, K.In h ∧ SaysM p K
  of := fun _ _ e => ⟨_, He.frG_in, e⟩
  keeps := fun _ _ _ ⟨K, hK, c⟩ k => ⟨K, PySem.W.Frag.In.keeps hK k, c⟩
theorem obsMG_eq {n : Nat} {p : PD} {g : Addr → Option Obj} {s : Shared} (h : ∀ a, g a = s.heap.get? a) : obsMG n p g = (hookM n p).obs s := by
  have e : g = s.heap.get? := funext h
  rw [e] <;> rfl
theorem SaysM.okB {p : PD} {K : PySem.W.Frag} (c : SaysM p K) : p.okB K = true :=
  (Bool.and_eq_true_iff.mp (show (p.okB K && p.defs.all fun d => d.ok K) = true from congrArg (fun z : He.AlD => z.1) c)).1
theorem SaysM.def_ {p : PD} {K : PySem.W.Frag} (c : SaysM p K) (i : Nat) {d : He.DefD} (h : p.defs[i]? = some d) : ∃ fd, FunD K d.name d.qual d.params d.body d.scope (d.dvs K) (d.kws K) (He.fAd K d.at_) fd := by
  have c2 := (Bool.and_eq_true_iff.mp (show (p.okB K && p.defs.all fun d => d.ok K) = true from congrArg (fun z : He.AlD => z.1) c)).2
  have e : p.defs.map (fun d => He.fnW K d.at_) = p.defs.map He.DefD.val := congrArg (fun z : He.AlD => z.2) c
  have e2 : (p.defs.map fun d => He.fnW K d.at_)[i]? = (p.defs.map He.DefD.val)[i]? := by rw [e]
  rw [List.getElem?_map, List.getElem?_map, h] at e2
  exact He.DefD.funD (Option.some.inj e2) (List.all_eq_true.mp c2 d (List.mem_of_getElem? h))
/-! ### parameters -/
theorem zip_look {L : List Str} {us : List Value} {n : Str} (hn : n ∈ L) (hl : us.length = L.length) : ((L.zip us).lookup n).isNone = false := by
  induction L generalizing us with
  | nil => cases hn
  | cons a r ih =>
    cases us with
    | nil => cases hl
    | cons u us =>
      rw [List.zip_cons_cons, List.lookup_cons]
      cases q : (n == a) with
      | true => rfl
      | false =>
        rcases List.mem_cons.mp hn with e | hn
        · subst e; simp at q
        · exact ih hn (by simpa using hl)
theorem zip_none {L : List Str} {us : List Value} (hl : us.length = L.length) : L.filter (fun n => ((L.zip us).lookup n).isNone) = [] := by
  rw [List.filter_eq_nil_iff]
  intro n hn
  rw [zip_look hn hl]
  simp
theorem zip_map : ∀ {L : List Str} {us : List Value} {M : List (Str × Value)}, L.Nodup → us.length = L.length → (∀ n ∈ L, M.lookup n = none) → L.filterMap (fun n => ((M ++ L.zip us).lookup n).map (n, ·)) = L.zip us
  | [], us, M, nd, hl, hM => rfl
  | a :: r, [], M, nd, hl, hM => by cases hl
  | a :: r, u :: us, M, nd, hl, hM => by
    have e1 : (M ++ (a :: r).zip (u :: us)).lookup a = some u := by
      rw [List.lookup_append, hM a List.mem_cons_self]
      simp [List.lookup_cons]
    rw [List.filterMap_cons, e1]
    have nd2 := List.nodup_cons.mp nd
    have e2 := zip_map (M := M ++ [(a, u)]) (us := us) nd2.2 (by simpa using hl) fun n hn => by
      have ne : (n == a) = false := beq_false_of_ne fun e => nd2.1 (e ▸ hn)
      rw [List.lookup_append, hM n (List.mem_cons_of_mem _ hn)]
      simp [List.lookup_cons, ne]
    rw [List.append_assoc] at e2
    show (a, u) :: r.filterMap (fun n => ((M ++ ((a, u) :: r.zip us)).lookup n).map (n, ·)) = (a, u) :: r.zip us
    exact congrArg _ e2
theorem zip_map0 {L : List Str} {us : List Value} (nd : L.Nodup) (hl : us.length = L.length) : L.filterMap (fun n => ((L.zip us).lookup n).map (n, ·)) = L.zip us := zip_map (M := []) nd hl fun _ _ => rfl
section
variable {x qual : Str} {a1 a2 a3 a4 a5 a6 a7 : Arg} {body : List Stmt} {scope : Scope}
theorem bd_1 (h : ([a1.arg] : List Str).Nodup) (kV doc pm : Value) (an : Option Addr) (cdv ct : Value) (u1 : Value) :
    bindArgs (PySem.W.fnOf x qual ⟨[], [a1], none, [], [], none, []⟩ body scope .none kV doc pm an cdv ct) ⟨[u1], []⟩ = pure (([a1.arg] : List Str).zip [u1]) := by
  unfold bindArgs
  show (if (!(([a1.arg] : List Str).filter (fun n => ((([a1.arg] : List Str).zip [u1]).lookup n).isNone)).isEmpty) = true then _ else _) = _
  rw [zip_none rfl]
  show (pure (([a1.arg] : List Str).filterMap (fun n => ((([a1.arg] : List Str).zip [u1]).lookup n).map (n, ·))) : Sem (List (Str × Value))) = _
  rw [zip_map0 h rfl]
theorem bd_2 (h : ([a1.arg, a2.arg] : List Str).Nodup) (kV doc pm : Value) (an : Option Addr) (cdv ct : Value) (u1 u2 : Value) :
    bindArgs (PySem.W.fnOf x qual ⟨[], [a1, a2], none, [], [], none, []⟩ body scope .none kV doc pm an cdv ct) ⟨[u1, u2], []⟩ = pure (([a1.arg, a2.arg] : List Str).zip [u1, u2]) := by
  unfold bindArgs
  show (if (!(([a1.arg, a2.arg] : List Str).filter (fun n => ((([a1.arg, a2.arg] : List Str).zip [u1, u2]).lookup n).isNone)).isEmpty) = true then _ else _) = _
  rw [zip_none rfl]
  show (pure (([a1.arg, a2.arg] : List Str).filterMap (fun n => ((([a1.arg, a2.arg] : List Str).zip [u1, u2]).lookup n).map (n, ·))) : Sem (List (Str × Value))) = _
  rw [zip_map0 h rfl]
theorem bd_3 (h : ([a1.arg, a2.arg, a3.arg] : List Str).Nodup) (kV doc pm : Value) (an : Option Addr) (cdv ct : Value) (u1 u2 u3 : Value) :
    bindArgs (PySem.W.fnOf x qual ⟨[], [a1, a2, a3], none, [], [], none, []⟩ body scope .none kV doc pm an cdv ct) ⟨[u1, u2, u3], []⟩ = pure (([a1.arg, a2.arg, a3.arg] : List Str).zip [u1, u2, u3]) := by
  unfold bindArgs
  show (if (!(([a1.arg, a2.arg, a3.arg] : List Str).filter (fun n => ((([a1.arg, a2.arg, a3.arg] : List Str).zip [u1, u2, u3]).lookup n).isNone)).isEmpty) = true then _ else _) = _
  rw [zip_none rfl]
  show (pure (([a1.arg, a2.arg, a3.arg] : List Str).filterMap (fun n => ((([a1.arg, a2.arg, a3.arg] : List Str).zip [u1, u2, u3]).lookup n).map (n, ·))) : Sem (List (Str × Value))) = _
  rw [zip_map0 h rfl]
theorem bd_4 (h : ([a1.arg, a2.arg, a3.arg, a4.arg] : List Str).Nodup) (kV doc pm : Value) (an : Option Addr) (cdv ct : Value) (u1 u2 u3 u4 : Value) :
    bindArgs (PySem.W.fnOf x qual ⟨[], [a1, a2, a3, a4], none, [], [], none, []⟩ body scope .none kV doc pm an cdv ct) ⟨[u1, u2, u3, u4], []⟩ = pure (([a1.arg, a2.arg, a3.arg, a4.arg] : List Str).zip [u1, u2, u3, u4]) := by
  unfold bindArgs
  show (if (!(([a1.arg, a2.arg, a3.arg, a4.arg] : List Str).filter (fun n => ((([a1.arg, a2.arg, a3.arg, a4.arg] : List Str).zip [u1, u2, u3, u4]).lookup n).isNone)).isEmpty) = true then _ else _) = _
  rw [zip_none rfl]
  show (pure (([a1.arg, a2.arg, a3.arg, a4.arg] : List Str).filterMap (fun n => ((([a1.arg, a2.arg, a3.arg, a4.arg] : List Str).zip [u1, u2, u3, u4]).lookup n).map (n, ·))) : Sem (List (Str × Value))) = _
  rw [zip_map0 h rfl]
theorem bd_5 (h : ([a1.arg, a2.arg, a3.arg, a4.arg, a5.arg] : List Str).Nodup) (kV doc pm : Value) (an : Option Addr) (cdv ct : Value) (u1 u2 u3 u4 u5 : Value) :
    bindArgs (PySem.W.fnOf x qual ⟨[], [a1, a2, a3, a4, a5], none, [], [], none, []⟩ body scope .none kV doc pm an cdv ct) ⟨[u1, u2, u3, u4, u5], []⟩ = pure (([a1.arg, a2.arg, a3.arg, a4.arg, a5.arg] : List Str).zip [u1, u2, u3, u4, u5]) := by
  unfold bindArgs
  show (if (!(([a1.arg, a2.arg, a3.arg, a4.arg, a5.arg] : List Str).filter (fun n => ((([a1.arg, a2.arg, a3.arg, a4.arg, a5.arg] : List Str).zip [u1, u2, u3, u4, u5]).lookup n).isNone)).isEmpty) = true then _ else _) = _
  rw [zip_none rfl]
  show (pure (([a1.arg, a2.arg, a3.arg, a4.arg, a5.arg] : List Str).filterMap (fun n => ((([a1.arg, a2.arg, a3.arg, a4.arg, a5.arg] : List Str).zip [u1, u2, u3, u4, u5]).lookup n).map (n, ·))) : Sem (List (Str × Value))) = _
  rw [zip_map0 h rfl]
theorem bd_6 (h : ([a1.arg, a2.arg, a3.arg, a4.arg, a5.arg, a6.arg] : List Str).Nodup) (kV doc pm : Value) (an : Option Addr) (cdv ct : Value) (u1 u2 u3 u4 u5 u6 : Value) :
    bindArgs (PySem.W.fnOf x qual ⟨[], [a1, a2, a3, a4, a5, a6], none, [], [], none, []⟩ body scope .none kV doc pm an cdv ct) ⟨[u1, u2, u3, u4, u5, u6], []⟩ = pure (([a1.arg, a2.arg, a3.arg, a4.arg, a5.arg, a6.arg] : List Str).zip [u1, u2, u3, u4, u5, u6]) := by
  unfold bindArgs
  show (if (!(([a1.arg, a2.arg, a3.arg, a4.arg, a5.arg, a6.arg] : List Str).filter (fun n => ((([a1.arg, a2.arg, a3.arg, a4.arg, a5.arg, a6.arg] : List Str).zip [u1, u2, u3, u4, u5, u6]).lookup n).isNone)).isEmpty) = true then _ else _) = _
  rw [zip_none rfl]
  show (pure (([a1.arg, a2.arg, a3.arg, a4.arg, a5.arg, a6.arg] : List Str).filterMap (fun n => ((([a1.arg, a2.arg, a3.arg, a4.arg, a5.arg, a6.arg] : List Str).zip [u1, u2, u3, u4, u5, u6]).lookup n).map (n, ·))) : Sem (List (Str × Value))) = _
  rw [zip_map0 h rfl]
theorem bd_7 (h : ([a1.arg, a2.arg, a3.arg, a4.arg, a5.arg, a6.arg, a7.arg] : List Str).Nodup) (kV doc pm : Value) (an : Option Addr) (cdv ct : Value) (u1 u2 u3 u4 u5 u6 u7 : Value) :
    bindArgs (PySem.W.fnOf x qual ⟨[], [a1, a2, a3, a4, a5, a6, a7], none, [], [], none, []⟩ body scope .none kV doc pm an cdv ct) ⟨[u1, u2, u3, u4, u5, u6, u7], []⟩ = pure (([a1.arg, a2.arg, a3.arg, a4.arg, a5.arg, a6.arg, a7.arg] : List Str).zip [u1, u2, u3, u4, u5, u6, u7]) := by
  unfold bindArgs
  show (if (!(([a1.arg, a2.arg, a3.arg, a4.arg, a5.arg, a6.arg, a7.arg] : List Str).filter (fun n => ((([a1.arg, a2.arg, a3.arg, a4.arg, a5.arg, a6.arg, a7.arg] : List Str).zip [u1, u2, u3, u4, u5, u6, u7]).lookup n).isNone)).isEmpty) = true then _ else _) = _
  rw [zip_none rfl]
  show (pure (([a1.arg, a2.arg, a3.arg, a4.arg, a5.arg, a6.arg, a7.arg] : List Str).filterMap (fun n => ((([a1.arg, a2.arg, a3.arg, a4.arg, a5.arg, a6.arg, a7.arg] : List Str).zip [u1, u2, u3, u4, u5, u6, u7]).lookup n).map (n, ·))) : Sem (List (Str × Value))) = _
  rw [zip_map0 h rfl]
end
def bdB (a : Arguments) (ps : List Str) : Bool := match a with
  | ⟨[], l, none, [], [], none, []⟩ => decide (l.map (·.arg) = ps) && decide (l.length ≤ 7) && decide ps.Nodup
  | _ => false
theorem bd_ok {x qual : Str} {a : Arguments} {body : List Stmt} {scope : Scope} {ps : List Str} (h : bdB a ps = true) (kV doc pm : Value) (an : Option Addr) (cdv ct : Value) (us : List Value) (hl : us.length = ps.length) :
    bindArgs (PySem.W.fnOf x qual a body scope .none kV doc pm an cdv ct) ⟨us, []⟩ = pure (ps.zip us) := by
  unfold bdB at h
  split at h
  · rename_i l
    simp only [Bool.and_eq_true, decide_eq_true_eq] at h
    obtain ⟨⟨rfl, h⟩, nd⟩ := h
    rcases l with _ | ⟨a1, _ | ⟨a2, _ | ⟨a3, _ | ⟨a4, _ | ⟨a5, _ | ⟨a6, _ | ⟨a7, _ | ⟨a8, l⟩⟩⟩⟩⟩⟩⟩⟩
    · match us, hl with | [], _ => rfl
    · match us, hl with | [_], _ => exact bd_1 nd kV doc pm an cdv ct _
    · match us, hl with | [_, _], _ => exact bd_2 nd kV doc pm an cdv ct _ _
    · match us, hl with | [_, _, _], _ => exact bd_3 nd kV doc pm an cdv ct _ _ _
    · match us, hl with | [_, _, _, _], _ => exact bd_4 nd kV doc pm an cdv ct _ _ _ _
    · match us, hl with | [_, _, _, _, _], _ => exact bd_5 nd kV doc pm an cdv ct _ _ _ _ _
    · match us, hl with | [_, _, _, _, _, _], _ => exact bd_6 nd kV doc pm an cdv ct _ _ _ _ _ _
    · match us, hl with | [_, _, _, _, _, _, _], _ => exact bd_7 nd kV doc pm an cdv ct _ _ _ _ _ _ _
    · simp at h
  · cases h
def scB (N ps : List Str) (sc : Scope) : Bool := (match sc.kind with
    | .function => true
    | _ => false) && !sc.isCoroutine && !sc.isGenerator && decide N.Nodup && decide (N.take ps.length = ps) && (ps.all fun x => decide (sc.names.lookup x = some .local) || decide (sc.names.lookup x = some .cell)) && sc.names.all fun y => decide (y.2 ≠ .free)
theorem scB_ok {N ps : List Str} {sc : Scope} (h : scB N ps sc = true) : FnScope N ps sc := by
  unfold scB at h
  simp only [Bool.and_eq_true, Bool.not_eq_true', decide_eq_true_eq] at h
  obtain ⟨⟨⟨⟨⟨⟨h1, h2⟩, h3⟩, h4⟩, h5⟩, h6⟩, h7⟩ := h
  refine ⟨?_, h2, h3, h4, h5, fun x hx => ?_, fun y hy => of_decide_eq_true (List.all_eq_true.mp h7 y hy)⟩
  · split at h1
    · assumption
    · cases h1
  · have q := List.all_eq_true.mp h6 x hx
    simp only [Bool.or_eq_true, decide_eq_true_eq] at q
    exact q
/-- one def's text says its meaning -/
def FT.ok (p : PD) (t : FT) (d : He.DefD) : Bool := bdB d.params t.ps && d.dfl.isEmpty && scB t.N t.ps d.scope && cSs p.prg p.tab t.cs ⟨d.scope, t.N, true, false, false⟩ d.body
def PD.ok (p : PD) (i : Nat) : Prop := ∀ (d : He.DefD) (t : FT), p.defs[i]? = some d → p.txt[i]? = some t → t.ok p d = true
structure PD.Ok (p : PD) : Prop where
  len : p.txt.length = p.defs.length
  all : ∀ i, p.ok i
theorem PD.ok_of {p : PD} (h1 : p.txt.length = p.defs.length) (h2 : ((p.txt.zip p.defs).all fun q => q.1.ok p q.2) = true) : p.Ok where
  len := h1
  all := fun i d t e1 e2 => by
    have : (t, d) ∈ p.txt.zip p.defs := by
      refine List.mem_of_getElem? (i := i) ?_
      rw [List.getElem?_zip_eq_some]
      exact ⟨e2, e1⟩
    exact List.all_eq_true.mp h2 _ this
end EW

set_option Elab.async false
set_option linter.all false
set_option maxRecDepth 100000
set_option maxHeartbeats 0
/-! M layer 20: the defs run by their meanings; a law's end. -/
namespace EW
open PySem PySem.Spec PyProof.Rows L2

section
variable {p : PD} {K : PySem.W.Frag} {mg : Str → Option Value} {h : Heap} {P : Program} {w : World}
def gbOf (p : PD) (P : Program) (w : World) (K : PySem.W.Frag) (mg : Str → Option Value) : Gb := ⟨P, w, K, mg, p.prg, fun c => He.ga K (p.cN c), fun c => He.ga K (p.xN c), fun i => nmOf p.fN i⟩
def fiOf (p : PD) (K : PySem.W.Frag) (fdf : Nat → FuncData) : Nat → FI := fun f => ⟨He.fAd K (p.at_ f), fdf f, lk p.txt f [] (·.ps)⟩
theorem lk_some {α β : Type} {l : List α} {i : Nat} {z : β} {f : α → β} {x : α} (h : l[i]? = some x) : lk l i z f = f x := by unfold lk; rw [h]
theorem lk_case {α β : Type} {l : List α} {i : Nat} {z : β} {f : α → β} {y : β} (h : lk l i z f = y) (hz : z ≠ y) : ∃ x, l[i]? = some x ∧ f x = y := by
  unfold lk at h
  cases q : l[i]? with
  | none => rw [q] at h; exact absurd h hz
  | some x => rw [q] at h; exact ⟨x, rfl, h⟩
structure OkB (p : PD) (K : PySem.W.Frag) : Prop where
  cls : ∀ d ∈ p.cls, d.ok p K = true
  exc : ∀ d ∈ p.exc, d.ok p K = true
  free : ∀ x ∈ p.free, (He.Fa.free x).ok K = true
  con : ∀ q ∈ p.con, conB K q.1 q.2 = true
  gfn : ∀ q ∈ p.gfn, (He.Fa.glo q.1).ok K = true ∧ (He.Fa.keep q.1).ok K = true ∧ p.at_ q.2 = (q.1, none)
theorem okB_of (c : p.okB K = true) : OkB p K := by
  unfold PD.okB at c
  simp only [Bool.and_eq_true, List.all_eq_true] at c
  obtain ⟨⟨⟨⟨h1, h2⟩, h3⟩, h4⟩, h5⟩ := c
  exact ⟨h1, h2, h3, h4, fun q hq => by
    have := h5 q hq
    simp only [decide_eq_true_eq] at this
    exact ⟨this.1.1, this.1.2, this.2⟩⟩
structure CDOk (p : PD) (K : PySem.W.Frag) (d : CD) : Prop where
  glo : (He.Fa.glo d.name).ok K = true
  cls : d.flds ≠ [] ∨ d.meth ≠ [] → Cls K (He.ga K d.name)
  noat : ∀ f ∈ d.flds, NoAttr K (He.ga K d.name) (nmOf p.fN f) ∧ ∀ m ∈ d.meth, nmOf p.fN f ≠ nmOf p.mN m.1
  meth : ∀ m ∈ d.meth, Meth K (He.ga K d.name) (nmOf p.mN m.1) (He.ma K (He.ga K d.name) (nmOf p.mN m.1)) ∧ p.at_ m.2 = (d.name, some (nmOf p.mN m.1))
  init : ∀ f, d.init = some f → Mk K (He.ga K d.name) (He.ma K (He.ga K d.name) "__init__") ∧ p.at_ f = (d.name, some ("__init__" : Str))
  plain : d.plain = true → PySem.W.makesIn K (He.ga K d.name) = true ∧ PySem.W.findIn K (.ref (He.ga K d.name)) "__init__" = some (some (.builtin "object.__init__")) ∧ PySem.W.keepIn K (.ref (He.ga K d.name)) = true
  inj : ∀ f ∈ d.flds, ∀ f' ∈ d.flds, nmOf p.fN f = nmOf p.fN f' → f = f'
theorem cdOk_of {d : CD} (c : d.ok p K = true) : CDOk p K d := by
  unfold CD.ok at c
  simp only [Bool.and_eq_true, List.all_eq_true, Bool.or_eq_true, decide_eq_true_eq] at c
  obtain ⟨⟨⟨⟨⟨⟨h1, h2⟩, h3⟩, h4⟩, h5⟩, h6⟩, h7⟩ := c
  refine ⟨h1, fun hn => ?_, fun f hf => ⟨He.noat_ok (h3 f hf).1, (h3 f hf).2⟩, fun m hm => ⟨He.meth_ok (h4 m hm).1, (h4 m hm).2⟩, fun f hf => ?_, fun hp => ?_, h7⟩
  · rcases h2 with ⟨h2, h3⟩ | h2
    · rw [List.isEmpty_iff] at h2 h3
      rcases hn with hn | hn
      · exact absurd h2 hn
      · exact absurd h3 hn
    · exact He.cls_ok h2
  · rw [hf] at h5
    simp only [Bool.and_eq_true, decide_eq_true_eq] at h5
    exact ⟨He.mkr_ok h5.1, h5.2⟩
  · rcases h6 with h6 | ⟨⟨h6, h8⟩, h9⟩
    · rw [hp] at h6; cases h6
    · exact ⟨h6, He.eqO_ok h8, h9⟩
structure EDOk (p : PD) (K : PySem.W.Frag) (d : ED) : Prop where
  glo : (He.Fa.glo d.name).ok K = true
  can : d.can = true → PySem.W.excIn K (He.ga K d.name) He.veBase "ValueError.__new__" = true ∧ PySem.W.keepIn K (.ref (He.ga K d.name)) = true ∧ PySem.W.subIn K (.ref (He.ga K d.name)) (.type "BaseException") = some true ∧ PySem.W.typeIn K (.ref (He.ga K d.name)) = some (.type "type")
  sub : ∀ q ∈ d.sub, ExcC K (He.ga K d.name) ∧ PySem.W.exmOne K (.ref (He.ga K d.name)) (.ref (He.ga K (p.xN q.1))) = some q.2 ∧ PySem.W.kitOne K (.ref (He.ga K d.name)) (.ref (He.ga K (p.xN q.1))) = some q.2
theorem edOk_of {d : ED} (c : d.ok p K = true) : EDOk p K d := by
  unfold ED.ok at c
  simp only [Bool.and_eq_true, List.all_eq_true, Bool.or_eq_true, decide_eq_true_eq] at c
  obtain ⟨⟨⟨h1, h2⟩, h3⟩, h4⟩ := c
  refine ⟨h1, fun hc => ?_, fun q hq => ⟨?_, He.exm_ok (h4 q hq).1, (h4 q hq).2⟩⟩
  · rcases h2 with h2 | h2
    · rw [hc] at h2; cases h2
    · exact He.exc_ok h2
  · rcases h3 with h3 | h3
    · rw [List.isEmpty_iff] at h3
      rw [h3] at hq
      cases hq
    · exact excCB_ok h3
theorem lookup_mem {α β : Type} [BEq α] [LawfulBEq α] {l : List (α × β)} {a : α} {b : β} (h : l.lookup a = some b) : (a, b) ∈ l := by
  induction l with
  | nil => cases h
  | cons x r ih =>
    obtain ⟨k, v⟩ := x
    rw [List.lookup_cons] at h
    cases q : (a == k) with
    | true =>
      rw [q] at h
      cases h
      rw [eq_of_beq q]
      exact List.mem_cons_self
    | false =>
      rw [q] at h
      exact List.mem_cons_of_mem _ (ih h)
theorem conB_ok {x : Str} {d : D} (KX : K.In h) (NS : h.Ns mainGlobals mg) (c : conB K x d = true) : ∃ u v, mg x = some u ∧ RelV v u ∧ ∀ m n H, RV m n H v d := by
  unfold conB at c
  cases d with
  | int i =>
    dsimp only at c
    split at c
    · rename_i j t q
      have := of_decide_eq_true c
      subst this
      exact ⟨_, .int j, PySem.W.mg_of KX NS q, ⟨_, rfl⟩, fun _ _ _ => rfl⟩
    · cases c
  | str z =>
    dsimp only at c
    split at c
    · rename_i j t q
      have := of_decide_eq_true c
      subst this
      exact ⟨_, .str (strOf z), PySem.W.mg_of KX NS q, ⟨_, rfl⟩, fun _ _ _ => rfl⟩
    · cases c
  | _ => cases c
theorem tabOk (KX : K.In h) (NS : h.Ns mainGlobals mg) (c : OkB p K) (fdf : Nat → FuncData) : TabOk (gbOf p P w K mg) (fiOf p K fdf) p.tab where
  fn := fun q hq => by
    obtain ⟨h1, h2, h3⟩ := c.gfn q hq
    have e : (fiOf p K fdf q.2).ad = He.ga K q.1 := by
      show He.fAd K (p.at_ q.2) = _
      rw [h3]
      rfl
    rw [e]
    exact ⟨He.glo_ok KX NS h1, He.keep_ok h2⟩
  cl := fun q hq => by
    obtain ⟨_, h1⟩ := ixs_mem (a := q.1) (j := q.2) hq
    rw [Nat.sub_zero, List.getElem?_map] at h1
    cases e : p.cls[q.2]? with
    | none => rw [e] at h1; cases h1
    | some d =>
      rw [e] at h1
      have h1 : d.name = q.1 := Option.some.inj h1
      have e2 : (gbOf p P w K mg).cA q.2 = He.ga K q.1 := by
        show He.ga K (lk p.cls q.2 "" (·.name)) = _
        rw [lk_some e, h1]
      rw [e2, ← h1]
      exact He.glo_ok KX NS (cdOk_of (c.cls d (List.mem_of_getElem? e))).glo
  ex := fun q hq => by
    obtain ⟨_, h1⟩ := ixs_mem (a := q.1) (j := q.2) hq
    rw [Nat.sub_zero, List.getElem?_map] at h1
    cases e : p.exc[q.2]? with
    | none => rw [e] at h1; cases h1
    | some d =>
      rw [e] at h1
      have h1 : d.name = q.1 := Option.some.inj h1
      have e2 : (gbOf p P w K mg).xA q.2 = He.ga K q.1 := by
        show He.ga K (lk p.exc q.2 "" (·.name)) = _
        rw [lk_some e, h1]
      rw [e2, ← h1]
      exact He.glo_ok KX NS (edOk_of (c.exc d (List.mem_of_getElem? e))).glo
  con := fun q hq => by
    obtain ⟨_, h1⟩ := ixs_mem (a := q.1) (j := q.2) hq
    rw [Nat.sub_zero, List.getElem?_map] at h1
    cases e : p.con[q.2]? with
    | none => rw [e] at h1; cases h1
    | some d =>
      rw [e] at h1
      have h1 : d.1 = q.1 := Option.some.inj h1
      have e2 : (gbOf p P w K mg).Q.con q.2 = d.2 := lk_some e
      rw [e2, ← h1]
      exact conB_ok KX NS (c.con d (List.mem_of_getElem? e))
  free := fun x hx => He.free_ok KX NS (c.free x hx)
  fN := rfl
theorem fOk (c : OkB p K) : FOk (gbOf p P w K mg) where
  cls := fun cc f hf => by
    obtain ⟨d, e1, e2⟩ := lk_case (show lk p.cls cc false (fun d => decide (f ∈ d.flds)) = true from hf) (by simp)
    have q := cdOk_of (c.cls d (List.mem_of_getElem? e1))
    have e2 := of_decide_eq_true e2
    have e3 : (gbOf p P w K mg).cA cc = He.ga K d.name := by
      show He.ga K (lk p.cls cc "" (·.name)) = _
      rw [lk_some e1]
    rw [e3]
    exact ⟨q.cls (.inl fun z => by rw [z] at e2; cases e2), (q.noat f e2).1⟩
  inj := fun cc f f' hf hf' hn => by
    obtain ⟨d, e1, e2⟩ := lk_case (show lk p.cls cc false (fun d => decide (f ∈ d.flds)) = true from hf) (by simp)
    obtain ⟨d', e3, e4⟩ := lk_case (show lk p.cls cc false (fun d => decide (f' ∈ d.flds)) = true from hf') (by simp)
    rw [e1] at e3; cases e3
    exact (cdOk_of (c.cls d (List.mem_of_getElem? e1))).inj f (of_decide_eq_true e2) f' (of_decide_eq_true e4) hn
theorem eOk (c : OkB p K) : EOk (gbOf p P w K mg) where
  can := fun cc hf => by
    obtain ⟨d, e1, e2⟩ := lk_case (show lk p.exc cc false (fun d => d.can) = true from hf) (by simp)
    have e3 : (gbOf p P w K mg).xA cc = He.ga K d.name := by
      show He.ga K (lk p.exc cc "" (·.name)) = _
      rw [lk_some e1]
    rw [e3]
    exact (edOk_of (c.exc d (List.mem_of_getElem? e1))).can e2
  sub := fun x cc b hf => by
    obtain ⟨d, e1, e2⟩ := lk_case (show lk p.exc x none (fun d => d.sub.lookup cc) = some b from hf) (by simp)
    have e3 : (gbOf p P w K mg).xA x = He.ga K d.name := by
      show He.ga K (lk p.exc x "" (·.name)) = _
      rw [lk_some e1]
    rw [e3]
    obtain ⟨h1, h2, h3⟩ := (edOk_of (c.exc d (List.mem_of_getElem? e1))).sub _ (lookup_mem e2)
    exact ⟨h2, h3, h1⟩
theorem fns_of (c : SaysM p K) (hd : p.defs ≠ []) : ∃ fdf : Nat → FuncData, ∀ (i : Nat) (d : He.DefD), p.defs[i]? = some d → FunD K d.name d.qual d.params d.body d.scope (d.dvs K) (d.kws K) (He.fAd K d.at_) (fdf i) := by
  have : ∀ i : Nat, ∃ fd, ∀ d : He.DefD, p.defs[i]? = some d → FunD K d.name d.qual d.params d.body d.scope (d.dvs K) (d.kws K) (He.fAd K d.at_) fd := fun i => by
    cases q : p.defs[i]? with
    | some d =>
      obtain ⟨fd, F⟩ := c.def_ i q
      exact ⟨fd, fun d' e => by cases e; exact F⟩
    | none =>
      cases q2 : p.defs with
      | nil => exact absurd q2 hd
      | cons d0 r =>
        obtain ⟨fd, F⟩ := c.def_ 0 (d := d0) (by rw [q2]; rfl)
        exact ⟨fd, fun d' e => by cases e⟩
  exact ⟨fun i => Classical.choose (this i), fun i => Classical.choose_spec (this i)⟩
/-- the check of one def, told -/
theorem ft_of {t : FT} {d : He.DefD} (c : t.ok p d = true) : bdB d.params t.ps = true ∧ d.dfl = [] ∧ FnScope t.N t.ps d.scope ∧ cSs p.prg p.tab t.cs ⟨d.scope, t.N, true, false, false⟩ d.body = true := by
  unfold FT.ok at c
  simp only [Bool.and_eq_true] at c
  obtain ⟨⟨⟨h1, h2⟩, h3⟩, h4⟩ := c
  exact ⟨h1, List.isEmpty_iff.mp h2, scB_ok h3, h4⟩
theorem binds_of {fdf : Nat → FuncData} (O : p.Ok) (F : ∀ (i : Nat) (d : He.DefD), p.defs[i]? = some d → FunD K d.name d.qual d.params d.body d.scope (d.dvs K) (d.kws K) (He.fAd K d.at_) (fdf i)) {f : Nat} (hf : f < p.defs.length) :
    Binds K (fdf f) (lk p.txt f [] (·.ps)) [] := by
  obtain ⟨d, e1⟩ : ∃ d, p.defs[f]? = some d := ⟨p.defs[f], by simp [hf]⟩
  obtain ⟨t, e2⟩ : ∃ t, p.txt[f]? = some t := ⟨p.txt[f]'(by rw [O.len]; exact hf), by simp⟩
  obtain ⟨h1, h2, _, _⟩ := ft_of (O.all f d t e1 e2)
  rw [lk_some e2]
  have q := F f d e1
  have e3 : d.dvs K = [] := by unfold He.DefD.dvs; rw [h2]; rfl
  rw [e3] at q
  exact q.bindsN (bd_ok h1)
theorem dOk {fdf : Nat → FuncData} (O : p.Ok) (c : OkB p K) (F : ∀ (i : Nat) (d : He.DefD), p.defs[i]? = some d → FunD K d.name d.qual d.params d.body d.scope (d.dvs K) (d.kws K) (He.fAd K d.at_) (fdf i)) : DOk (gbOf p P w K mg) (fiOf p K fdf) p.tab.mN where
  np := fun f => by
    show lk p.txt f 0 (fun t => t.ps.length) = (lk p.txt f [] (·.ps)).length
    unfold lk
    cases p.txt[f]? <;> rfl
  bind := fun f n hc => by
    have hc : (decide (f < p.defs.length) && decide (n = lk p.txt f 0 fun t => t.ps.length)) = true := hc
    simp only [Bool.and_eq_true, decide_eq_true_eq] at hc
    exact ⟨[], [], binds_of O F hc.1, .nil, fun _ _ _ => by show RVs _ _ _ [] []; unfold RVs; rfl⟩
  meth := fun cc k f hm => by
    obtain ⟨d, e1, e2⟩ := lk_case (show lk p.cls cc none (fun d => d.meth.lookup k) = some f from hm) (by simp)
    have q := cdOk_of (c.cls d (List.mem_of_getElem? e1))
    have e3 : (gbOf p P w K mg).cA cc = He.ga K d.name := by
      show He.ga K (lk p.cls cc "" (·.name)) = _
      rw [lk_some e1]
    have e4 := lookup_mem e2
    obtain ⟨h1, h2⟩ := q.meth _ e4
    rw [e3]
    have e5 : (fiOf p K fdf f).ad = He.ma K (He.ga K d.name) (nmOf p.mN k) := by
      show He.fAd K (p.at_ f) = _
      rw [h2]
      rfl
    rw [e5]
    refine ⟨q.cls (.inr fun z => by rw [z] at e4; cases e4), h1, fun x hx => ?_⟩
    obtain ⟨d', e6, e7⟩ := lk_case (show lk p.cls cc false (fun d => decide (x ∈ d.flds)) = true from hx) (by simp)
    rw [e1] at e6; cases e6
    exact (q.noat x (of_decide_eq_true e7)).2 _ e4
  init := fun cc f hm => by
    obtain ⟨d, e1, e2⟩ := lk_case (show lk p.cls cc none (fun d => d.init) = some f from hm) (by simp)
    have q := cdOk_of (c.cls d (List.mem_of_getElem? e1))
    have e3 : (gbOf p P w K mg).cA cc = He.ga K d.name := by
      show He.ga K (lk p.cls cc "" (·.name)) = _
      rw [lk_some e1]
    obtain ⟨h1, h2⟩ := q.init f e2
    have e5 : (fiOf p K fdf f).ad = He.ma K (He.ga K d.name) "__init__" := by
      show He.fAd K (p.at_ f) = _
      rw [h2]
      rfl
    rw [e3, e5]
    exact h1
  plain := fun cc hm => by
    obtain ⟨d, e1, e2⟩ := lk_case (show lk p.cls cc false (fun d => d.plain) = true from hm) (by simp)
    have e3 : (gbOf p P w K mg).cA cc = He.ga K d.name := by
      show He.ga K (lk p.cls cc "" (·.name)) = _
      rw [lk_some e1]
    rw [e3]
    exact (cdOk_of (c.cls d (List.mem_of_getElem? e1))).plain e2
theorem un200 {a b c : Nat} (h : a + b + 200 < c) : a + 64 < c := by omega
/-- at the entry -/
theorem RE_start {chi : Addr → Exn → Prop} {m : Mp} {n : Nat} {H : Hp} {N : List Str} {vs : List V} {ds : List D} (hv : RVs m n H vs ds) : RE chi m n H (L2.start N vs) (EW.start N.length ds) := by
  have hl := hv.len
  refine ⟨?_, fun i d q => ?_, fun i x q => ?_⟩
  · show (vs.map some ++ List.replicate (N.length - vs.length) none).length = (ds.map Slot.val ++ List.replicate (N.length - ds.length) Slot.non).length
    simp [hl]
  · have q : (ds.map Slot.val ++ List.replicate (N.length - ds.length) Slot.non)[i]? = some (.val d) := q
    by_cases hi : i < ds.length
    · rw [List.getElem?_append_left (by simpa using hi), List.getElem?_map] at q
      cases e : ds[i]? with
      | none => rw [e] at q; cases q
      | some d' =>
        rw [e] at q
        cases q
        obtain ⟨v, h1, h2⟩ := hv.at_ e
        refine ⟨v, ?_, h2⟩
        show (vs.map some ++ List.replicate (N.length - vs.length) none)[i]? = _
        rw [List.getElem?_append_left (by simp [hl, hi]), List.getElem?_map, h1]
        rfl
    · rw [List.getElem?_append_right (by simpa using hi), List.getElem?_replicate] at q
      split at q <;> cases q
  · have q : (ds.map Slot.val ++ List.replicate (N.length - ds.length) Slot.non)[i]? = some (.exc x) := q
    by_cases hi : i < ds.length
    · rw [List.getElem?_append_left (by simpa using hi), List.getElem?_map] at q
      cases e : ds[i]? with
      | none => rw [e] at q; cases q
      | some d' => rw [e] at q; cases q
    · rw [List.getElem?_append_right (by simpa using hi), List.getElem?_replicate] at q
      split at q <;> cases q
theorem callAll {L : Nat} (KX : K.In h) (NS : h.Ns mainGlobals mg) (O : p.Ok) (c : OkB p K) {fdf : Nat → FuncData} (F : ∀ (i : Nat) (d : He.DefD), p.defs[i]? = some d → FunD K d.name d.qual d.params d.body d.scope (d.dvs K) (d.kws K) (He.fAd K d.at_) (fdf i)) (base : Heap) :
    ∀ n, CalOk (gbOf p P w K mg) (fiOf p K fdf) ⟨p.prg, L, run p.prg L n⟩ (2 * n) base
  | 0 => ⟨rfl, fun f => ⟨fun vs H Q E ⟨_, m, s, ds, _, _, q⟩ => q.elim, fun A outer s H args us vs Q E _ _ _ _ ⟨_, m, s', ds, _, _, q⟩ => q.elim⟩⟩
  | n + 1 => by
    have ih := callAll (L := L) KX NS O c F base n
    have GO : GOk (gbOf p P w K mg) (fiOf p K fdf) p.tab ⟨p.prg, L, run p.prg L n⟩ (2 * n) base := ⟨tabOk KX NS c fdf, fOk c, dOk O c F, eOk c, ih⟩
    refine ⟨rfl, fun f => ?_⟩
    cases e2 : p.txt[f]? with
    | none =>
      have no : ∀ vs H Q E, ¬ spM (gbOf p P w K mg) ((gbOf p P w K mg).Q.np f) (run p.prg L (n + 1) f) vs H Q E := fun vs H Q E ⟨_, m, s, ds, _, _, q⟩ => by
        unfold run at q
        have e3 : p.prg.fns[f]? = none := by
          show (p.txt.map _)[f]? = none
          rw [List.getElem?_map, e2]
          rfl
        rw [e3] at q
        exact q
      exact ⟨fun vs H Q E q => (no _ _ _ _ q).elim, fun A outer s H args us vs Q E _ _ _ _ q => (no _ _ _ _ q).elim⟩
    | some t =>
      have hf : f < p.defs.length := by rw [← O.len]; exact (List.getElem?_eq_some_iff.mp e2).1
      obtain ⟨d, e1⟩ : ∃ d, p.defs[f]? = some d := ⟨p.defs[f], by simp [hf]⟩
      obtain ⟨h1, h2, h3, h4⟩ := ft_of (O.all f d t e1 e2)
      have e3 : p.prg.fns[f]? = some ⟨t.ps.length, t.N.length, t.cs⟩ := by
        show (p.txt.map _)[f]? = _
        rw [List.getElem?_map, e2]
        rfl
      have e4 : (gbOf p P w K mg).Q.np f = t.ps.length := lk_some e2
      have e5 : fiOf p K fdf f = ⟨He.fAd K d.at_, fdf f, t.ps⟩ := by
        show (⟨He.fAd K (lk p.defs f ("", none) (·.at_)), fdf f, lk p.txt f [] (·.ps)⟩ : FI) = _
        rw [lk_some e1, lk_some e2]
      rw [e5, e4]
      refine FunD.ok (N := t.N) (F f d e1) h3 (fun vs H Q E ⟨q, _⟩ => q) fun cdv A outer s H vs Q E hr ⟨hl, m, s0, ds, R, hv, Pq⟩ => ?_
      have e6 : run p.prg L (n + 1) f ds s0 = endOf (sems ⟨p.prg, L, run p.prg L n⟩ (start t.N.length ds) s0 t.cs) := by
        show (match p.prg.fns[f]? with
          | some q => if ds.length = q.np then endOf (sems ⟨p.prg, L, run p.prg L n⟩ (start q.ns ds) s0 q.body) else .no
          | none => .no) = _
        rw [e3]
        dsimp only
        rw [if_pos (by rw [← hv.len]; exact hl)]
      have Pq : Post (gbOf p P w K mg) m s0 H (fun x m' s' H' => ∀ cls dd, XR (gbOf p P w K mg) m' s'.length H' cls dd x → E cls dd H') (run p.prg L (n + 1) f ds s0) (fun d m' s' H' => ∀ v, RV m' s'.length H' v d → Q v H') := Pq
      rw [e6] at Pq
      let X := cxOf (L2.CX P w) P w K mg base t.N d.qual d.scope (He.fAd K d.at_) cdv A outer s H E
      let g : Pm := ⟨fun cls dd _ H' => E cls dd H', fun _ _ => False⟩
      have ox : XOk (gbOf p P w K mg) g X := ⟨rfl, rfl, rfl, rfl, takes_of (X := X) (E := E) (E₁ := fun e' s'' => L2.CX P w outer H s E e' s'') rfl rfl rfl rfl, fun _ _ _ _ z => z.elim⟩
      have ok : KOkS (gbOf p P w K mg) (2 * n) base ⟨d.scope, t.N, true, false, false⟩ g X := ⟨⟨ox, rfl, h3.kind, rfl, h3.nd, fun _ => rfl, fun _ => hr, un200 hr.un, rfl, fun _ _ _ z => z, fun _ _ => rfl⟩, rfl, rfl,
        fun _ => passes_of (X := X) (K := fun e s'' => L2.CX P w outer H s E e s'') (E₁ := fun e' s'' => L2.CX P w outer H s E e' s'') rfl⟩
      refine ⟨_, sSs GO t.cs ok h4, m, start t.N.length ds, s0, R, RE_start hv, ?_⟩
      show PostS (gbOf p P w K mg) g m s0 H (sems ⟨p.prg, L, run p.prg L n⟩ (start t.N.length ds) s0 t.cs) _
      cases q : sems ⟨p.prg, L, run p.prg L n⟩ (start t.N.length ds) s0 t.cs with
      | nx r s1 =>
        rw [q] at Pq
        exact fun m1 a1 H1 e1 R1 _ => Pq m1 H1 e1 R1 .non (by unfold RV; rfl)
      | rt d1 s1 =>
        rw [q] at Pq
        exact fun m1 H1 v e1 R1 hv1 => Pq m1 H1 e1 R1 v hv1
      | ex x r s1 =>
        rw [q] at Pq
        exact fun m1 a1 H1 cls dd e1 R1 _ hx => Pq m1 H1 e1 R1 cls dd hx
      | no => rw [q] at Pq; exact Pq
end

/-! ### a law's end -/
/-- what is left to show: the law's meaning says True -/
def LawHolds (p : PD) (f : Nat) (n L : Nat) : Prop := ∀ xs : List Int, xs.length ≤ 63 → (∀ z ∈ xs, Builtin.Int.intBits z ≤ 1048576) → ∃ s', run p.prg L n f [.ref 0] [.rol (xs.map .int)] = .ok (.bl true) s'
theorem rvs_ints {m : Mp} {n : Nat} {H : Hp} : ∀ xs : List Int, RVs m n H (xs.map V.int) (xs.map EW.D.int)
  | [] => by show RVs m n H [] []; unfold RVs; rfl
  | x :: xs => by
    show RVs m n H (V.int x :: xs.map V.int) (EW.D.int x :: xs.map EW.D.int)
    unfold RVs
    exact ⟨_, _, rfl, rfl, rvs_ints xs⟩
theorem law_sp {G : Gb} {H : Hp} {a : Addr} {xs : List Int} {f n L : Nat} {P' : Prg} (hl : xs.length ≤ 63) (hO : Only H) (hS : SqL G.K H a (xs.map V.int)) (h : ∃ s', run P' L n f [.ref 0] [.rol (xs.map .int)] = .ok (.bl true) s') :
    spM G 1 (run P' L n f) [.ref a] H (fun v _ => v = .bl true) fun _ _ _ => False := by
  obtain ⟨s', h⟩ := h
  refine ⟨rfl, fun _ => a, [.rol (xs.map .int)], [.ref 0], ⟨fun i j o o' h1 h2 h3 h4 _ => ?_, fun i o h1 => ?_⟩, ?_, ?_⟩
  · cases i with
    | zero => cases h1; cases h3
    | succ i => simp at h1
  · cases i with
    | zero =>
      cases h1
      refine ⟨by rw [List.length_map, sizeLine_eq]; omega, xs.map V.int, ?_, rvs_ints xs⟩
      rcases hS with (hS | hS) | hS
      · rcases hO a with q | ⟨o, ys, q⟩
        · rw [hS] at q; cases q
        · rw [hS] at q; cases q
      · exact .inl hS
      · exact .inr fun H' => .inr hS
    | succ i => simp at h1
  · unfold RVs
    refine ⟨.ref a, [], rfl, ?_, by unfold RVs; rfl⟩
    unfold RV
    exact ⟨by simp, rfl⟩
  · rw [h]
    intro m1 H1 e1 R1 v hv
    exact hv
/-- a law over the layer: the head's facts, the meaning -/
theorem walk_m {l : PySem.W.OpenLaw} {p : PD} {q : Program} {loose : List Str} {XP : (Str → Option Value) → Heap → Prop} {d : DefRec} {f n L : Nat} {x : Str}
    (hn : l.most = some 63) (hdf : d.params.defaults = []) (hr : Room (2 * n) callerA) (O : p.Ok) (hg : (d.name, f) ∈ p.gfn) (hps : (p.txt[f]?).map (·.ps) = some [x]) (h : LawHolds p f n L) :
    PySem.W.WalkO q loose XP (fun _ h => ∃ K : PySem.W.Frag, K.In h ∧ SaysM p K) l.row.toRowW d [] (fun f vs => PySem.call f vs) := by
  refine Att.attach_callB hn hdf fun w s₀ s₁ mg mb fa o pm cd doc a vs ns G Y ho hd hcd hmg hobj hints hlen hbits hgen => ?_
  obtain ⟨K, KX, c⟩ := Y
  have cb := okB_of c.okB
  have hf : f < p.txt.length := by
    cases e : p.txt[f]? with
    | none => rw [e] at hps; cases hps
    | some t => exact (List.getElem?_eq_some_iff.mp e).1
  have hf2 : f < p.defs.length := by rw [← O.len]; exact hf
  have hd0 : p.defs ≠ [] := fun z => by rw [z] at hf2; cases hf2
  obtain ⟨fdf, F⟩ := fns_of c hd0
  obtain ⟨t, e2⟩ : ∃ t, p.txt[f]? = some t := ⟨p.txt[f], by simp [hf]⟩
  rw [e2] at hps
  have hps : t.ps = [x] := Option.some.inj hps
  obtain ⟨g1, g2, g3⟩ := cb.gfn _ hg
  have e3 : fa = He.fAd K (p.at_ f) := by
    rw [g3]
    have := hmg.symm.trans (He.glo_ok KX G.T.g g1)
    cases this
    rfl
  have hb := binds_of O F hf2
  rw [lk_some e2, hps] at hb
  refine law_call (CX := L2.CX l.prog w) (k := 2 * n) (x := x) (fd := fdf f) (sp := spM (gbOf p l.prog w K mg) 1 (run p.prg L n f)) KX G.T.g G.T.b G.T.builtins G.T.nolimit hgen hobj hints (Nat.le_trans hlen (by rw [sizeLine_eq]; omega)) hr (fun base Kb nsb => ?_) (fun s u => ?_) (fun H hO hS => law_sp hlen hO hS (h ns hlen hbits)) ?_
  · have q := (callAll (P := l.prog) (w := w) (L := L) KX G.T.g O cb F base n).fn f
    have e5 : fiOf p K fdf f = ⟨fa, fdf f, [x]⟩ := by
      show (⟨He.fAd K (p.at_ f), fdf f, lk p.txt f [] (·.ps)⟩ : FI) = _
      rw [lk_some e2, hps, e3]
    have e4 : (gbOf p l.prog w K mg).Q.np f = 1 := by
      show lk p.txt f 0 (fun t => t.ps.length) = 1
      rw [lk_some e2, hps]
      rfl
    rw [e5, e4] at q
    exact q
  · obtain ⟨d1, e1⟩ : ∃ d, p.defs[f]? = some d := ⟨p.defs[f], by simp [hf2]⟩
    obtain ⟨h1, h2, _, _⟩ := ft_of (O.all f d1 t e1 e2)
    have qF := F f d1 e1
    have e4 : d1.dvs K = [] := by unfold He.DefD.dvs; rw [h2]; rfl
    rw [e4] at qF
    have := qF.bindsA (bd_ok h1) s [u] (by rw [hps]; rfl)
    rw [hps] at this
    exact this
  · intro H e s' z
    obtain ⟨_, _, _, _, _, _, _, _, _, _, _, _, z⟩ := z
    exact z
end EW

set_option Elab.async false
set_option linter.all false
set_option maxRecDepth 100000
set_option maxHeartbeats 0
/-! M layer 21: reckoning with the meaning, from the wish back. -/
namespace EW
open PySem

/-- what a run's end is wished to be; a wall for the reckoner -/
def resP {α : Type} (q : Res α) (K : α → Sto → Prop) (E : Exn → Sto → Prop) : Prop := match q with
  | .ok a s => K a s
  | .exc x s => E x s
  | .no => False
structure Wp {α : Type} (q : Res α) (K : α → Sto → Prop) (E : Exn → Sto → Prop) : Prop where
  go : resP q K E
def sresP (q : SRes) (N : Env → Sto → Prop) (R : D → Sto → Prop) (E : Exn → Env → Sto → Prop) : Prop := match q with
  | .nx r s => N r s
  | .rt d s => R d s
  | .ex x r s => E x r s
  | .no => False
structure Ws (q : SRes) (N : Env → Sto → Prop) (R : D → Sto → Prop) (E : Exn → Env → Sto → Prop) : Prop where
  go : sresP q N R E
/-- between two statements -/
structure Nxt (p : Prop) : Prop where
  go : p
def iteP (b : Bool) (p q : Prop) : Prop := (b = true → p) ∧ (b = false → q)
section
variable (E : Exn → Sto → Prop)
def binP (op : BO) (a b : D) (K : D → Sto → Prop) (s : Sto) : Prop := match op, a, b with
  | .mul, .int i, .int j => mulOk i j = true ∧ K (.int (i * j)) s
  | .fdiv, .int i, .int j => (0 < j ∧ j.natAbs.log2 < 9000) ∧ K (.int (i / j)) s
  | .mod, .int i, .int j => 0 < j ∧ K (.int (i % j)) s
  | .pow, .int i, .int j => (0 ≤ j ∧ j ≤ 1000000 ∧ i.natAbs < 2 ^ 64) ∧ K (.int (i ^ j.toNat)) s
  | .shl, .int i, .int j => (0 ≤ j ∧ (Builtin.Int.intBits i : Int) + j ≤ 2 ^ 27) ∧ K (.int (i * 2 ^ j.toNat)) s
  | .shr, .int i, .int j => 0 ≤ j ∧ K (.int (i / 2 ^ j.toNat)) s
  | .mul, .str x, .int j => (0 ≤ j ∧ j ≤ sizeLine ∧ x.length * j.toNat ≤ sizeLine) ∧ K (.str (List.replicate j.toNat x).flatten) s
  | .add, .ref m, .ref n => ∃ x y, s[m]? = some (.lst x) ∧ s[n]? = some (.lst y) ∧ x.length + y.length ≤ sizeLine ∧ K (.ref s.length) (s ++ [.lst (x ++ y)])
  | op, a, b => resP (bin op a b s) K E
theorem binP_ok {op : BO} {a b : D} {K : D → Sto → Prop} {s : Sto} (h : binP E op a b K s) : resP (bin op a b s) K E := by
  unfold binP at h
  split at h
  case h_8 m n =>
    obtain ⟨x, y, h1, h2, h3, h4⟩ := h
    show resP (match s[m]?, s[n]? with
      | some (.lst x), some (.lst y) => if x.length + y.length ≤ sizeLine then .ok (.ref s.length) (s ++ [.lst (x ++ y)]) else .no
      | _, _ => .no : Res D) K E
    rw [h1, h2]
    dsimp only
    rw [if_pos h3]
    exact h4
  case h_9 => exact h
  all_goals
    obtain ⟨h1, h2⟩ := h
    unfold bin
    dsimp only
    rw [if_pos h1]
    exact h2
def eqP (a b : D) (K : Bool → Prop) (s : Sto) : Prop := ∃ k, peq s a b = some k ∧ K k
def cmpP (op : CO) (a b : D) (K : D → Sto → Prop) (s : Sto) : Prop := match op with
  | .eq => eqP a b (fun k => K (.bl k) s) s
  | .ne => eqP a b (fun k => K (.bl (!k)) s) s
  | .lt => (match a, b with
    | .int i, .int j => K (.bl (decide (i < j))) s
    | _, _ => False)
  | .le => (match a, b with
    | .int i, .int j => K (.bl (decide (i ≤ j))) s
    | _, _ => False)
  | .gt => (match a, b with
    | .int i, .int j => K (.bl (decide (j < i))) s
    | _, _ => False)
  | .ge => (match a, b with
    | .int i, .int j => K (.bl (decide (j ≤ i))) s
    | _, _ => False)
  | op => resP (cmp op a b s) K E
theorem peq_int (s : Sto) (i j : Int) : peq s (.int i) (.int j) = some (decide (i = j)) := by
  unfold peq toPd
  dsimp only
  rw [if_pos (by rfl)]
  congr 1
theorem eqP_ok {a b : D} {K : Bool → Prop} {s : Sto} (h : eqP a b K s) : ∃ k, peq s a b = some k ∧ K k := h
theorem cmpP_ok {op : CO} {a b : D} {K : D → Sto → Prop} {s : Sto} (h : cmpP E op a b K s) : resP (cmp op a b s) K E := by
  unfold cmpP at h
  split at h
  · obtain ⟨k, h1, h2⟩ := eqP_ok h
    unfold cmp
    dsimp only
    rw [h1]
    exact h2
  · obtain ⟨k, h1, h2⟩ := eqP_ok h
    unfold cmp
    dsimp only
    rw [h1]
    exact h2
  case h_7 => exact h
  all_goals
    split at h
    · exact h
    · exact h.elim
def itemP (o i : D) (K : D → Sto → Prop) (s : Sto) : Prop := match o, i with
  | .ref m, .int j => ∃ xs d, lstAt s m = some xs ∧ L2.atI xs j = some d ∧ K d s
  | .tup xs, .int j => ∃ d, L2.atI xs j = some d ∧ K d s
  | o, i => resP (item o i s) K E
theorem itemP_ok {o i : D} {K : D → Sto → Prop} {s : Sto} (h : itemP E o i K s) : resP (item o i s) K E := by
  unfold itemP at h
  split at h
  · rename_i m j
    obtain ⟨xs, d, h1, h2, h3⟩ := h
    unfold lstAt at h1
    split at h1
    · rename_i ys q
      cases h1
      unfold item
      dsimp only
      rw [q]
      dsimp only
      rw [h2]
      exact h3
    · rename_i ys q
      cases h1
      unfold item
      dsimp only
      rw [q]
      dsimp only
      rw [h2]
      exact h3
    · cases h1
  · obtain ⟨d, h2, h3⟩ := h
    unfold item
    dsimp only
    rw [h2]
    exact h3
  · exact h
def setIP (o i v : D) (K : Sto → Prop) (s : Sto) : Prop := match o, i with
  | .ref m, .int j => ∃ xs k, s[m]? = some (.lst xs) ∧ L2.ixN xs.length j = some k ∧ K (s.set m (.lst (xs.set k v)))
  | _, _ => False
theorem setIP_ok {o i v : D} {K : Sto → Prop} {s : Sto} (h : setIP o i v K s) : resP (setI o i v s) (fun _ s1 => K s1) E := by
  unfold setIP at h
  split at h
  · obtain ⟨xs, k, h1, h2, h3⟩ := h
    unfold setI
    dsimp only
    rw [h1]
    dsimp only
    rw [h2]
    exact h3
  · exact h.elim
def getFP (P : Prg) (o : D) (f : Nat) (K : D → Sto → Prop) (s : Sto) : Prop := match o with
  | .ref m => ∃ c fs d, s[m]? = some (.ins c fs) ∧ P.flds c f = true ∧ fs.lookup f = some d ∧ K d s
  | _ => False
theorem getFP_ok {P : Prg} {o : D} {f : Nat} {K : D → Sto → Prop} {s : Sto} (h : getFP P o f K s) : resP (getF P o f s) K E := by
  unfold getFP at h
  split at h
  · obtain ⟨c, fs, d, h1, h2, h3, h4⟩ := h
    unfold getF
    dsimp only
    rw [h1]
    dsimp only
    rw [if_pos h2, h3]
    exact h4
  · exact h.elim
def setFP (P : Prg) (o : D) (f : Nat) (v : D) (K : Sto → Prop) (s : Sto) : Prop := match o with
  | .ref m => ∃ c fs, s[m]? = some (.ins c fs) ∧ (P.flds c f = true ∧ fs.length < 1000) ∧ K (s.set m (.ins c (putA f v fs)))
  | _ => False
theorem setFP_ok {P : Prg} {o : D} {f : Nat} {v : D} {K : Sto → Prop} {s : Sto} (h : setFP P o f v K s) : resP (setF P o f v s) (fun _ s1 => K s1) E := by
  unfold setFP at h
  split at h
  · obtain ⟨c, fs, h1, ⟨h2, h3⟩, h4⟩ := h
    unfold setF
    dsimp only
    rw [h1]
    dsimp only
    rw [h2, decide_eq_true h3]
    exact h4
  · exact h.elim
def methP (P : Prg) (o : D) (m n : Nat) (K : Nat → Sto → Prop) (s : Sto) : Prop := match o with
  | .ref i => ∃ c fs f, s[i]? = some (.ins c fs) ∧ P.meth c m = some f ∧ P.can f n = true ∧ K f s
  | _ => False
theorem methP_ok {P : Prg} {o : D} {m n : Nat} {K : Nat → Sto → Prop} {s : Sto} (h : methP P o m n K s) : resP (methOf P o m n s) K E := by
  unfold methP at h
  split at h
  · obtain ⟨c, fs, f, h1, h2, h3, h4⟩ := h
    unfold methOf
    dsimp only
    rw [h1]
    dsimp only
    rw [h2]
    dsimp only
    rw [if_pos h3]
    exact h4
  · exact h.elim
def truP (d : D) (K : Bool → Sto → Prop) (s : Sto) : Prop := match d with
  | .ref n => ∃ b, tru (.ref n) s = .ok b s ∧ K b s
  | d => resP (tru d s) K E
theorem truP_ok {d : D} {K : Bool → Sto → Prop} {s : Sto} (h : truP E d K s) : resP (tru d s) K E := by
  unfold truP at h
  split at h
  · obtain ⟨b, h1, h2⟩ := h
    rw [h1]
    exact h2
  · exact h
def isiP (d : D) (ts : List Ty) (K : D → Sto → Prop) (s : Sto) : Prop := match d, ts with
  | .ref n, [t] => ∃ b, tyIs s (.ref n) t = some b ∧ K (.bl b) s
  | d, ts => resP (isiD d ts s) K E
theorem isiP_ok {d : D} {ts : List Ty} {K : D → Sto → Prop} {s : Sto} (h : isiP E d ts K s) : resP (isiD d ts s) K E := by
  unfold isiP at h
  split at h
  · obtain ⟨b, h1, h2⟩ := h
    unfold isiD
    dsimp only
    rw [h1]
    exact h2
  · exact h
def chkP (b : BM) (o : D) (K : Sto → Prop) (s : Sto) : Prop := chkB b o s = .ok () s ∧ K s
theorem chkP_ok {b : BM} {o : D} {K : Sto → Prop} {s : Sto} (h : chkP b o K s) : resP (chkB b o s) (fun _ s1 => K s1) E := by
  rw [h.1]
  exact h.2
def bmP (b : BM) (o : D) (vs : List D) (K : D → Sto → Prop) (s : Sto) : Prop := match b, o, vs with
  | .append, .ref m, [v] => ∃ xs, s[m]? = some (.lst xs) ∧ xs.length < sizeLine ∧ K .non (s.set m (.lst (xs ++ [v])))
  | b, o, vs => resP (bms b o vs s) K E
theorem bmP_ok {b : BM} {o : D} {vs : List D} {K : D → Sto → Prop} {s : Sto} (h : bmP E b o vs K s) : resP (bms b o vs s) K E := by
  unfold bmP at h
  split at h
  · rename_i m v
    obtain ⟨xs, h1, h2, h3⟩ := h
    show resP (appD (.ref m) v s) K E
    unfold appD
    dsimp only
    rw [h1]
    dsimp only
    rw [if_pos h2]
    exact h3
  · exact h
/-- minimum, maximum -/
def bisP (b : BI) (vs : List D) (K : D → Sto → Prop) (s : Sto) : Prop := match b, vs with
  | .abs, [.int i] => K (.int (if i < 0 then -i else i)) s
  | .int, [.int i] => K (.int i) s
  | .int, [.bl b] => iteP b (K (.int 1) s) (K (.int 0) s)
  | .min2, [.int i, .int j] => K (.int (if j < i then j else i)) s
  | .max2, [.int i, .int j] => K (.int (if j > i then j else i)) s
  | .len, [.ref m] => ∃ xs, lstAt s m = some xs ∧ K (.int xs.length) s
  | .lst, [.ref m] => ∃ xs, lstAt s m = some xs ∧ K (.ref s.length) (s ++ [.lst xs])
  | .tup, [.ref m] => ∃ xs, lstAt s m = some xs ∧ K (.tup xs) s
  | .all, [.ref m] => ∃ xs bs, lstAt s m = some xs ∧ omap blOf xs = some bs ∧ K (.bl (bs.all id)) s
  | .any, [.ref m] => ∃ xs bs, lstAt s m = some xs ∧ omap blOf xs = some bs ∧ K (.bl (bs.any id)) s
  | b, vs => resP (bis b vs s) K E
theorem bisP_ok {b : BI} {vs : List D} {K : D → Sto → Prop} {s : Sto} (h : bisP E b vs K s) : resP (bis b vs s) K E := by
  unfold bisP at h
  split at h
  case h_3 b =>
    cases b with
    | true => exact h.1 rfl
    | false => exact h.2 rfl
  case h_6 m =>
    obtain ⟨xs, h1, h2⟩ := h
    show resP (lenD (.ref m) s) K E
    unfold lenD
    dsimp only
    rw [h1]
    exact h2
  case h_7 m =>
    obtain ⟨xs, h1, h2⟩ := h
    show resP (lstD (.ref m) s) K E
    unfold lstD
    dsimp only
    rw [h1]
    exact h2
  case h_8 m =>
    obtain ⟨xs, h1, h2⟩ := h
    show resP (tupD (.ref m) s) K E
    unfold tupD
    dsimp only
    rw [h1]
    exact h2
  case h_9 m =>
    obtain ⟨xs, bs, h1, h3, h2⟩ := h
    show resP (allD (.ref m) s) K E
    unfold allD
    dsimp only
    rw [h1]
    dsimp only
    rw [h3]
    exact h2
  case h_10 m =>
    obtain ⟨xs, bs, h1, h3, h2⟩ := h
    show resP (anyD (.ref m) s) K E
    unfold anyD
    dsimp only
    rw [h1]
    dsimp only
    rw [h3]
    exact h2
  all_goals exact h
end
theorem resP_mono {α : Type} {q : Res α} {K K' : α → Sto → Prop} {E : Exn → Sto → Prop} (h : resP q K E) (k : ∀ a s, K a s → K' a s) : resP q K' E := by
  cases q with
  | ok a s => exact k a s h
  | exc x s => exact h
  | no => exact h
theorem resP_bind {α β : Type} {x : M α} {f : α → M β} {K : β → Sto → Prop} {E : Exn → Sto → Prop} {s : Sto} (h : resP (x s) (fun a s1 => resP (f a s1) K E) E) : resP (M.bind x f s) K E := by
  rw [M.bind_def]
  cases q : x s with
  | ok a s1 => rw [q] at h; exact h
  | exc e s1 => rw [q] at h; exact h
  | no => rw [q] at h; exact h
/-- a call by its number -/
def callP (C : Cal) (f n : Nat) (xs : List D) (K : D → Sto → Prop) (E : Exn → Sto → Prop) (s : Sto) : Prop := match C.P.dfl f n with
  | [] => xs.length = C.P.np f ∧ Wp (C.call f xs s) K E
  | ds => (xs ++ ds).length = C.P.np f ∧ Wp (C.call f (xs ++ ds) s) K E
theorem callP_ok {C : Cal} {f n : Nat} {xs : List D} {K : D → Sto → Prop} {E : Exn → Sto → Prop} {s : Sto} (h : callP C f n xs K E s) : resP (callN C f n xs s) K E := by
  have h2 : (xs ++ C.P.dfl f n).length = C.P.np f ∧ Wp (C.call f (xs ++ C.P.dfl f n) s) K E := by
    unfold callP at h
    split at h
    · rename_i q
      rw [q, List.append_nil]
      exact h
    · exact h
  unfold callN
  rw [if_pos h2.1]
  exact h2.2.go
mutual
def wE (C : Cal) (r : Env) (E : Exn → Sto → Prop) : CE → (D → Sto → Prop) → Sto → Prop
  | .var i => fun K s => match r[i]? with
    | some (.val d) => K d s
    | _ => False
  | .non => fun K s => K .non s
  | .bl b => fun K s => K (.bl b) s
  | .int i => fun K s => K (.int i) s
  | .str x => fun K s => K (.str x) s
  | .con g => fun K s => K (C.P.con g) s
  | .bin op a b => fun K s => wE C r E a (fun x s1 => wE C r E b (fun y s2 => binP E op x y K s2) s1) s
  | .neg a => fun K s => wE C r E a (fun x s1 => resP (neg x s1) K E) s
  | .nt a => fun K s => wE C r E a (fun x s1 => truP E x (fun b s2 => K (.bl (!b)) s2) s1) s
  | .andl es => fun K s => wAnd C r E es K s
  | .orl es => fun K s => wOr C r E es K s
  | .cmp op a b => fun K s => wE C r E a (fun x s1 => wE C r E b (fun y s2 => cmpP E op x y K s2) s1) s
  | .chn op op2 a b c => fun K s => wE C r E a (fun x s1 => wE C r E b (fun y s2 => cmpP E op x y (fun k s3 => match k with
    | .bl k => iteP k (wE C r E c (fun z s4 => cmpP E op2 y z K s4) s3) (K (.bl false) s3)
    | _ => False) s2) s1) s
  | .ife t a b => fun K s => wE C r E t (fun x s1 => truP E x (fun k s2 => iteP k (wE C r E a K s2) (wE C r E b K s2)) s1) s
  | .fld o f => fun K s => wE C r E o (fun x s1 => getFP C.P x f K s1) s
  | .ix o i => fun K s => wE C r E o (fun x s1 => wE C r E i (fun y s2 => itemP E x y K s2) s1) s
  | .tup es => fun K s => wEs C r E es (fun xs s1 => K (.tup xs) s1) s
  | .lst es => fun K s => wEs C r E es (fun xs s1 => K (.ref s1.length) (s1 ++ [.lst xs])) s
  | .call f es => fun K s => wEs C r E es (fun xs s1 => callP C f es.len xs K E s1) s
  | .make c es => fun K s => wEs C r E es (fun xs s1 => match C.P.init c with
    | some f => callP C f (es.len + 1) (D.ref s1.length :: xs) (fun v s2 => v = .non ∧ K (.ref s1.length) s2) E (s1 ++ [.ins c []])
    | none => (C.P.plain c = true ∧ xs = []) ∧ K (.ref s1.length) (s1 ++ [.ins c []])) s
  | .meth m o es => fun K s => wE C r E o (fun x s1 => methP C.P x m (es.len + 1) (fun f s2 => wEs C r E es (fun xs s3 => callP C f (es.len + 1) (x :: xs) K E s3) s2) s1) s
  | .bi b es => fun K s => wEs C r E es (fun xs s1 => bisP E b xs K s1) s
  | .bm b o es => fun K s => wE C r E o (fun x s1 => chkP b x (fun s2 => wEs C r E es (fun xs s3 => bmP E b x xs K s3) s2) s1) s
  | .isi e ts => fun K s => wE C r E e (fun x s1 => isiP E x ts K s1) s
  | e => fun K s => Wp (den C r e s) K E
def wEs (C : Cal) (r : Env) (E : Exn → Sto → Prop) : CEs → (List D → Sto → Prop) → Sto → Prop
  | .nil => fun K s => K [] s
  | .cons e es => fun K s => wE C r E e (fun x s1 => wEs C r E es (fun xs s2 => K (x :: xs) s2) s1) s
def wAnd (C : Cal) (r : Env) (E : Exn → Sto → Prop) : CEs → (D → Sto → Prop) → Sto → Prop
  | .nil => fun K s => False
  | .cons e .nil => fun K s => wE C r E e K s
  | .cons e (.cons e2 es) => fun K s => wE C r E e (fun x s1 => truP E x (fun b s2 => iteP b (wAnd C r E (.cons e2 es) K s2) (K x s2)) s1) s
def wOr (C : Cal) (r : Env) (E : Exn → Sto → Prop) : CEs → (D → Sto → Prop) → Sto → Prop
  | .nil => fun K s => False
  | .cons e .nil => fun K s => wE C r E e K s
  | .cons e (.cons e2 es) => fun K s => wE C r E e (fun x s1 => truP E x (fun b s2 => iteP b (K x s2) (wOr C r E (.cons e2 es) K s2)) s1) s
end
theorem iteP_ok {b : Bool} {p q : Prop} {m n : Prop} (h : iteP b p q) (h1 : p → m) (h2 : q → n) : (b = true → m) ∧ (b = false → n) := ⟨fun e => h1 (h.1 e), fun e => h2 (h.2 e)⟩
section
variable {C : Cal} {r : Env} {E : Exn → Sto → Prop}
mutual
theorem wE_ok : ∀ (e : CE) {K : D → Sto → Prop} {s : Sto}, wE C r E e K s → resP (den C r e s) K E
  | .var i, K, s, h => by
    have h : (match r[i]? with
      | some (.val d) => K d s
      | _ => False) := h
    show resP (slotV r i s) K E
    unfold slotV
    split at h
    · rename_i d q
      first | exact h | (rw [q]; exact h)
    · exact h.elim
  | .non, K, s, h => h
  | .bl b, K, s, h => h
  | .int i, K, s, h => h
  | .str x, K, s, h => h
  | .con g, K, s, h => h
  | .bin op a b, K, s, h => resP_bind (resP_mono (wE_ok a h) fun x s1 h1 => resP_bind (resP_mono (wE_ok b h1) fun y s2 h2 => binP_ok E h2))
  | .neg a, K, s, h => resP_bind (wE_ok a h)
  | .nt a, K, s, h => resP_bind (resP_mono (wE_ok a h) fun x s1 h1 => resP_bind (truP_ok E h1))
  | .andl es, K, s, h => wAnd_ok es h
  | .orl es, K, s, h => wOr_ok es h
  | .cmp op a b, K, s, h => resP_bind (resP_mono (wE_ok a h) fun x s1 h1 => resP_bind (resP_mono (wE_ok b h1) fun y s2 h2 => cmpP_ok E h2))
  | .chn op op2 a b c, K, s, h => resP_bind (resP_mono (wE_ok a h) fun x s1 h1 => resP_bind (resP_mono (wE_ok b h1) fun y s2 h2 => resP_bind (resP_mono (cmpP_ok E h2) fun k s3 h3 => by
      cases k with
      | bl k =>
        have h3 : iteP k (wE C r E c (fun z s4 => cmpP E op2 y z K s4) s3) (K (.bl false) s3) := h3
        cases k with
        | true => exact resP_bind (resP_mono (wE_ok c (h3.1 rfl)) fun z s4 h4 => cmpP_ok E h4)
        | false => exact h3.2 rfl
      | _ => exact False.elim h3)))
  | .ife t a b, K, s, h => resP_bind (resP_mono (wE_ok t h) fun x s1 h1 => resP_bind (resP_mono (truP_ok E h1) fun k s2 h2 => by
      cases k with
      | true => exact wE_ok a (h2.1 rfl)
      | false => exact wE_ok b (h2.2 rfl)))
  | .fld o f, K, s, h => resP_bind (resP_mono (wE_ok o h) fun x s1 h1 => getFP_ok E h1)
  | .ix o i, K, s, h => resP_bind (resP_mono (wE_ok o h) fun x s1 h1 => resP_bind (resP_mono (wE_ok i h1) fun y s2 h2 => itemP_ok E h2))
  | .tup es, K, s, h => resP_bind (wEs_ok es h)
  | .lst es, K, s, h => resP_bind (wEs_ok es h)
  | .call f es, K, s, h => resP_bind (resP_mono (wEs_ok es h) fun xs s1 h1 => callP_ok h1)
  | .make c es, K, s, h => resP_bind (resP_mono (wEs_ok es h) fun xs s1 h1 => by
      have h1 : (match C.P.init c with
        | some f => callP C f (es.len + 1) (D.ref s1.length :: xs) (fun v s2 => v = .non ∧ K (.ref s1.length) s2) E (s1 ++ [.ins c []])
        | none => (C.P.plain c = true ∧ xs = []) ∧ K (.ref s1.length) (s1 ++ [.ins c []])) := h1
      show resP ((match C.P.init c with
        | some f => M.bind (newO (.ins c [])) fun o => M.bind (callN C f (es.len + 1) (o :: xs)) fun (v : D) => if v = D.non then M.pure o else M.stuck
        | none => if C.P.plain c = true ∧ xs = [] then newO (.ins c []) else M.stuck) s1) K E
      cases q : C.P.init c with
      | some f =>
        rw [q] at h1
        refine resP_bind ?_
        show resP (M.bind (callN C f (es.len + 1) (D.ref s1.length :: xs)) _ (s1 ++ [.ins c []])) K E
        refine resP_bind (resP_mono (callP_ok h1) fun v s2 h2 => ?_)
        rw [if_pos h2.1]
        exact h2.2
      | none =>
        rw [q] at h1
        dsimp only
        rw [if_pos h1.1]
        exact h1.2)
  | .meth m o es, K, s, h => resP_bind (resP_mono (wE_ok o h) fun x s1 h1 => resP_bind (resP_mono (methP_ok E h1) fun f s2 h2 => resP_bind (resP_mono (wEs_ok es h2) fun xs s3 h3 => callP_ok h3)))
  | .bi b es, K, s, h => resP_bind (resP_mono (wEs_ok es h) fun xs s1 h1 => bisP_ok E h1)
  | .bm b o es, K, s, h => resP_bind (resP_mono (wE_ok o h) fun x s1 h1 => resP_bind (resP_mono (chkP_ok E h1) fun _ s2 h2 => resP_bind (resP_mono (wEs_ok es h2) fun xs s3 h3 => bmP_ok E h3)))
  | .isi e ts, K, s, h => resP_bind (resP_mono (wE_ok e h) fun x s1 h1 => isiP_ok E h1)
  | .slc _ _ _, K, s, h => Wp.go h
  | .nope, K, s, h => Wp.go h
  | .dct _ _, K, s, h => Wp.go h
  | .lc _ _ _ _ _ _, K, s, h => Wp.go h
  | .isx _ _, K, s, h => Wp.go h
  | .xfl _ _, K, s, h => Wp.go h
theorem wEs_ok : ∀ (es : CEs) {K : List D → Sto → Prop} {s : Sto}, wEs C r E es K s → resP (dens C r es s) K E
  | .nil, K, s, h => h
  | .cons e es, K, s, h => resP_bind (resP_mono (wE_ok e h) fun x s1 h1 => resP_bind (resP_mono (wEs_ok es h1) fun xs s2 h2 => h2))
theorem wAnd_ok : ∀ (es : CEs) {K : D → Sto → Prop} {s : Sto}, wAnd C r E es K s → resP (denAnd C r es s) K E
  | .nil, K, s, h => False.elim h
  | .cons e .nil, K, s, h => wE_ok e h
  | .cons e (.cons e2 es), K, s, h => resP_bind (resP_mono (wE_ok e h) fun x s1 h1 => resP_bind (resP_mono (truP_ok E h1) fun b s2 h2 => by
      cases b with
      | true => exact wAnd_ok (.cons e2 es) (h2.1 rfl)
      | false => exact h2.2 rfl))
theorem wOr_ok : ∀ (es : CEs) {K : D → Sto → Prop} {s : Sto}, wOr C r E es K s → resP (denOr C r es s) K E
  | .nil, K, s, h => False.elim h
  | .cons e .nil, K, s, h => wE_ok e h
  | .cons e (.cons e2 es), K, s, h => resP_bind (resP_mono (wE_ok e h) fun x s1 h1 => resP_bind (resP_mono (truP_ok E h1) fun b s2 h2 => by
      cases b with
      | true => exact h2.1 rfl
      | false => exact wOr_ok (.cons e2 es) (h2.2 rfl)))
end
end
/-! ### statements -/
mutual
def wS (C : Cal) : CS → Env → Sto → (Env → Sto → Prop) → (D → Sto → Prop) → (Exn → Env → Sto → Prop) → Prop
  | .expr e => fun r s N R E => wE C r (fun x s1 => E x r s1) e (fun _ s1 => N r s1) s
  | .asg (.nm i) e => fun r s N R E => wE C r (fun x s1 => E x r s1) e (fun d s1 => N (r.set i (.val d)) s1) s
  | .asg t e => fun r s N R E => wE C r (fun x s1 => E x r s1) e (fun d s1 => resP (bindT t d r s1) N (fun x s1 => E x r s1)) s
  | .setf o f e => fun r s N R E => wE C r (fun x s1 => E x r s1) e (fun v s1 => wE C r (fun x s1 => E x r s1) o (fun x s2 => setFP C.P x f v (fun s3 => N r s3) s2) s1) s
  | .seti o i e => fun r s N R E => wE C r (fun x s1 => E x r s1) e (fun v s1 => wE C r (fun x s1 => E x r s1) o (fun x s2 => wE C r (fun x s1 => E x r s1) i (fun y s3 => setIP x y v (fun s4 => N r s4) s3) s2) s1) s
  | .ret e => fun r s N R E => wE C r (fun x s1 => E x r s1) e R s
  | .retn => fun r s N R E => R .non s
  | .ite c a b => fun r s N R E => wE C r (fun x s1 => E x r s1) c (fun d s1 => truP (fun x s1 => E x r s1) d (fun k s2 => iteP k (wSs C a r s2 N R E) (wSs C b r s2 N R E)) s1) s
  | .tryS b c nm h => fun r s N R E => wSs C b r s N R (fun x r1 s1 => match C.P.sub x.c c with
    | some true => wSs C h (setN r1 nm (.exc x)) s1 (fun r2 s2 => N (setN (clrX r2) nm .non) s2) R (fun _ _ _ => False)
    | some false => E x r1 s1
    | none => False)
  | .raise c => fun r s N R E => C.P.xr c = true ∧ E ⟨c, []⟩ r s
  | .nop => fun r s N R E => N r s
  | st => fun r s N R E => Ws (sem C r s st) N R E
def wSs (C : Cal) : CSs → Env → Sto → (Env → Sto → Prop) → (D → Sto → Prop) → (Exn → Env → Sto → Prop) → Prop
  | .nil => fun r s N R E => N r s
  | .cons a b => fun r s N R E => wS C a r s (fun r1 s1 => Nxt (wSs C b r1 s1 N R E)) R E
end
theorem sresP_lift {α : Type} {m : M α} {r : Env} {k : α → Sto → SRes} {s : Sto} {N : Env → Sto → Prop} {R : D → Sto → Prop} {E : Exn → Env → Sto → Prop} (h : resP (m s) (fun a s1 => sresP (k a s1) N R E) (fun x s1 => E x r s1)) : sresP (lift m r k s) N R E := by
  unfold lift
  cases q : m s with
  | ok a s1 => rw [q] at h; exact h
  | exc x s1 => rw [q] at h; exact h
  | no => rw [q] at h; exact h
theorem sresP_mono {q : SRes} {N N' : Env → Sto → Prop} {R : D → Sto → Prop} {E : Exn → Env → Sto → Prop} (h : sresP q N R E) (k : ∀ r s, N r s → N' r s) : sresP q N' R E := by
  cases q with
  | nx r s => exact k r s h
  | rt d s => exact h
  | ex x r s => exact h
  | no => exact h
section
variable {C : Cal}
mutual
theorem wS_ok : ∀ (st : CS) {r : Env} {s : Sto} {N : Env → Sto → Prop} {R : D → Sto → Prop} {E : Exn → Env → Sto → Prop}, wS C st r s N R E → sresP (sem C r s st) N R E
  | .expr e, r, s, N, R, E, h => sresP_lift (wE_ok e h)
  | .asg (.nm i) e, r, s, N, R, E, h => sresP_lift (resP_bind (wE_ok e h))
  | .asg (.tp is) e, r, s, N, R, E, h => sresP_lift (resP_bind (wE_ok e h))
  | .asg (.tp2 i is) e, r, s, N, R, E, h => sresP_lift (resP_bind (wE_ok e h))
  | .setf o f e, r, s, N, R, E, h => sresP_lift (resP_bind (resP_mono (wE_ok e h) fun v s1 h1 => resP_bind (resP_mono (wE_ok o h1) fun x s2 h2 => setFP_ok _ h2)))
  | .seti o i e, r, s, N, R, E, h => sresP_lift (resP_bind (resP_mono (wE_ok e h) fun v s1 h1 => resP_bind (resP_mono (wE_ok o h1) fun x s2 h2 => resP_bind (resP_mono (wE_ok i h2) fun y s3 h3 => setIP_ok _ h3))))
  | .ret e, r, s, N, R, E, h => sresP_lift (wE_ok e h)
  | .retn, r, s, N, R, E, h => h
  | .ite c a b, r, s, N, R, E, h => by
    have q : resP (M.bind (den C r c) tru s) (fun k s2 => iteP k (wSs C a r s2 N R E) (wSs C b r s2 N R E)) (fun x s1 => E x r s1) := resP_bind (resP_mono (wE_ok c h) fun d s1 h1 => truP_ok _ h1)
    show sresP (match M.bind (den C r c) tru s with
      | .ok k s1 => if k = true then sems C r s1 a else sems C r s1 b
      | .exc x s1 => .ex x r s1
      | .no => .no) N R E
    cases z : M.bind (den C r c) tru s with
    | ok k s1 =>
      rw [z] at q
      cases k with
      | true => exact wSs_ok a (q.1 rfl)
      | false => exact wSs_ok b (q.2 rfl)
    | exc x s1 => rw [z] at q; exact q
    | no => rw [z] at q; exact q
  | .tryS b c nm hd, r, s, N, R, E, h => by
    have q := wSs_ok b h
    show sresP (match sems C r s b with
      | .ex x r1 s1 => match C.P.sub x.c c with
        | some true => (match sems C (setN r1 nm (.exc x)) s1 hd with
          | .nx r2 s2 => .nx (setN (clrX r2) nm .non) s2
          | .rt d s2 => .rt d s2
          | _ => .no)
        | some false => .ex x r1 s1
        | none => .no
      | q => q) N R E
    cases z : sems C r s b with
    | nx r1 s1 => rw [z] at q; exact q
    | rt d s1 => rw [z] at q; exact q
    | no => rw [z] at q; exact q
    | ex x r1 s1 =>
      rw [z] at q
      have q : (match C.P.sub x.c c with
        | some true => wSs C hd (setN r1 nm (.exc x)) s1 (fun r2 s2 => N (setN (clrX r2) nm .non) s2) R (fun _ _ _ => False)
        | some false => E x r1 s1
        | none => False) := q
      dsimp only
      cases z2 : C.P.sub x.c c with
      | none => rw [z2] at q; exact q.elim
      | some b2 =>
        rw [z2] at q
        cases b2 with
        | false => exact q
        | true =>
          have q2 := wSs_ok hd q
          dsimp only
          cases z3 : sems C (setN r1 nm (.exc x)) s1 hd with
          | nx r2 s2 => rw [z3] at q2; exact q2
          | rt d s2 => rw [z3] at q2; exact q2
          | ex y r2 s2 => rw [z3] at q2; exact q2.elim
          | no => rw [z3] at q2; exact q2
  | .raise c, r, s, N, R, E, h => by
    show sresP (if C.P.xr c = true then .ex ⟨c, []⟩ r s else .no) N R E
    rw [if_pos h.1]
    exact h.2
  | .nop, r, s, N, R, E, h => h
  | .deli _ _, r, s, N, R, E, h => Ws.go h
  | .forS _ _ _ _, r, s, N, R, E, h => Ws.go h
  | .whl _ _, r, s, N, R, E, h => Ws.go h
  | .raiseC _ _ _, r, s, N, R, E, h => Ws.go h
theorem wSs_ok : ∀ (st : CSs) {r : Env} {s : Sto} {N : Env → Sto → Prop} {R : D → Sto → Prop} {E : Exn → Env → Sto → Prop}, wSs C st r s N R E → sresP (sems C r s st) N R E
  | .nil, r, s, N, R, E, h => h
  | .cons a b, r, s, N, R, E, h => by
    have q := wS_ok a h
    show sresP (match sem C r s a with
      | .nx r1 s1 => sems C r1 s1 b
      | q => q) N R E
    cases z : sem C r s a with
    | nx r1 s1 => rw [z] at q; exact wSs_ok b q.go
    | rt d s1 => rw [z] at q; exact q
    | ex x r1 s1 => rw [z] at q; exact q
    | no => rw [z] at q; exact q
end
/-- a def's run -/
theorem Wp.run {P : Prg} {L n f : Nat} {q : Fn} {vs : List D} {s : Sto} {K : D → Sto → Prop} {E : Exn → Sto → Prop} (h : P.fns[f]? = some q) (hl : vs.length = q.np) (w : wSs ⟨P, L, run P L n⟩ q.body (start q.ns vs) s (fun _ s1 => K .non s1) K (fun x _ s1 => E x s1)) : Wp (EW.run P L (n + 1) f vs s) K E := by
  refine ⟨?_⟩
  have e : EW.run P L (n + 1) f vs s = endOf (sems ⟨P, L, EW.run P L n⟩ (start q.ns vs) s q.body) := by
    show (match P.fns[f]? with
      | some q => if vs.length = q.np then endOf (sems ⟨P, L, EW.run P L n⟩ (start q.ns vs) s q.body) else .no
      | none => .no) = _
    rw [h]
    dsimp only
    rw [if_pos hl]
  rw [e]
  have z := wSs_ok q.body w
  cases t : sems ⟨P, L, EW.run P L n⟩ (start q.ns vs) s q.body with
  | nx r s1 => rw [t] at z; exact z
  | rt d s1 => rw [t] at z; exact z
  | ex x r s1 => rw [t] at z; exact z
  | no => rw [t] at z; exact z
theorem Wp.mono {α : Type} {q : Res α} {K K' : α → Sto → Prop} {E : Exn → Sto → Prop} (h : Wp q K E) (k : ∀ a s, K a s → K' a s) : Wp q K' E := ⟨resP_mono h.go k⟩
end
end EW

set_option Elab.async false
set_option linter.all false
set_option maxRecDepth 100000
set_option maxHeartbeats 0
/-! M layer 22: the draws. -/
namespace EW
open PySem
def nextR : CSs := (.cons (.ite (.cmp .gt (.ix (.var 0) (.int 2)) (.int 0)) (.cons (.asg (.nm 4) (.bin .mod (.bi .int (.cons (.ix (.var 0) (.int 2)) .nil)) (.var 1))) (.cons (.seti (.var 0) (.int 2) (.bin .fdiv (.ix (.var 0) (.int 2)) (.var 1))) (.cons (.ret (.var 4)) .nil))) .nil) (.cons (.seti (.var 0) (.int 3) (.bin .mod (.bi .int (.cons (.bin .add (.bin .mul (.ix (.var 0) (.int 3)) (.int 48271)) (.int 12345)) .nil)) (.int 2147483647))) (.cons (.asg (.nm 2) (.bin .mod (.bi .int (.cons (.bin .add (.bin .mul (.ix (.var 0) (.int 3)) (.int 69621)) (.bin .fdiv (.ix (.var 0) (.int 3)) (.int 127))) .nil)) (.int 2147483629))) (.cons (.ret (.bin .mod (.bi .int (.cons (.var 2) .nil)) (.var 1))) .nil))))
def nextB : CSs := (.cons (.ite (.andl (.cons (.cmp .eq (.ix (.var 0) (.int 2)) (.int 0)) (.cons (.cmp .lt (.ix (.var 0) (.int 1)) (.bi .len (.cons (.ix (.var 0) (.int 0)) .nil))) .nil))) (.cons (.asg (.nm 3) (.bi .abs (.cons (.bi .int (.cons (.ix (.ix (.var 0) (.int 0)) (.ix (.var 0) (.int 1))) .nil)) .nil))) (.cons (.seti (.var 0) (.int 1) (.bin .add (.ix (.var 0) (.int 1)) (.int 1))) (.cons (.ite (.cmp .lt (.var 3) (.bin .pow (.int 10) (.int 18))) (.cons (.ret (.bin .mod (.bi .int (.cons (.var 3) .nil)) (.var 1))) .nil) .nil) (.cons (.seti (.var 0) (.int 2) (.var 3)) .nil)))) .nil) nextR)
theorem lst_at {s : Sto} {m : Nat} {xs : List D} (h : s[m]? = some (.lst xs)) : lstAt s m = some xs := by unfold lstAt; rw [h]
theorem rol_at {s : Sto} {m : Nat} {xs : List D} (h : s[m]? = some (.rol xs)) : lstAt s m = some xs := by unfold lstAt; rw [h]
/-- the draws' pot: at j, its cells at k -/
structure Pot (s : Sto) (j k : Nat) (cs : List Int) (i b sd : Int) : Prop where
  pot : s[j]? = some (.lst [.ref k, .int i, .int b, .int sd])
  cel : s[k]? = some (.lst (cs.map .int))
  ne : k ≠ j
  i0 : 0 ≤ i
  b0 : 0 ≤ b
  s0 : 0 ≤ sd
  s1 : sd < 2147483647
theorem Pot.put {s : Sto} {j k : Nat} {cs : List Int} {i b sd i' b' sd' : Int} (p : Pot s j k cs i b sd) (h1 : 0 ≤ i') (h2 : 0 ≤ b') (h3 : 0 ≤ sd') (h4 : sd' < 2147483647) : Pot (s.set j (.lst [.ref k, .int i', .int b', .int sd'])) j k cs i' b' sd' := by
  have hl := (List.getElem?_eq_some_iff.mp p.pot).1
  exact ⟨List.getElem?_set_self hl, by rw [List.getElem?_set_ne (Ne.symm p.ne)]; exact p.cel, p.ne, h1, h2, h3, h4⟩
theorem bits_le {i : Int} {m : Nat} (h : i.natAbs < 2 ^ m) : Builtin.Int.intBits i ≤ m := by
  unfold Builtin.Int.intBits
  split
  · exact Nat.zero_le _
  · rename_i q
    have q : i ≠ 0 := by simpa using q
    have := (Nat.log2_lt (n := i.natAbs) (k := m) (by omega)).mpr h
    omega
theorem mul_ok {i j : Int} (m n : Nat) (h1 : i.natAbs < 2 ^ m) (h2 : j.natAbs < 2 ^ n) (h : m + n ≤ 134217728) : mulOk i j = true := by
  have := bits_le h1
  have := bits_le h2
  unfold mulOk
  exact decide_eq_true (by omega)
theorem at_map {cs : List Int} {i : Int} (h0 : 0 ≤ i) (h1 : i < cs.length) : ∃ c, L2.atI (cs.map EW.D.int) i = some (.int c) := by
  have hl : i.toNat < cs.length := by omega
  refine ⟨cs[i.toNat], ?_⟩
  unfold L2.atI L2.ixN
  rw [List.length_map, if_pos h0, if_pos h1]
  show (cs.map EW.D.int)[i.toNat]? = _
  rw [List.getElem?_map, List.getElem?_eq_getElem hl]
  rfl
section
variable {C : Cal} {s : Sto} {j k : Nat} {cs : List Int} {i b sd l : Int} {K : D → Sto → Prop} {E : Exn → Env → Sto → Prop} {N : Env → Sto → Prop}
theorem next_rest (p : Pot s j k cs i b sd) (hl : 0 < l) (hl2 : l.natAbs.log2 < 9000) {z : Slot}
    (h : ∀ v i' b' sd' : Int, 0 ≤ v → v < l → Pot (s.set j (.lst [.ref k, .int i', .int b', .int sd'])) j k cs i' b' sd' → K (.int v) (s.set j (.lst [.ref k, .int i', .int b', .int sd']))) :
    wSs C nextR [.val (.ref j), .val (.int l), .non, z, .non] s N K E := by
  conv => whnf
  refine ⟨_, _, lst_at p.pot, rfl, ?_⟩
  conv => whnf
  refine ⟨fun hb => ?_, fun hb => ?_⟩
  · conv => whnf
    refine ⟨_, _, lst_at p.pot, rfl, ?_⟩
    conv => whnf
    refine ⟨hl, ?_⟩
    conv => whnf
    refine ⟨?_⟩
    conv => whnf
    refine ⟨_, _, lst_at p.pot, rfl, ?_⟩
    conv => whnf
    refine ⟨⟨hl, hl2⟩, ?_⟩
    conv => whnf
    refine ⟨_, _, p.pot, rfl, ?_⟩
    conv => whnf
    refine ⟨?_⟩
    have hb := of_decide_eq_true hb
    exact h (b % l) i (b / l) sd (Int.emod_nonneg _ (by omega)) (Int.emod_lt_of_pos _ hl) (p.put p.i0 (Int.ediv_nonneg p.b0 (by omega)) p.s0 p.s1)
  · conv => whnf
    refine ⟨?_⟩
    conv => whnf
    refine ⟨_, _, lst_at p.pot, rfl, ?_⟩
    conv => whnf
    have hs0 := p.s0
    have hs1 := p.s1
    refine ⟨mul_ok 31 17 (by omega) (by decide) (by decide), ?_⟩
    conv => whnf
    refine ⟨by decide, ?_⟩
    conv => whnf
    refine ⟨_, _, p.pot, rfl, ?_⟩
    conv => whnf
    refine ⟨?_⟩
    have g0 : 0 ≤ (sd * 48271 + 12345) % 2147483647 := Int.emod_nonneg _ (by decide)
    have g1 : (sd * 48271 + 12345) % 2147483647 < 2147483647 := Int.emod_lt_of_pos _ (by decide)
    have p1 := p.put p.i0 p.b0 g0 g1
    conv => whnf
    refine ⟨_, _, lst_at p1.pot, rfl, ?_⟩
    conv => whnf
    refine ⟨mul_ok 31 17 (by omega) (by decide) (by decide), ?_⟩
    conv => whnf
    refine ⟨_, _, lst_at p1.pot, rfl, ?_⟩
    conv => whnf
    refine ⟨by decide +kernel, ?_⟩
    conv => whnf
    refine ⟨by decide, ?_⟩
    conv => whnf
    refine ⟨?_⟩
    conv => whnf
    refine ⟨hl, ?_⟩
    exact h _ _ _ _ (Int.emod_nonneg _ (by omega)) (Int.emod_lt_of_pos _ hl) p1
theorem next_wp (p : Pot s j k cs i b sd) (hl : 0 < l) (hl2 : l.natAbs.log2 < 9000)
    (h : ∀ v i' b' sd' : Int, 0 ≤ v → v < l → Pot (s.set j (.lst [.ref k, .int i', .int b', .int sd'])) j k cs i' b' sd' → K (.int v) (s.set j (.lst [.ref k, .int i', .int b', .int sd']))) :
    wSs C nextB [.val (.ref j), .val (.int l), .non, .non, .non] s N K E := by
  conv => whnf
  refine ⟨_, _, lst_at p.pot, rfl, ?_⟩
  conv => whnf
  refine ⟨_, peq_int _ _ _, ?_⟩
  conv => whnf
  refine ⟨fun hb => ?_, fun hb => ?_⟩
  · conv => whnf
    refine ⟨_, _, lst_at p.pot, rfl, ?_⟩
    conv => whnf
    refine ⟨_, _, lst_at p.pot, rfl, ?_⟩
    conv => whnf
    refine ⟨_, lst_at p.cel, ?_⟩
    conv => whnf
    refine ⟨fun hi => ?_, fun hi => ?_⟩
    · have hi := of_decide_eq_true hi
      rw [List.length_map] at hi
      obtain ⟨c, hc⟩ := at_map p.i0 hi
      conv => whnf
      refine ⟨_, _, lst_at p.pot, rfl, ?_⟩
      conv => whnf
      refine ⟨_, _, lst_at p.pot, rfl, ?_⟩
      conv => whnf
      refine ⟨_, _, lst_at p.cel, hc, ?_⟩
      conv => whnf
      refine ⟨?_⟩
      conv => whnf
      refine ⟨_, _, lst_at p.pot, rfl, ?_⟩
      conv => whnf
      refine ⟨_, _, p.pot, rfl, ?_⟩
      conv => whnf
      refine ⟨?_⟩
      have hi0 := p.i0
      have p1 := p.put (i' := i + 1) (by omega) p.b0 p.s0 p.s1
      conv => whnf
      refine ⟨by decide, ?_⟩
      conv => whnf
      refine ⟨fun hq => ?_, fun hq => ?_⟩
      · conv => whnf
        refine ⟨hl, ?_⟩
        exact h _ _ _ _ (Int.emod_nonneg _ (by omega)) (Int.emod_lt_of_pos _ hl) p1
      · conv => whnf
        refine ⟨?_⟩
        conv => whnf
        refine ⟨_, _, p1.pot, rfl, ?_⟩
        conv => whnf
        refine ⟨?_⟩
        have p2 := p1.put (b' := if c < 0 then -c else c) p1.i0 (by split <;> omega) p.s0 p.s1
        refine ⟨next_rest p2 hl hl2 fun v i' b' sd' h1 h2 h3 => ?_⟩
        have := h v i' b' sd' h1 h2
        rw [List.set_set, List.set_set] at h3 ⊢
        exact this h3
    · conv => whnf
      refine ⟨?_⟩
      exact next_rest p hl hl2 h
  · conv => whnf
    refine ⟨fun hq => ?_, fun hq => ?_⟩
    · exact Bool.noConfusion (hb.symm.trans hq)
    · conv => whnf
      refine ⟨?_⟩
      exact next_rest p hl hl2 h
end
end EW

set_option Elab.async false
set_option linter.all false
set_option maxRecDepth 100000
set_option maxHeartbeats 0
/-! M layer 23: loops, comprehensions, from the wish back; the pot. -/
namespace EW
open PySem
def itPP (k : IK) (vs : List D) (K : Itr → Sto → Prop) (s : Sto) : Prop := match k, vs with
  | .plain, [.ref m] => ∃ xs, lstAt s m = some xs ∧ K (itLst m xs.length) s
  | .plain, [.tup xs] => K (itTup xs) s
  | .range1, [.int j] => (-(2 ^ 62) ≤ j ∧ j ≤ sizeLine) ∧ K (itRng 0 j.toNat) s
  | .range2, [.int i, .int j] => (-(2 ^ 62) ≤ i ∧ i < 2 ^ 62 ∧ -(2 ^ 62) ≤ j ∧ j < 2 ^ 62 ∧ j - i ≤ sizeLine) ∧ K (itRng i (j - i).toNat) s
  | _, _ => False
theorem itPP_ok {k : IK} {vs : List D} {K : Itr → Sto → Prop} {s : Sto} {E : Exn → Sto → Prop} (h : itPP k vs K s) : resP (mkIt k vs s) K E := by
  unfold itPP at h
  split at h
  · obtain ⟨xs, h1, h2⟩ := h
    rename_i m
    show resP (itPlain (.ref m) s) K E
    unfold itPlain
    dsimp only
    rw [h1]
    exact h2
  · exact h
  · rename_i j
    show resP (itR1 (.int j) s) K E
    unfold itR1
    dsimp only
    rw [if_pos h.1]
    exact h.2
  · rename_i i j
    show resP (itR2 (.int i) (.int j) s) K E
    unfold itR2
    dsimp only
    rw [if_pos h.1]
    exact h.2
  · exact h.elim
structure ForP (C : Cal) (tg : Tg) (b : CSs) (it : Itr) (n i : Nat) (r : Env) (s : Sto) (N : Env → Sto → Prop) (R : D → Sto → Prop) (E : Exn → Env → Sto → Prop) : Prop where
  go : sresP (forGo it tg (fun r s => sems C r s b) n i r s) N R E
section
variable {C : Cal} {tg : Tg} {b : CSs} {it : Itr} {n i : Nat} {r : Env} {s : Sto} {N : Env → Sto → Prop} {R : D → Sto → Prop} {E : Exn → Env → Sto → Prop}
theorem wfor {ik : IK} {src : CEs} (h : wEs C r (fun x s1 => E x r s1) src (fun vs s1 => itPP ik vs (fun it s2 => ForP C tg b it it.n 0 r s2 N R E) s1) s) : Ws (sem C r s (.forS tg ik src b)) N R E := by
  refine ⟨?_⟩
  have q : resP (M.bind (dens C r src) (mkIt ik) s) (fun it s2 => ForP C tg b it it.n 0 r s2 N R E) (fun x s1 => E x r s1) := resP_bind (resP_mono (wEs_ok src h) fun vs s1 h1 => itPP_ok h1)
  show sresP (match M.bind (dens C r src) (mkIt ik) s with
    | .ok it s1 => forGo it tg (fun r s => sems C r s b) it.n 0 r s1
    | .exc x s1 => .ex x r s1
    | .no => .no) N R E
  cases z : M.bind (dens C r src) (mkIt ik) s with
  | ok it s1 => rw [z] at q; exact ForP.go q
  | exc x s1 => rw [z] at q; exact q
  | no => rw [z] at q; exact q
theorem ForP.done (hf : it.fin s = true) (h : N r s) : ForP C tg b it 0 i r s N R E := by
  refine ⟨?_⟩
  unfold forGo
  rw [if_pos hf]
  exact h
theorem ForP.step {x : D} {r1 : Env} (hx : it.at_ i s = some x) (hb : bindT tg x r s = .ok r1 s) (h : wSs C b r1 s (fun r2 s2 => ForP C tg b it n (i + 1) r2 s2 N R E) R E) : ForP C tg b it (n + 1) i r s N R E := by
  refine ⟨?_⟩
  unfold forGo
  rw [hx]
  dsimp only
  rw [hb]
  dsimp only
  have q := wSs_ok b h
  cases z : sems C r1 s b with
  | nx r2 s2 => rw [z] at q; exact ForP.go q
  | rt d s2 => rw [z] at q; exact q
  | ex x r2 s2 => rw [z] at q; exact q
  | no => rw [z] at q; exact q
/-- by an invariant -/
theorem ForP.inv (I : Nat → Env → Sto → Prop) (step : ∀ i r s, i < it.n → I i r s → ∃ x r1, it.at_ i s = some x ∧ bindT tg x r s = .ok r1 s ∧ wSs C b r1 s (I (i + 1)) R E) (fin : ∀ r s, I it.n r s → it.fin s = true ∧ N r s) :
    ∀ (n i : Nat) (r : Env) (s : Sto), i + n = it.n → I i r s → ForP C tg b it n i r s N R E
  | 0, i, r, s, hn, h => by
    rw [Nat.add_zero] at hn
    rw [hn] at h
    obtain ⟨h1, h2⟩ := fin r s h
    exact .done h1 h2
  | n + 1, i, r, s, hn, h => by
    obtain ⟨x, r1, h1, h2, h3⟩ := step i r s (by omega) h
    refine ⟨?_⟩
    unfold forGo
    rw [h1]
    dsimp only
    rw [h2]
    dsimp only
    have q := wSs_ok b h3
    cases z : sems C r1 s b with
    | nx r2 s2 => rw [z] at q; exact (ForP.inv I step fin n (i + 1) r2 s2 (by omega) q).go
    | rt d s2 => rw [z] at q; exact q
    | ex x r2 s2 => rw [z] at q; exact q
    | no => rw [z] at q; exact q
end
/-! ### comprehensions -/
def noE : Exn → Sto → Prop := fun _ _ => False
def lcB (C : Cal) (r0 : Env) (tg : Tg) (cond : CEs) (elt : CE) : D → M (Option D) := fun x => M.bind (bindT tg x r0) fun r1 => M.bind (denC C r1 cond) fun b => if b = true then M.bind (den C r1 elt) fun y => M.pure (some y) else M.pure none
structure LcP (C : Cal) (r0 : Env) (tg : Tg) (cond : CEs) (elt : CE) (it : Itr) (n i : Nat) (acc : List D) (s : Sto) (K : List D → Sto → Prop) : Prop where
  go : resP (lcGo it (lcB C r0 tg cond elt) n i acc s) K noE
def wC (C : Cal) (r : Env) (cond : CEs) (K : Bool → Sto → Prop) (s : Sto) : Prop := match cond with
  | .nil => K true s
  | .cons e .nil => wE C r noE e (fun x s1 => truP noE x K s1) s
  | _ => False
section
variable {C : Cal} {r r0 : Env} {tg : Tg} {cond : CEs} {elt : CE} {it : Itr} {n i : Nat} {acc : List D} {s : Sto} {K : List D → Sto → Prop}
theorem wC_ok {K : Bool → Sto → Prop} (h : wC C r cond K s) : resP (denC C r cond s) K noE := by
  unfold wC at h
  split at h
  · exact h
  · exact resP_bind (resP_mono (wE_ok _ h) fun x s1 h1 => truP_ok _ h1)
  · exact h.elim
theorem wlc {own : List Nat} {ik : IK} {src : CEs} {K : D → Sto → Prop} {E : Exn → Sto → Prop} (h : wEs C r E src (fun vs s1 => itPP ik vs (fun it s2 => LcP C (wipeE r own) tg cond elt it it.n 0 [] s2 (fun acc s3 => K (.ref s3.length) (s3 ++ [.lst acc]))) s1) s) :
    Wp (den C r (.lc own tg ik src cond elt) s) K E := by
  refine ⟨resP_bind (resP_mono (wEs_ok src h) fun vs s1 h1 => resP_bind (resP_mono (itPP_ok h1) fun it s2 h2 => resP_bind ?_))⟩
  have q := h2.go
  show resP (lcGo it (lcB C (wipeE r own) tg cond elt) it.n 0 [] s2) _ E
  cases z : lcGo it (lcB C (wipeE r own) tg cond elt) it.n 0 [] s2 with
  | ok a s3 => rw [z] at q; exact q
  | exc x s3 => rw [z] at q; exact q.elim
  | no => rw [z] at q; exact q
theorem LcP.done (hf : it.fin s = true) (h : K acc s) : LcP C r0 tg cond elt it 0 i acc s K := by
  refine ⟨?_⟩
  rw [lcGo_zero, if_pos hf]
  exact h
/-- one item -/
def lcStep (C : Cal) (r0 : Env) (tg : Tg) (cond : CEs) (elt : CE) (x : D) (acc : List D) (s : Sto) (K : List D → Sto → Prop) : Prop :=
  resP (bindT tg x r0 s) (fun r1 s1 => wC C r1 cond (fun b s2 => iteP b (wE C r1 noE elt (fun y s3 => K (acc ++ [y]) s3) s2) (K acc s2)) s1) noE
theorem lcStep_ok {x : D} (h : lcStep C r0 tg cond elt x acc s K) : resP (lcB C r0 tg cond elt x s) (fun o s1 => K (acc ++ o.toList) s1) noE :=
  resP_bind (resP_mono h fun r1 s1 h1 => resP_bind (resP_mono (wC_ok h1) fun b s2 h2 => by
    cases b with
    | true => exact resP_bind (wE_ok elt (h2.1 rfl))
    | false =>
      have := h2.2 rfl
      show K (acc ++ []) s2
      rw [List.append_nil]
      exact this))
theorem LcP.step {x : D} (hx : it.at_ i s = some x) (h : lcStep C r0 tg cond elt x acc s (fun acc s1 => LcP C r0 tg cond elt it n (i + 1) acc s1 K)) : LcP C r0 tg cond elt it (n + 1) i acc s K := by
  refine ⟨?_⟩
  rw [lcGo_succ, hx]
  dsimp only
  have q := lcStep_ok h
  cases z : lcB C r0 tg cond elt x s with
  | ok o s1 => rw [z] at q; exact LcP.go q
  | exc e s1 => rw [z] at q; exact q.elim
  | no => rw [z] at q; exact q
theorem LcP.inv (I : Nat → List D → Sto → Prop) (step : ∀ i acc s, i < it.n → I i acc s → ∃ x, it.at_ i s = some x ∧ lcStep C r0 tg cond elt x acc s (I (i + 1))) (fin : ∀ acc s, I it.n acc s → it.fin s = true ∧ K acc s) :
    ∀ (n i : Nat) (acc : List D) (s : Sto), i + n = it.n → I i acc s → LcP C r0 tg cond elt it n i acc s K
  | 0, i, acc, s, hn, h => by
    rw [Nat.add_zero] at hn
    rw [hn] at h
    obtain ⟨h1, h2⟩ := fin acc s h
    exact .done h1 h2
  | n + 1, i, acc, s, hn, h => by
    obtain ⟨x, h1, h2⟩ := step i acc s (by omega) h
    refine ⟨?_⟩
    rw [lcGo_succ, h1]
    dsimp only
    have q := lcStep_ok h2
    cases z : lcB C r0 tg cond elt x s with
    | ok o s1 => rw [z] at q; exact (LcP.inv I step fin n (i + 1) _ s1 (by omega) q).go
    | exc e s1 => rw [z] at q; exact q.elim
    | no => rw [z] at q; exact q
end
/-! ### the pot -/
def potB : CSs := (.cons (.asg (.nm 1) (.int 1)) (.cons (.forS (.nm 2) .plain (.cons (.var 0) .nil) (.cons (.asg (.nm 1) (.bin .mod (.bi .int (.cons (.bin .add (.bin .mul (.var 1) (.int 31)) (.var 2)) .nil)) (.int 2147483647))) .nil)) (.cons (.ret (.lst (.cons (.bi .lst (.cons (.var 0) .nil)) (.cons (.int 0) (.cons (.int 0) (.cons (.var 1) .nil)))))) .nil)))
theorem pot_wp {C : Cal} {xs : List Int} {K : D → Sto → Prop} {E : Exn → Env → Sto → Prop} {N : Env → Sto → Prop}
    (h : ∀ sd : Int, 0 ≤ sd → sd < 2147483647 → K (.ref 2) [.rol (xs.map .int), .lst (xs.map .int), .lst [.ref 1, .int 0, .int 0, .int sd]]) :
    wSs C potB [.val (.ref 0), .non, .non] [.rol (xs.map .int)] N K E := by
  conv => whnf
  refine ⟨?_⟩
  conv => whnf
  refine wfor ?_
  conv => whnf
  refine ⟨_, rfl, ?_⟩
  refine ForP.inv (fun i r s => s = [.rol (xs.map .int)] ∧ ∃ (sd : Int) (z : Slot), r = [.val (.ref 0), .val (.int sd), z] ∧ 0 ≤ sd ∧ sd < 2147483647) ?_ ?_ _ _ _ _ (by show 0 + _ = _; exact Nat.zero_add _) ⟨rfl, 1, .non, rfl, by decide, by decide⟩
  · rintro i r s hi ⟨rfl, sd, z, rfl, h0, h1⟩
    have hi : i < (xs.map EW.D.int).length := hi
    have hi2 : i < xs.length := by simpa using hi
    refine ⟨.int xs[i], _, ?_, rfl, ?_⟩
    · show (xs.map EW.D.int)[i]? = _
      rw [List.getElem?_map, List.getElem?_eq_getElem hi2]
      rfl
    · conv => whnf
      refine ⟨mul_ok 31 5 (by omega) (by decide) (by decide), ?_⟩
      conv => whnf
      refine ⟨by decide, ?_⟩
      conv => whnf
      refine ⟨?_⟩
      exact ⟨rfl, _, _, rfl, Int.emod_nonneg _ (by decide), Int.emod_lt_of_pos _ (by decide)⟩
  · rintro r s ⟨rfl, sd, z, rfl, h0, h1⟩
    refine ⟨?_, ⟨?_⟩⟩
    · show decide (_ ≤ _) = true
      exact decide_eq_true (Nat.le_refl _)
    · conv => whnf
      refine ⟨_, rfl, ?_⟩
      exact h sd h0 h1
end EW

set_option Elab.async false
set_option linter.all false
set_option maxRecDepth 100000
set_option maxHeartbeats 0
namespace K02
open EW PySem PySem.Spec PyProof.Rows L2
def top (i : Nat) : Stmt := PySem.Challenge.pw_everyworth_k02_built_semirings.main.body.getD i (.Pass ⟨0, 0, 0, 0⟩)
def inCls (s : Stmt) (k : Nat) : Stmt := match s with
  | .ClassDef _ _ _ b _ _ _ _ _ _ _ => b.getD k (.Pass ⟨0, 0, 0, 0⟩)
  | _ => .Pass ⟨0, 0, 0, 0⟩
abbrev st0 : Stmt := top 5
/-- is_number: thing -/
def b0 : CSs := (.cons (.ret (.andl (.cons (.isi (.var 0) [.int]) (.cons (.nt (.isi (.var 0) [.bool])) .nil)))) .nil)
def t0 : FT := ⟨["thing"], ["thing"], b0⟩
def d0 : He.DefD := ⟨("is_number", none), "is_number", "is_number", defArgs st0, defBody st0, defScope st0, [], []⟩
abbrev st1 : Stmt := inCls (top 8) 0
/-- Numbers.zero: self -/
def b1 : CSs := (.cons (.ret (.int 0)) .nil)
def t1 : FT := ⟨["self"], ["self"], b1⟩
def d1 : He.DefD := ⟨("Numbers", some ("zero" : Str)), "zero", "Numbers.zero", defArgs st1, defBody st1, defScope st1, [], []⟩
abbrev st2 : Stmt := inCls (top 8) 1
/-- Numbers.one: self -/
def b2 : CSs := (.cons (.ret (.int 1)) .nil)
def t2 : FT := ⟨["self"], ["self"], b2⟩
def d2 : He.DefD := ⟨("Numbers", some ("one" : Str)), "one", "Numbers.one", defArgs st2, defBody st2, defScope st2, [], []⟩
abbrev st3 : Stmt := inCls (top 8) 2
/-- Numbers.plus: self, a, b -/
def b3 : CSs := (.cons (.ret (.bin .add (.var 1) (.var 2))) .nil)
def t3 : FT := ⟨["self", "a", "b"], ["self", "a", "b"], b3⟩
def d3 : He.DefD := ⟨("Numbers", some ("plus" : Str)), "plus", "Numbers.plus", defArgs st3, defBody st3, defScope st3, [], []⟩
abbrev st4 : Stmt := inCls (top 8) 3
/-- Numbers.times: self, a, b -/
def b4 : CSs := (.cons (.ret (.bin .mul (.var 1) (.var 2))) .nil)
def t4 : FT := ⟨["self", "a", "b"], ["self", "a", "b"], b4⟩
def d4 : He.DefD := ⟨("Numbers", some ("times" : Str)), "times", "Numbers.times", defArgs st4, defBody st4, defScope st4, [], []⟩
abbrev st5 : Stmt := inCls (top 8) 4
/-- Numbers.star: self, a -/
def b5 : CSs := (.cons (.ite (.cmp .ne (.var 1) (.int 0)) (.cons (.raise 2) .nil) .nil) (.cons (.ret (.int 1)) .nil))
def t5 : FT := ⟨["self", "a"], ["self", "a"], b5⟩
def d5 : He.DefD := ⟨("Numbers", some ("star" : Str)), "star", "Numbers.star", defArgs st5, defBody st5, defScope st5, [], []⟩
abbrev st6 : Stmt := inCls (top 8) 5
/-- Numbers.is_element: self, a -/
def b6 : CSs := (.cons (.ret (.andl (.cons (.call 0 (.cons (.var 1) .nil)) (.cons (.cmp .ge (.var 1) (.int 0)) .nil)))) .nil)
def t6 : FT := ⟨["self", "a"], ["self", "a"], b6⟩
def d6 : He.DefD := ⟨("Numbers", some ("is_element" : Str)), "is_element", "Numbers.is_element", defArgs st6, defBody st6, defScope st6, [], []⟩
abbrev st7 : Stmt := inCls (top 9) 0
/-- Costs.zero: self -/
def b7 : CSs := (.cons (.ret .non) .nil)
def t7 : FT := ⟨["self"], ["self"], b7⟩
def d7 : He.DefD := ⟨("Costs", some ("zero" : Str)), "zero", "Costs.zero", defArgs st7, defBody st7, defScope st7, [], []⟩
abbrev st8 : Stmt := inCls (top 9) 1
/-- Costs.one: self -/
def b8 : CSs := (.cons (.ret (.int 0)) .nil)
def t8 : FT := ⟨["self"], ["self"], b8⟩
def d8 : He.DefD := ⟨("Costs", some ("one" : Str)), "one", "Costs.one", defArgs st8, defBody st8, defScope st8, [], []⟩
abbrev st9 : Stmt := inCls (top 9) 2
/-- Costs.plus: self, a, b -/
def b9 : CSs := (.cons (.ite (.cmp .is (.var 1) .non) (.cons (.ret (.var 2)) .nil) .nil) (.cons (.ret (.ife (.cmp .is (.var 2) .non) (.var 1) (.bi .min2 (.cons (.var 1) (.cons (.var 2) .nil))))) .nil))
def t9 : FT := ⟨["self", "a", "b"], ["self", "a", "b"], b9⟩
def d9 : He.DefD := ⟨("Costs", some ("plus" : Str)), "plus", "Costs.plus", defArgs st9, defBody st9, defScope st9, [], []⟩
abbrev st10 : Stmt := inCls (top 9) 3
/-- Costs.times: self, a, b -/
def b10 : CSs := (.cons (.ret (.ife (.orl (.cons (.cmp .is (.var 1) .non) (.cons (.cmp .is (.var 2) .non) .nil))) .non (.bin .add (.var 1) (.var 2)))) .nil)
def t10 : FT := ⟨["self", "a", "b"], ["self", "a", "b"], b10⟩
def d10 : He.DefD := ⟨("Costs", some ("times" : Str)), "times", "Costs.times", defArgs st10, defBody st10, defScope st10, [], []⟩
abbrev st11 : Stmt := inCls (top 9) 4
/-- Costs.star: self, a -/
def b11 : CSs := (.cons (.ret (.int 0)) .nil)
def t11 : FT := ⟨["self", "a"], ["self", "a"], b11⟩
def d11 : He.DefD := ⟨("Costs", some ("star" : Str)), "star", "Costs.star", defArgs st11, defBody st11, defScope st11, [], []⟩
abbrev st12 : Stmt := inCls (top 9) 5
/-- Costs.is_element: self, a -/
def b12 : CSs := (.cons (.ret (.orl (.cons (.cmp .is (.var 1) .non) (.cons (.andl (.cons (.call 0 (.cons (.var 1) .nil)) (.cons (.cmp .ge (.var 1) (.int 0)) .nil))) .nil)))) .nil)
def t12 : FT := ⟨["self", "a"], ["self", "a"], b12⟩
def d12 : He.DefD := ⟨("Costs", some ("is_element" : Str)), "is_element", "Costs.is_element", defArgs st12, defBody st12, defScope st12, [], []⟩
abbrev st13 : Stmt := inCls (top 10) 0
/-- Levels.__init__: self, top -/
def b13 : CSs := (.cons (.ite (.cmp .lt (.var 1) (.int 1)) (.cons (.raise 1) .nil) .nil) (.cons (.setf (.var 0) 0 (.var 1)) .nil))
def t13 : FT := ⟨["self", "top"], ["self", "top"], b13⟩
def d13 : He.DefD := ⟨("Levels", some ("__init__" : Str)), "__init__", "Levels.__init__", defArgs st13, defBody st13, defScope st13, [], []⟩
abbrev st14 : Stmt := inCls (top 10) 1
/-- Levels.zero: self -/
def b14 : CSs := (.cons (.ret (.int 0)) .nil)
def t14 : FT := ⟨["self"], ["self"], b14⟩
def d14 : He.DefD := ⟨("Levels", some ("zero" : Str)), "zero", "Levels.zero", defArgs st14, defBody st14, defScope st14, [], []⟩
abbrev st15 : Stmt := inCls (top 10) 2
/-- Levels.one: self -/
def b15 : CSs := (.cons (.ret (.fld (.var 0) 0)) .nil)
def t15 : FT := ⟨["self"], ["self"], b15⟩
def d15 : He.DefD := ⟨("Levels", some ("one" : Str)), "one", "Levels.one", defArgs st15, defBody st15, defScope st15, [], []⟩
abbrev st16 : Stmt := inCls (top 10) 3
/-- Levels.plus: self, a, b -/
def b16 : CSs := (.cons (.ret (.bi .max2 (.cons (.var 1) (.cons (.var 2) .nil)))) .nil)
def t16 : FT := ⟨["self", "a", "b"], ["self", "a", "b"], b16⟩
def d16 : He.DefD := ⟨("Levels", some ("plus" : Str)), "plus", "Levels.plus", defArgs st16, defBody st16, defScope st16, [], []⟩
abbrev st17 : Stmt := inCls (top 10) 4
/-- Levels.times: self, a, b -/
def b17 : CSs := (.cons (.ret (.bi .min2 (.cons (.var 1) (.cons (.var 2) .nil)))) .nil)
def t17 : FT := ⟨["self", "a", "b"], ["self", "a", "b"], b17⟩
def d17 : He.DefD := ⟨("Levels", some ("times" : Str)), "times", "Levels.times", defArgs st17, defBody st17, defScope st17, [], []⟩
abbrev st18 : Stmt := inCls (top 10) 5
/-- Levels.star: self, a -/
def b18 : CSs := (.cons (.ret (.fld (.var 0) 0)) .nil)
def t18 : FT := ⟨["self", "a"], ["self", "a"], b18⟩
def d18 : He.DefD := ⟨("Levels", some ("star" : Str)), "star", "Levels.star", defArgs st18, defBody st18, defScope st18, [], []⟩
abbrev st19 : Stmt := inCls (top 10) 6
/-- Levels.is_element: self, a -/
def b19 : CSs := (.cons (.ret (.andl (.cons (.call 0 (.cons (.var 1) .nil)) (.cons (.chn .le .le (.int 0) (.var 1) (.fld (.var 0) 0)) .nil)))) .nil)
def t19 : FT := ⟨["self", "a"], ["self", "a"], b19⟩
def d19 : He.DefD := ⟨("Levels", some ("is_element" : Str)), "is_element", "Levels.is_element", defArgs st19, defBody st19, defScope st19, [], []⟩
abbrev st20 : Stmt := inCls (top 11) 0
/-- Events.__init__: self, count -/
def b20 : CSs := (.cons (.ite (.nt (.chn .le .le (.int 0) (.var 1) (.con 0))) (.cons (.raise 1) .nil) .nil) (.cons (.setf (.var 0) 1 (.bin .sub (.bin .shl (.int 1) (.var 1)) (.int 1))) .nil))
def t20 : FT := ⟨["self", "count"], ["self", "count"], b20⟩
def d20 : He.DefD := ⟨("Events", some ("__init__" : Str)), "__init__", "Events.__init__", defArgs st20, defBody st20, defScope st20, [], []⟩
abbrev st21 : Stmt := inCls (top 11) 1
/-- Events.zero: self -/
def b21 : CSs := (.cons (.ret (.int 0)) .nil)
def t21 : FT := ⟨["self"], ["self"], b21⟩
def d21 : He.DefD := ⟨("Events", some ("zero" : Str)), "zero", "Events.zero", defArgs st21, defBody st21, defScope st21, [], []⟩
abbrev st22 : Stmt := inCls (top 11) 2
/-- Events.one: self -/
def b22 : CSs := (.cons (.ret (.fld (.var 0) 1)) .nil)
def t22 : FT := ⟨["self"], ["self"], b22⟩
def d22 : He.DefD := ⟨("Events", some ("one" : Str)), "one", "Events.one", defArgs st22, defBody st22, defScope st22, [], []⟩
abbrev st23 : Stmt := inCls (top 11) 3
/-- Events.plus: self, a, b -/
def b23 : CSs := (.cons (.ret (.bin .or (.var 1) (.var 2))) .nil)
def t23 : FT := ⟨["self", "a", "b"], ["self", "a", "b"], b23⟩
def d23 : He.DefD := ⟨("Events", some ("plus" : Str)), "plus", "Events.plus", defArgs st23, defBody st23, defScope st23, [], []⟩
abbrev st24 : Stmt := inCls (top 11) 4
/-- Events.times: self, a, b -/
def b24 : CSs := (.cons (.ret (.bin .and (.var 1) (.var 2))) .nil)
def t24 : FT := ⟨["self", "a", "b"], ["self", "a", "b"], b24⟩
def d24 : He.DefD := ⟨("Events", some ("times" : Str)), "times", "Events.times", defArgs st24, defBody st24, defScope st24, [], []⟩
abbrev st25 : Stmt := inCls (top 11) 5
/-- Events.star: self, a -/
def b25 : CSs := (.cons (.ret (.fld (.var 0) 1)) .nil)
def t25 : FT := ⟨["self", "a"], ["self", "a"], b25⟩
def d25 : He.DefD := ⟨("Events", some ("star" : Str)), "star", "Events.star", defArgs st25, defBody st25, defScope st25, [], []⟩
abbrev st26 : Stmt := inCls (top 11) 6
/-- Events.is_element: self, a -/
def b26 : CSs := (.cons (.ret (.andl (.cons (.call 0 (.cons (.var 1) .nil)) (.cons (.chn .le .le (.int 0) (.var 1) (.fld (.var 0) 1)) .nil)))) .nil)
def t26 : FT := ⟨["self", "a"], ["self", "a"], b26⟩
def d26 : He.DefD := ⟨("Events", some ("is_element" : Str)), "is_element", "Events.is_element", defArgs st26, defBody st26, defScope st26, [], []⟩
abbrev st27 : Stmt := top 13
/-- _law_pot: _law_script, _law_seed, _law_cell -/
def b27 : CSs := (.cons (.asg (.nm 1) (.int 1)) (.cons (.forS (.nm 2) .plain (.cons (.var 0) .nil) (.cons (.asg (.nm 1) (.bin .mod (.bi .int (.cons (.bin .add (.bin .mul (.var 1) (.int 31)) (.var 2)) .nil)) (.int 2147483647))) .nil)) (.cons (.ret (.lst (.cons (.bi .lst (.cons (.var 0) .nil)) (.cons (.int 0) (.cons (.int 0) (.cons (.var 1) .nil)))))) .nil)))
def t27 : FT := ⟨["_law_script"], ["_law_script", "_law_seed", "_law_cell"], b27⟩
def d27 : He.DefD := ⟨("_law_pot", none), "_law_pot", "_law_pot", defArgs st27, defBody st27, defScope st27, [], []⟩
abbrev st28 : Stmt := top 14
/-- _law_next: _law_pot_here, _law_limit, _law_mixed, _law_cell, _law_found -/
def b28 : CSs := (.cons (.ite (.andl (.cons (.cmp .eq (.ix (.var 0) (.int 2)) (.int 0)) (.cons (.cmp .lt (.ix (.var 0) (.int 1)) (.bi .len (.cons (.ix (.var 0) (.int 0)) .nil))) .nil))) (.cons (.asg (.nm 3) (.bi .abs (.cons (.bi .int (.cons (.ix (.ix (.var 0) (.int 0)) (.ix (.var 0) (.int 1))) .nil)) .nil))) (.cons (.seti (.var 0) (.int 1) (.bin .add (.ix (.var 0) (.int 1)) (.int 1))) (.cons (.ite (.cmp .lt (.var 3) (.bin .pow (.int 10) (.int 18))) (.cons (.ret (.bin .mod (.bi .int (.cons (.var 3) .nil)) (.var 1))) .nil) .nil) (.cons (.seti (.var 0) (.int 2) (.var 3)) .nil)))) .nil) (.cons (.ite (.cmp .gt (.ix (.var 0) (.int 2)) (.int 0)) (.cons (.asg (.nm 4) (.bin .mod (.bi .int (.cons (.ix (.var 0) (.int 2)) .nil)) (.var 1))) (.cons (.seti (.var 0) (.int 2) (.bin .fdiv (.ix (.var 0) (.int 2)) (.var 1))) (.cons (.ret (.var 4)) .nil))) .nil) (.cons (.seti (.var 0) (.int 3) (.bin .mod (.bi .int (.cons (.bin .add (.bin .mul (.ix (.var 0) (.int 3)) (.int 48271)) (.int 12345)) .nil)) (.int 2147483647))) (.cons (.asg (.nm 2) (.bin .mod (.bi .int (.cons (.bin .add (.bin .mul (.ix (.var 0) (.int 3)) (.int 69621)) (.bin .fdiv (.ix (.var 0) (.int 3)) (.int 127))) .nil)) (.int 2147483629))) (.cons (.ret (.bin .mod (.bi .int (.cons (.var 2) .nil)) (.var 1))) .nil)))))
def t28 : FT := ⟨["_law_pot_here", "_law_limit"], ["_law_pot_here", "_law_limit", "_law_mixed", "_law_cell", "_law_found"], b28⟩
def d28 : He.DefD := ⟨("_law_next", none), "_law_next", "_law_next", defArgs st28, defBody st28, defScope st28, [], []⟩
abbrev st29 : Stmt := top 15
/-- _law_is_int: _law_value -/
def b29 : CSs := (.cons (.ret (.andl (.cons (.isi (.var 0) [.int]) (.cons (.nt (.isi (.var 0) [.bool])) .nil)))) .nil)
def t29 : FT := ⟨["_law_value"], ["_law_value"], b29⟩
def d29 : He.DefD := ⟨("_law_is_int", none), "_law_is_int", "_law_is_int", defArgs st29, defBody st29, defScope st29, [], []⟩
abbrev st30 : Stmt := top 16
/-- _law_same: _law_found, _law_value, _law_k -/
def b30 : CSs := (.cons (.ite (.cmp .is (.var 1) .non) (.cons (.ret (.cmp .is (.var 0) .non)) .nil) .nil) (.cons (.ite (.isi (.var 1) [.bool]) (.cons (.ret (.andl (.cons (.isi (.var 0) [.bool]) (.cons (.cmp .eq (.var 0) (.var 1)) .nil)))) .nil) .nil) (.cons (.ite (.isi (.var 1) [.int]) (.cons (.ret (.andl (.cons (.call 29 (.cons (.var 0) .nil)) (.cons (.cmp .eq (.var 0) (.var 1)) .nil)))) .nil) .nil) (.cons (.ite (.isi (.var 1) [.str]) (.cons (.ret (.andl (.cons (.isi (.var 0) [.str]) (.cons (.cmp .eq (.var 0) (.var 1)) .nil)))) .nil) .nil) (.cons (.ite (.orl (.cons (.cmp .ne (.isi (.var 1) [.lst]) (.isi (.var 0) [.lst])) (.cons (.cmp .ne (.isi (.var 1) [.tup]) (.isi (.var 0) [.tup])) .nil))) (.cons (.ret (.bl false)) .nil) .nil) (.cons (.ret (.andl (.cons (.cmp .eq (.bi .len (.cons (.var 0) .nil)) (.bi .len (.cons (.var 1) .nil))) (.cons (.bi .all (.cons (.lc [2] (.nm 2) .range1 (.cons (.bi .len (.cons (.var 1) .nil)) .nil) .nil (.call 30 (.cons (.ix (.var 0) (.var 2)) (.cons (.ix (.var 1) (.var 2)) .nil)))) .nil)) .nil)))) .nil))))))
def t30 : FT := ⟨["_law_found", "_law_value"], ["_law_found", "_law_value", "_law_k"], b30⟩
def d30 : He.DefD := ⟨("_law_same", none), "_law_same", "_law_same", defArgs st30, defBody st30, defScope st30, [], []⟩
abbrev st31 : Stmt := top 17
/-- _law_star: _law_ring, _law_a, e -/
def b31 : CSs := (.cons (.tryS (.cons (.ret (.lst (.cons (.meth 3 (.var 0) (.cons (.var 1) .nil)) .nil))) .nil) 0 (some 2) (.cons (.ret (.bin .mul (.str [110, 111, 110, 101]) (.bi .int (.cons (.isx 2 2) .nil)))) .nil)) .nil)
def t31 : FT := ⟨["_law_ring", "_law_a"], ["_law_ring", "_law_a", "e"], b31⟩
def d31 : He.DefD := ⟨("_law_star", none), "_law_star", "_law_star", defArgs st31, defBody st31, defScope st31, [], []⟩
abbrev st32 : Stmt := top 18
/-- _law_refused: _law_kind, _law_size, e -/
def b32 : CSs := (.cons (.tryS (.cons (.ite (.cmp .eq (.var 0) (.int 0)) (.cons (.expr (.make 2 (.cons (.var 1) .nil))) .nil) (.cons (.expr (.make 3 (.cons (.var 1) .nil))) .nil)) .nil) 0 (some 2) (.cons (.ret (.isx 2 1)) .nil)) (.cons (.ret (.bl false)) .nil))
def t32 : FT := ⟨["_law_kind", "_law_size"], ["_law_kind", "_law_size", "e"], b32⟩
def d32 : He.DefD := ⟨("_law_refused", none), "_law_refused", "_law_refused", defArgs st32, defBody st32, defScope st32, [], []⟩
abbrev st33 : Stmt := top 19
/-- _law_axioms: _law_ring, _law_a, _law_b, _law_c, _law_star_here -/
def b33 : CSs := (.cons (.ite (.orl (.cons (.cmp .ne (.meth 2 (.var 0) (.cons (.var 1) (.cons (.var 2) .nil))) (.meth 2 (.var 0) (.cons (.var 2) (.cons (.var 1) .nil)))) (.cons (.cmp .ne (.meth 4 (.var 0) (.cons (.var 1) (.cons (.var 2) .nil))) (.meth 4 (.var 0) (.cons (.var 2) (.cons (.var 1) .nil)))) .nil))) (.cons (.ret (.bl false)) .nil) .nil) (.cons (.ite (.cmp .ne (.meth 2 (.var 0) (.cons (.var 1) (.cons (.meth 2 (.var 0) (.cons (.var 2) (.cons (.var 3) .nil))) .nil))) (.meth 2 (.var 0) (.cons (.meth 2 (.var 0) (.cons (.var 1) (.cons (.var 2) .nil))) (.cons (.var 3) .nil)))) (.cons (.ret (.bl false)) .nil) .nil) (.cons (.ite (.cmp .ne (.meth 4 (.var 0) (.cons (.var 1) (.cons (.meth 4 (.var 0) (.cons (.var 2) (.cons (.var 3) .nil))) .nil))) (.meth 4 (.var 0) (.cons (.meth 4 (.var 0) (.cons (.var 1) (.cons (.var 2) .nil))) (.cons (.var 3) .nil)))) (.cons (.ret (.bl false)) .nil) .nil) (.cons (.ite (.cmp .ne (.meth 4 (.var 0) (.cons (.var 1) (.cons (.meth 2 (.var 0) (.cons (.var 2) (.cons (.var 3) .nil))) .nil))) (.meth 2 (.var 0) (.cons (.meth 4 (.var 0) (.cons (.var 1) (.cons (.var 2) .nil))) (.cons (.meth 4 (.var 0) (.cons (.var 1) (.cons (.var 3) .nil))) .nil)))) (.cons (.ret (.bl false)) .nil) .nil) (.cons (.ite (.orl (.cons (.cmp .ne (.meth 2 (.var 0) (.cons (.var 1) (.cons (.meth 5 (.var 0) .nil) .nil))) (.var 1)) (.cons (.cmp .ne (.meth 4 (.var 0) (.cons (.var 1) (.cons (.meth 1 (.var 0) .nil) .nil))) (.var 1)) (.cons (.cmp .ne (.meth 4 (.var 0) (.cons (.var 1) (.cons (.meth 5 (.var 0) .nil) .nil))) (.meth 5 (.var 0) .nil)) .nil)))) (.cons (.ret (.bl false)) .nil) .nil) (.cons (.asg (.nm 4) (.call 31 (.cons (.var 0) (.cons (.var 1) .nil)))) (.cons (.ret (.orl (.cons (.cmp .eq (.var 4) (.str [110, 111, 110, 101])) (.cons (.cmp .eq (.meth 2 (.var 0) (.cons (.meth 1 (.var 0) .nil) (.cons (.meth 4 (.var 0) (.cons (.var 1) (.cons (.ix (.var 4) (.int 0)) .nil))) .nil))) (.ix (.var 4) (.int 0))) .nil)))) .nil)))))))
def t33 : FT := ⟨["_law_ring", "_law_a", "_law_b", "_law_c"], ["_law_ring", "_law_a", "_law_b", "_law_c", "_law_star_here"], b33⟩
def d33 : He.DefD := ⟨("_law_axioms", none), "_law_axioms", "_law_axioms", defArgs st33, defBody st33, defScope st33, [], []⟩
abbrev st34 : Stmt := top 20
/-- _law_due: _law_kind, _law_size, _law_a, _law_b -/
def b34 : CSs := (.cons (.ite (.cmp .eq (.var 0) (.int 0)) (.cons (.ret (.lst (.cons (.bin .add (.var 2) (.var 3)) (.cons (.bin .mul (.var 2) (.var 3)) .nil)))) .nil) .nil) (.cons (.ite (.cmp .eq (.var 0) (.int 1)) (.cons (.ite (.orl (.cons (.cmp .is (.var 2) .non) (.cons (.cmp .is (.var 3) .non) .nil))) (.cons (.ret (.lst (.cons (.ife (.cmp .is (.var 2) .non) (.var 3) (.var 2)) (.cons .non .nil)))) .nil) .nil) (.cons (.ret (.lst (.cons (.bi .min2 (.cons (.var 2) (.cons (.var 3) .nil))) (.cons (.bin .add (.var 2) (.var 3)) .nil)))) .nil)) .nil) (.cons (.ite (.cmp .eq (.var 0) (.int 2)) (.cons (.ret (.lst (.cons (.bi .max2 (.cons (.var 2) (.cons (.var 3) .nil))) (.cons (.bi .min2 (.cons (.var 2) (.cons (.var 3) .nil))) .nil)))) .nil) .nil) (.cons (.ret (.lst (.cons (.bin .or (.var 2) (.var 3)) (.cons (.bin .and (.var 2) (.var 3)) .nil)))) .nil))))
def t34 : FT := ⟨["_law_kind", "_law_size", "_law_a", "_law_b"], ["_law_kind", "_law_size", "_law_a", "_law_b"], b34⟩
def d34 : He.DefD := ⟨("_law_due", none), "_law_due", "_law_due", defArgs st34, defBody st34, defScope st34, [], []⟩
abbrev st35 : Stmt := top 21
/-- _law_element: _law_pot_here, _law_kind, _law_size -/
def b35 : CSs := (.cons (.ite (.andl (.cons (.cmp .eq (.var 1) (.int 1)) (.cons (.cmp .eq (.call 28 (.cons (.var 0) (.cons (.int 4) .nil))) (.int 0)) .nil))) (.cons (.ret .non) .nil) .nil) (.cons (.ite (.cmp .lt (.var 1) (.int 2)) (.cons (.ret (.call 28 (.cons (.var 0) (.cons (.ix (.lst (.cons (.int 3) (.cons (.bin .pow (.int 10) (.int 30)) .nil))) (.call 28 (.cons (.var 0) (.cons (.int 2) .nil)))) .nil)))) .nil) .nil) (.cons (.ret (.call 28 (.cons (.var 0) (.cons (.bin .add (.var 2) (.int 1)) .nil)))) .nil)))
def t35 : FT := ⟨["_law_pot_here", "_law_kind", "_law_size"], ["_law_pot_here", "_law_kind", "_law_size"], b35⟩
def d35 : He.DefD := ⟨("_law_element", none), "_law_element", "_law_element", defArgs st35, defBody st35, defScope st35, [], []⟩
abbrev st36 : Stmt := top 22
/-- law: _law_script, _law_pot_here, _law_kind, _law_size, _law_bits, _law_ring, _law_a, _law_b, _law_c, _law_bad, _law_thing, _law_x -/
def b36 : CSs := (.cons (.asg (.nm 1) (.call 27 (.cons (.var 0) .nil))) (.cons (.asg (.nm 2) (.call 28 (.cons (.var 1) (.cons (.int 4) .nil)))) (.cons (.asg (.nm 3) (.bin .add (.int 1) (.call 28 (.cons (.var 1) (.cons (.ix (.lst (.cons (.int 2) (.cons (.int 50) .nil))) (.call 28 (.cons (.var 1) (.cons (.int 2) .nil)))) .nil))))) (.cons (.asg (.nm 4) (.call 28 (.cons (.var 1) (.cons (.ix (.lst (.cons (.int 4) (.cons (.int 201) .nil))) (.call 28 (.cons (.var 1) (.cons (.int 2) .nil)))) .nil)))) (.cons (.asg (.nm 5) (.ix (.lst (.cons (.make 0 .nil) (.cons (.make 1 .nil) (.cons (.make 2 (.cons (.var 3) .nil)) (.cons (.make 3 (.cons (.var 4) .nil)) .nil))))) (.var 2))) (.cons (.ite (.cmp .eq (.var 2) (.int 3)) (.cons (.asg (.nm 3) (.bin .sub (.bin .shl (.int 1) (.var 4)) (.int 1))) .nil) .nil) (.cons (.asg (.nm 6) (.call 35 (.cons (.var 1) (.cons (.var 2) (.cons (.var 3) .nil))))) (.cons (.asg (.nm 7) (.call 35 (.cons (.var 1) (.cons (.var 2) (.cons (.var 3) .nil))))) (.cons (.asg (.nm 8) (.call 35 (.cons (.var 1) (.cons (.var 2) (.cons (.var 3) .nil))))) (.cons (.ite (.orl (.cons (.nt (.call 33 (.cons (.var 5) (.cons (.var 6) (.cons (.var 7) (.cons (.var 8) .nil)))))) (.cons (.nt (.call 30 (.cons (.lst (.cons (.meth 2 (.var 5) (.cons (.var 6) (.cons (.var 7) .nil))) (.cons (.meth 4 (.var 5) (.cons (.var 6) (.cons (.var 7) .nil))) .nil))) (.cons (.call 34 (.cons (.var 2) (.cons (.var 3) (.cons (.var 6) (.cons (.var 7) .nil))))) .nil)))) .nil))) (.cons (.ret (.bl false)) .nil) .nil) (.cons (.ite (.nt (.call 30 (.cons (.lst (.cons (.meth 5 (.var 5) .nil) (.cons (.meth 1 (.var 5) .nil) .nil))) (.cons (.ix (.lst (.cons (.lst (.cons (.int 0) (.cons (.int 1) .nil))) (.cons (.lst (.cons .non (.cons (.int 0) .nil))) (.cons (.lst (.cons (.int 0) (.cons (.var 3) .nil))) (.cons (.lst (.cons (.int 0) (.cons (.var 3) .nil))) .nil))))) (.var 2)) .nil)))) (.cons (.ret (.bl false)) .nil) .nil) (.cons (.ite (.orl (.cons (.andl (.cons (.cmp .eq (.var 2) (.int 0)) (.cons (.cmp .ne (.cmp .eq (.call 31 (.cons (.var 5) (.cons (.var 6) .nil))) (.str [110, 111, 110, 101])) (.cmp .gt (.var 6) (.int 0))) .nil))) (.cons (.andl (.cons (.cmp .gt (.var 2) (.int 0)) (.cons (.cmp .ne (.call 31 (.cons (.var 5) (.cons (.var 6) .nil))) (.lst (.cons (.ix (.lst (.cons (.int 0) (.cons (.int 0) (.cons (.var 3) (.cons (.var 3) .nil))))) (.var 2)) .nil))) .nil))) .nil))) (.cons (.ret (.bl false)) .nil) .nil) (.cons (.asg (.nm 9) (.bin .add (.lst (.cons (.str [49]) (.cons (.neg (.int 1)) (.cons (.bl true) (.cons (.lst .nil) (.cons (.tup (.cons (.int 0) .nil)) .nil)))))) (.ix (.lst (.cons (.lst .nil) (.cons (.lst .nil) (.cons (.lst (.cons (.bin .add (.var 3) (.int 1)) .nil)) (.cons (.lst (.cons (.bin .add (.var 3) (.int 1)) .nil)) .nil))))) (.var 2)))) (.cons (.ite (.cmp .ne (.var 2) (.int 1)) (.cons (.expr (.bm .append (.var 9) (.cons .non .nil))) .nil) .nil) (.cons (.ite (.orl (.cons (.nt (.bi .all (.cons (.lc [10] (.nm 10) .plain (.cons (.var 9) .nil) .nil (.cmp .is (.meth 0 (.var 5) (.cons (.var 10) .nil)) (.bl false))) .nil))) (.cons (.nt (.bi .all (.cons (.lc [11] (.nm 11) .plain (.cons (.lst (.cons (.var 6) (.cons (.var 7) (.cons (.var 8) .nil)))) .nil) .nil (.cmp .is (.meth 0 (.var 5) (.cons (.var 11) .nil)) (.bl true))) .nil))) .nil))) (.cons (.ret (.bl false)) .nil) .nil) (.cons (.ret (.andl (.cons (.call 32 (.cons (.int 0) (.cons (.int 0) .nil))) (.cons (.call 32 (.cons (.int 1) (.cons (.int 201) .nil))) (.cons (.call 32 (.cons (.int 1) (.cons (.neg (.int 1)) .nil))) .nil))))) .nil))))))))))))))))
def t36 : FT := ⟨["_law_script"], ["_law_script", "_law_pot_here", "_law_kind", "_law_size", "_law_bits", "_law_ring", "_law_a", "_law_b", "_law_c", "_law_bad", "_law_thing", "_law_x"], b36⟩
def d36 : He.DefD := ⟨("law", none), "law", "law", defArgs st36, defBody st36, defScope st36, [], []⟩
def pd : PD := ⟨[d0, d1, d2, d3, d4, d5, d6, d7, d8, d9, d10, d11, d12, d13, d14, d15, d16, d17, d18, d19, d20, d21, d22, d23, d24, d25, d26, d27, d28, d29, d30, d31, d32, d33, d34, d35, d36], [t0, t1, t2, t3, t4, t5, t6, t7, t8, t9, t10, t11, t12, t13, t14, t15, t16, t17, t18, t19, t20, t21, t22, t23, t24, t25, t26, t27, t28, t29, t30, t31, t32, t33, t34, t35, t36], [⟨"Numbers", [], [(5, 1), (1, 2), (2, 3), (4, 4), (3, 5), (0, 6)], none, true⟩, ⟨"Costs", [], [(5, 7), (1, 8), (2, 9), (4, 10), (3, 11), (0, 12)], none, true⟩, ⟨"Levels", [0], [(5, 14), (1, 15), (2, 16), (4, 17), (3, 18), (0, 19)], (some 13), false⟩, ⟨"Events", [1], [(5, 21), (1, 22), (2, 23), (4, 24), (3, 25), (0, 26)], (some 20), false⟩], [⟨"WorthError", false, []⟩, ⟨"InvalidArgument", true, [(0, true), (1, true), (2, false)]⟩, ⟨"NoStar", true, [(0, true), (1, false), (2, true)]⟩], ["top", "whole"], ["is_element", "one", "plus", "star", "times", "zero"], [("MOST_EVENTS", .int 200)], ["abs", "all", "bool", "int", "isinstance", "len", "list", "max", "min", "range", "str", "tuple"], [("is_number", 0), ("_law_pot", 27), ("_law_next", 28), ("_law_is_int", 29), ("_law_same", 30), ("_law_star", 31), ("_law_refused", 32), ("_law_axioms", 33), ("_law_due", 34), ("_law_element", 35), ("law", 36)]⟩
theorem ok_ : pd.Ok := PD.ok_of (by decide +kernel) (by decide +kernel)
end K02

set_option Elab.async false
set_option linter.all false
set_option maxRecDepth 100000
set_option maxHeartbeats 0
namespace K02
open EW PySem
variable {L : Nat}
abbrev Run (L n f : Nat) (vs : List EW.D) (s : Sto) : Res EW.D := EW.run pd.prg L n f vs s
theorem getOld {s t : Sto} {i : Nat} {o : Ob} (h : s[i]? = some o) : (s ++ t)[i]? = some o := by
  rw [List.getElem?_append_left (List.getElem?_eq_some_iff.mp h).1]; exact h
theorem getNew {s : Sto} {o : Ob} : (s ++ [o])[s.length]? = some o := by simp
theorem next_call {n : Nat} {s : Sto} {j k : Nat} {cs : List Int} {i b sd l : Int} {K : EW.D → Sto → Prop} {E : Exn → Sto → Prop} (p : Pot s j k cs i b sd) (hl : 0 < l) (hl2 : l.natAbs.log2 < 9000)
    (h : ∀ v i' b' sd' : Int, 0 ≤ v → v < l → Pot (s.set j (.lst [.ref k, .int i', .int b', .int sd'])) j k cs i' b' sd' → K (.int v) (s.set j (.lst [.ref k, .int i', .int b', .int sd']))) : Wp (Run L (n + 1) 28 [.ref j, .int l] s) K E :=
  Wp.run (q := ⟨2, 5, nextB⟩) rfl rfl (next_wp p hl hl2 h)
theorem pot_call {n : Nat} {xs : List Int} {K : EW.D → Sto → Prop} {E : Exn → Sto → Prop} (h : ∀ sd : Int, 0 ≤ sd → sd < 2147483647 → K (.ref 2) [.rol (xs.map .int), .lst (xs.map .int), .lst [.ref 1, .int 0, .int 0, .int sd]]) : Wp (Run L (n + 1) 27 [.ref 0] [.rol (xs.map .int)]) K E :=
  Wp.run (q := ⟨1, 3, potB⟩) rfl rfl (pot_wp h)

/-! ### the four kinds -/
/-- a ring's defs, as laws want them -/
structure Ring (L ρ c bs : Nat) (fs : List (Nat × EW.D)) (el : Nat → EW.D → Prop) (pl ti : EW.D → EW.D → EW.D) (ze on : EW.D) (st : EW.D → Option EW.D) : Prop where
  m5 : pd.prg.meth c 5 = some bs
  m1 : pd.prg.meth c 1 = some (bs + 1)
  m2 : pd.prg.meth c 2 = some (bs + 2)
  m4 : pd.prg.meth c 4 = some (bs + 3)
  m3 : pd.prg.meth c 3 = some (bs + 4)
  c5 : pd.prg.can bs 1 = true
  c1 : pd.prg.can (bs + 1) 1 = true
  c2 : pd.prg.can (bs + 2) 3 = true
  c4 : pd.prg.can (bs + 3) 3 = true
  c3 : pd.prg.can (bs + 4) 2 = true
  n5 : pd.prg.np bs = 1
  n1 : pd.prg.np (bs + 1) = 1
  n2 : pd.prg.np (bs + 2) = 3
  n4 : pd.prg.np (bs + 3) = 3
  n3 : pd.prg.np (bs + 4) = 2
  zero : ∀ (n : Nat) (s : Sto) (K : EW.D → Sto → Prop) (E : Exn → Sto → Prop), s[ρ]? = some (.ins c fs) → K ze s → Wp (Run L (n + 2) bs [.ref ρ] s) K E
  one : ∀ (n : Nat) (s : Sto) (K : EW.D → Sto → Prop) (E : Exn → Sto → Prop), s[ρ]? = some (.ins c fs) → K on s → Wp (Run L (n + 2) (bs + 1) [.ref ρ] s) K E
  plus : ∀ (n : Nat) (s : Sto) (K : EW.D → Sto → Prop) (E : Exn → Sto → Prop) (a b : EW.D) {w w' : Nat}, s[ρ]? = some (.ins c fs) → el w a → el w' b → w + w' ≤ 100000 → K (pl a b) s → Wp (Run L (n + 2) (bs + 2) [.ref ρ, a, b] s) K E
  times : ∀ (n : Nat) (s : Sto) (K : EW.D → Sto → Prop) (E : Exn → Sto → Prop) (a b : EW.D) {w w' : Nat}, s[ρ]? = some (.ins c fs) → el w a → el w' b → w + w' ≤ 100000 → K (ti a b) s → Wp (Run L (n + 2) (bs + 3) [.ref ρ, a, b] s) K E
  star : ∀ (n : Nat) (s : Sto) (K : EW.D → Sto → Prop) (E : Exn → Sto → Prop) (a : EW.D) {w : Nat}, s[ρ]? = some (.ins c fs) → el w a → (∀ v, st a = some v → K v s) → (st a = none → E ⟨2, []⟩ s) → Wp (Run L (n + 2) (bs + 4) [.ref ρ, a] s) K E
/-- what a ring's values keep -/
structure Alg (el : Nat → EW.D → Prop) (pl ti : EW.D → EW.D → EW.D) (ze on : EW.D) (st : EW.D → Option EW.D) : Prop where
  refl : ∀ (s : Sto) (a : EW.D) {w : Nat}, el w a → peq s a a = some true
  cpl : ∀ (a b : EW.D) {w w' : Nat}, el w a → el w' b → el (w + w' + 1) (pl a b)
  cti : ∀ (a b : EW.D) {w w' : Nat}, el w a → el w' b → el (w + w' + 1) (ti a b)
  ez : el 1000 ze
  eo : el 1000 on
  es : ∀ (a v : EW.D) {w : Nat}, el w a → st a = some v → el 1000 v
  pcomm : ∀ (a b : EW.D) {w w' : Nat}, el w a → el w' b → pl a b = pl b a
  tcomm : ∀ (a b : EW.D) {w w' : Nat}, el w a → el w' b → ti a b = ti b a
  passoc : ∀ (a b c : EW.D) {w w' w2 : Nat}, el w a → el w' b → el w2 c → pl a (pl b c) = pl (pl a b) c
  tassoc : ∀ (a b c : EW.D) {w w' w2 : Nat}, el w a → el w' b → el w2 c → ti a (ti b c) = ti (ti a b) c
  dist : ∀ (a b c : EW.D) {w w' w2 : Nat}, el w a → el w' b → el w2 c → ti a (pl b c) = pl (ti a b) (ti a c)
  pz : ∀ (a : EW.D) {w : Nat}, el w a → pl a ze = a
  to : ∀ (a : EW.D) {w : Nat}, el w a → ti a on = a
  tz : ∀ (a : EW.D) {w : Nat}, el w a → ti a ze = ze
  stl : ∀ (a v : EW.D) {w : Nat}, el w a → st a = some v → pl on (ti a v) = v
theorem peq_of {s : Sto} {a b : EW.D} {pa pb : PyData} (h1 : toPd s 64 a = some pa) (h2 : toPd s 64 b = some pb) (h3 : SeqAt.shaped pa = true) (h4 : SeqAt.shaped pb = true) : peq s a b = some (PyData.eqv pa pb) := by
  unfold peq
  rw [h1, h2]
  dsimp only
  rw [h3, h4]
  rfl
theorem peq_non (s : Sto) : peq s .non .non = some true := rfl
theorem peq_nn {s : Sto} : peq s (.str [110, 111, 110, 101]) (.str [110, 111, 110, 101]) = some true :=
  (peq_of rfl rfl (by decide +kernel) (by decide +kernel)).trans (congrArg some (by decide +kernel))
theorem pd_lst {s : Sto} {i n : Nat} {xs : List EW.D} (h : s[i]? = some (.lst xs)) : toPd s (n + 1) (.ref i) = (omap (toPd s n) xs).map PyData.list := by
  show (match s[i]? with
    | some (.lst xs) => (omap (toPd s n) xs).map PyData.list
    | some (.rol xs) => (omap (toPd s n) xs).map PyData.list
    | _ => none) = _
  rw [h]
section
variable {ρ c bs : Nat} {fs : List (Nat × EW.D)} {el : Nat → EW.D → Prop} {pl ti : EW.D → EW.D → EW.D} {ze on : EW.D} {st : EW.D → Option EW.D}
theorem star_call (R : Ring L ρ c bs fs el pl ti ze on st) {n w : Nat} {s : Sto} {a : EW.D} {K : EW.D → Sto → Prop} {E : Exn → Sto → Prop} (hρ : s[ρ]? = some (.ins c fs)) (ha : el w a) (h1 : ∀ v, st a = some v → K (.ref s.length) (s ++ [.lst [v]])) (h2 : st a = none → K (.str [110, 111, 110, 101]) s) : Wp (Run L (n + 3) 31 [.ref ρ, a] s) K E := by
  refine Wp.run (q := ⟨2, 3, b31⟩) rfl rfl ?_
  conv => whnf
  refine ⟨_, _, _, hρ, R.m3, R.c3, ?_⟩
  conv => whnf
  refine ⟨R.n3.symm, ?_⟩
  refine R.star n s _ _ a hρ ha (fun v hv => h1 v hv) (fun hv => ?_)
  conv => whnf
  refine ⟨?_⟩
  conv => whnf
  refine ⟨fun _ => ?_, fun hx => ?_⟩
  · conv => whnf
    refine ⟨by decide, ?_⟩
    exact h2 hv
  · exact absurd hx (by decide)
theorem refl_of (A : Alg el pl ti ze on st) {s : Sto} {x y : EW.D} {w : Nat} (e : x = y) (h : el w y) : peq s x y = some true := by
  rw [e]; exact A.refl s y h
theorem ax_call (R : Ring L ρ c bs fs el pl ti ze on st) (A : Alg el pl ti ze on st) {n : Nat} {s : Sto} {x y z : EW.D} {K : EW.D → Sto → Prop} {E : Exn → Sto → Prop} (hρ : s[ρ]? = some (.ins c fs)) (hx : el 128 x) (hy : el 128 y) (hz : el 128 z)
    (h1 : st x = none → K (.bl true) s) (h2 : ∀ v, st x = some v → K (.bl true) (s ++ [.lst [v]])) (hn : ∀ (s : Sto) v, st x = some v → peq (s ++ [.lst [v]]) (.ref s.length) (.str [110, 111, 110, 101]) = some false) : Wp (Run L (n + 4) 33 [.ref ρ, x, y, z] s) K E := by
  refine Wp.run (q := ⟨4, 5, b33⟩) rfl rfl ?_
  conv => whnf
  refine ⟨_, _, _, hρ, R.m2, R.c2, ?_⟩
  conv => whnf
  refine ⟨R.n2.symm, R.plus _ _ _ _ x y hρ hx hy (by decide) ?_⟩
  conv => whnf
  refine ⟨_, _, _, hρ, R.m2, R.c2, ?_⟩
  conv => whnf
  refine ⟨R.n2.symm, R.plus _ _ _ _ y x hρ hy hx (by decide) ?_⟩
  conv => whnf
  refine ⟨true, refl_of A (A.pcomm _ _ hx hy) (A.cpl _ _ hy hx), ?_⟩
  conv => whnf
  refine ⟨fun hx => False.elim (by first | (cases hx; done) | (simp at hx; done) | exact absurd hx (by decide)), fun _ => ?_⟩
  conv => whnf
  refine ⟨_, _, _, hρ, R.m4, R.c4, ?_⟩
  conv => whnf
  refine ⟨R.n4.symm, R.times _ _ _ _ x y hρ hx hy (by decide) ?_⟩
  conv => whnf
  refine ⟨_, _, _, hρ, R.m4, R.c4, ?_⟩
  conv => whnf
  refine ⟨R.n4.symm, R.times _ _ _ _ y x hρ hy hx (by decide) ?_⟩
  conv => whnf
  refine ⟨true, refl_of A (A.tcomm _ _ hx hy) (A.cti _ _ hy hx), ?_⟩
  conv => whnf
  refine ⟨fun hx => False.elim (by first | (cases hx; done) | (simp at hx; done) | exact absurd hx (by decide)), fun _ => ?_⟩
  conv => whnf
  refine ⟨?_⟩
  conv => whnf
  refine ⟨_, _, _, hρ, R.m2, R.c2, ?_⟩
  conv => whnf
  refine ⟨_, _, _, hρ, R.m2, R.c2, ?_⟩
  conv => whnf
  refine ⟨R.n2.symm, R.plus _ _ _ _ y z hρ hy hz (by decide) ?_⟩
  conv => whnf
  refine ⟨R.n2.symm, R.plus _ _ _ _ x _ hρ hx (A.cpl _ _ hy hz) (by decide) ?_⟩
  conv => whnf
  refine ⟨_, _, _, hρ, R.m2, R.c2, ?_⟩
  conv => whnf
  refine ⟨_, _, _, hρ, R.m2, R.c2, ?_⟩
  conv => whnf
  refine ⟨R.n2.symm, R.plus _ _ _ _ x y hρ hx hy (by decide) ?_⟩
  conv => whnf
  refine ⟨R.n2.symm, R.plus _ _ _ _ _ z hρ (A.cpl _ _ hx hy) hz (by decide) ?_⟩
  conv => whnf
  refine ⟨true, refl_of A (A.passoc _ _ _ hx hy hz) (A.cpl _ _ (A.cpl _ _ hx hy) hz), ?_⟩
  conv => whnf
  refine ⟨fun hx => False.elim (by first | (cases hx; done) | (simp at hx; done) | exact absurd hx (by decide)), fun _ => ?_⟩
  conv => whnf
  refine ⟨?_⟩
  conv => whnf
  refine ⟨_, _, _, hρ, R.m4, R.c4, ?_⟩
  conv => whnf
  refine ⟨_, _, _, hρ, R.m4, R.c4, ?_⟩
  conv => whnf
  refine ⟨R.n4.symm, R.times _ _ _ _ y z hρ hy hz (by decide) ?_⟩
  conv => whnf
  refine ⟨R.n4.symm, R.times _ _ _ _ x _ hρ hx (A.cti _ _ hy hz) (by decide) ?_⟩
  conv => whnf
  refine ⟨_, _, _, hρ, R.m4, R.c4, ?_⟩
  conv => whnf
  refine ⟨_, _, _, hρ, R.m4, R.c4, ?_⟩
  conv => whnf
  refine ⟨R.n4.symm, R.times _ _ _ _ x y hρ hx hy (by decide) ?_⟩
  conv => whnf
  refine ⟨R.n4.symm, R.times _ _ _ _ _ z hρ (A.cti _ _ hx hy) hz (by decide) ?_⟩
  conv => whnf
  refine ⟨true, refl_of A (A.tassoc _ _ _ hx hy hz) (A.cti _ _ (A.cti _ _ hx hy) hz), ?_⟩
  conv => whnf
  refine ⟨fun hx => False.elim (by first | (cases hx; done) | (simp at hx; done) | exact absurd hx (by decide)), fun _ => ?_⟩
  conv => whnf
  refine ⟨?_⟩
  conv => whnf
  refine ⟨_, _, _, hρ, R.m4, R.c4, ?_⟩
  conv => whnf
  refine ⟨_, _, _, hρ, R.m2, R.c2, ?_⟩
  conv => whnf
  refine ⟨R.n2.symm, R.plus _ _ _ _ y z hρ hy hz (by decide) ?_⟩
  conv => whnf
  refine ⟨R.n4.symm, R.times _ _ _ _ x _ hρ hx (A.cpl _ _ hy hz) (by decide) ?_⟩
  conv => whnf
  refine ⟨_, _, _, hρ, R.m2, R.c2, ?_⟩
  conv => whnf
  refine ⟨_, _, _, hρ, R.m4, R.c4, ?_⟩
  conv => whnf
  refine ⟨R.n4.symm, R.times _ _ _ _ x y hρ hx hy (by decide) ?_⟩
  conv => whnf
  refine ⟨_, _, _, hρ, R.m4, R.c4, ?_⟩
  conv => whnf
  refine ⟨R.n4.symm, R.times _ _ _ _ x z hρ hx hz (by decide) ?_⟩
  conv => whnf
  refine ⟨R.n2.symm, R.plus _ _ _ _ _ _ hρ (A.cti _ _ hx hy) (A.cti _ _ hx hz) (by decide) ?_⟩
  conv => whnf
  refine ⟨true, refl_of A (A.dist _ _ _ hx hy hz) (A.cpl _ _ (A.cti _ _ hx hy) (A.cti _ _ hx hz)), ?_⟩
  conv => whnf
  refine ⟨fun hx => False.elim (by first | (cases hx; done) | (simp at hx; done) | exact absurd hx (by decide)), fun _ => ?_⟩
  conv => whnf
  refine ⟨?_⟩
  conv => whnf
  refine ⟨_, _, _, hρ, R.m2, R.c2, ?_⟩
  conv => whnf
  refine ⟨_, _, _, hρ, R.m5, R.c5, ?_⟩
  conv => whnf
  refine ⟨R.n5.symm, R.zero _ _ _ _ hρ ?_⟩
  conv => whnf
  refine ⟨R.n2.symm, R.plus _ _ _ _ x _ hρ hx A.ez (by decide) ?_⟩
  conv => whnf
  refine ⟨true, refl_of A (A.pz _ hx) hx, ?_⟩
  conv => whnf
  refine ⟨fun hx => False.elim (by first | (cases hx; done) | (simp at hx; done) | exact absurd hx (by decide)), fun _ => ?_⟩
  conv => whnf
  refine ⟨_, _, _, hρ, R.m4, R.c4, ?_⟩
  conv => whnf
  refine ⟨_, _, _, hρ, R.m1, R.c1, ?_⟩
  conv => whnf
  refine ⟨R.n1.symm, R.one _ _ _ _ hρ ?_⟩
  conv => whnf
  refine ⟨R.n4.symm, R.times _ _ _ _ x _ hρ hx A.eo (by decide) ?_⟩
  conv => whnf
  refine ⟨true, refl_of A (A.to _ hx) hx, ?_⟩
  conv => whnf
  refine ⟨fun hx => False.elim (by first | (cases hx; done) | (simp at hx; done) | exact absurd hx (by decide)), fun _ => ?_⟩
  conv => whnf
  refine ⟨_, _, _, hρ, R.m4, R.c4, ?_⟩
  conv => whnf
  refine ⟨_, _, _, hρ, R.m5, R.c5, ?_⟩
  conv => whnf
  refine ⟨R.n5.symm, R.zero _ _ _ _ hρ ?_⟩
  conv => whnf
  refine ⟨R.n4.symm, R.times _ _ _ _ x _ hρ hx A.ez (by decide) ?_⟩
  conv => whnf
  refine ⟨_, _, _, hρ, R.m5, R.c5, ?_⟩
  conv => whnf
  refine ⟨R.n5.symm, R.zero _ _ _ _ hρ ?_⟩
  conv => whnf
  refine ⟨true, refl_of A (A.tz _ hx) A.ez, ?_⟩
  conv => whnf
  refine ⟨fun hx => False.elim (by first | (cases hx; done) | (simp at hx; done) | exact absurd hx (by decide)), fun _ => ?_⟩
  conv => whnf
  refine ⟨?_⟩
  conv => whnf
  refine ⟨rfl, star_call R hρ hx (fun v hv => ?_) (fun hv => ?_)⟩
  · have hρ : (s ++ [Ob.lst [v]])[ρ]? = some (.ins c fs) := getOld hρ
    have ev := A.es _ _ hx hv
    conv => whnf
    refine ⟨?_⟩
    conv => whnf
    refine ⟨false, hn s v hv, ?_⟩
    conv => whnf
    refine ⟨fun hx => False.elim (by first | (cases hx; done) | (simp at hx; done) | exact absurd hx (by decide)), fun _ => ?_⟩
    conv => whnf
    refine ⟨_, _, _, hρ, R.m2, R.c2, ?_⟩
    conv => whnf
    refine ⟨_, _, _, hρ, R.m1, R.c1, ?_⟩
    conv => whnf
    refine ⟨R.n1.symm, R.one _ _ _ _ hρ ?_⟩
    conv => whnf
    refine ⟨_, _, _, hρ, R.m4, R.c4, ?_⟩
    conv => whnf
    refine ⟨_, _, lst_at getNew, rfl, ?_⟩
    conv => whnf
    refine ⟨R.n4.symm, R.times _ _ _ _ x v hρ hx ev (by decide) ?_⟩
    conv => whnf
    refine ⟨R.n2.symm, R.plus _ _ _ _ _ _ hρ A.eo (A.cti _ _ hx ev) (by decide) ?_⟩
    conv => whnf
    refine ⟨_, _, lst_at getNew, rfl, ?_⟩
    conv => whnf
    refine ⟨true, refl_of A (A.stl _ _ hx hv) ev, ?_⟩
    exact h2 v hv
  · conv => whnf
    refine ⟨?_⟩
    conv => whnf
    refine ⟨true, peq_nn, ?_⟩
    conv => whnf
    refine ⟨fun _ => ?_, fun hx => False.elim (by first | (cases hx; done) | (simp at hx; done) | exact absurd hx (by decide))⟩
    exact h1 hv
end

/-! ### numbers -/
def addD : EW.D → EW.D → EW.D
  | .int i, .int j => .int (i + j)
  | _, _ => .non
def mulD : EW.D → EW.D → EW.D
  | .int i, .int j => .int (i * j)
  | _, _ => .non
def stN : EW.D → Option EW.D
  | .int i => if i = 0 then some (.int 1) else none
  | _ => none
def elN (w : Nat) (a : EW.D) : Prop := ∃ i : Int, a = .int i ∧ 0 ≤ i ∧ i < 2 ^ w
theorem pow_add_lt {i j : Int} {w w' : Nat} (h1 : i < 2 ^ w) (h2 : j < 2 ^ w') : i + j < 2 ^ (w + w' + 1) := by
  have a1 : (2 : Int) ^ w ≤ 2 ^ (w + w') := by exact_mod_cast Nat.pow_le_pow_right (by decide) (by omega)
  have a2 : (2 : Int) ^ w' ≤ 2 ^ (w + w') := by exact_mod_cast Nat.pow_le_pow_right (by decide) (by omega)
  rw [Int.pow_succ]
  omega
theorem pow_mul_lt {i j : Int} {w w' : Nat} (h0 : 0 ≤ i) (h0' : 0 ≤ j) (h1 : i < 2 ^ w) (h2 : j < 2 ^ w') : i * j < 2 ^ (w + w' + 1) := by
  have a1 : i * j ≤ 2 ^ w * 2 ^ w' := Int.mul_le_mul (Int.le_of_lt h1) (Int.le_of_lt h2) h0' (by exact_mod_cast Nat.zero_le _)
  have a2 : (0 : Int) < 2 ^ (w + w') := by exact_mod_cast Nat.two_pow_pos _
  rw [← Int.pow_add] at a1
  rw [Int.pow_succ]
  omega
theorem bits_of {i : Int} {w : Nat} (h0 : 0 ≤ i) (h : i < 2 ^ w) : i.natAbs < 2 ^ w := by
  have : ((i.natAbs : Nat) : Int) < ((2 ^ w : Nat) : Int) := by
    rw [Int.natAbs_of_nonneg h0]
    exact_mod_cast h
  exact_mod_cast this
theorem ringN (ρ : Nat) : Ring L ρ 0 1 [] elN addD mulD (.int 0) (.int 1) stN where
  m5 := rfl
  m1 := rfl
  m2 := rfl
  m4 := rfl
  m3 := rfl
  c5 := rfl
  c1 := rfl
  c2 := rfl
  c4 := rfl
  c3 := rfl
  n5 := rfl
  n1 := rfl
  n2 := rfl
  n4 := rfl
  n3 := rfl
  zero := fun n s K E hs h => Wp.run (q := ⟨1, 1, b1⟩) rfl rfl h
  one := fun n s K E hs h => Wp.run (q := ⟨1, 1, b2⟩) rfl rfl h
  plus := fun n s K E a b w w' hs ⟨i, e1, h1, h2⟩ ⟨j, e2, h3, h4⟩ hw h => by
    subst e1 e2
    exact Wp.run (q := ⟨3, 3, b3⟩) rfl rfl h
  times := fun n s K E a b w w' hs ⟨i, e1, h1, h2⟩ ⟨j, e2, h3, h4⟩ hw h => by
    subst e1 e2
    refine Wp.run (q := ⟨3, 3, b4⟩) rfl rfl ?_
    conv => whnf
    exact ⟨mul_ok w w' (bits_of h1 h2) (bits_of h3 h4) (by omega), h⟩
  star := fun n s K E a w hs ⟨i, e1, h1, h2⟩ k1 k2 => by
    subst e1
    refine Wp.run (q := ⟨2, 2, b5⟩) rfl rfl ?_
    conv => whnf
    refine ⟨_, peq_int _ _ _, ?_⟩
    conv => whnf
    refine ⟨fun hq => ?_, fun hq => ?_⟩
    · conv => whnf
      refine ⟨rfl, k2 ?_⟩
      have : ¬ i = 0 := by simpa using hq
      show (if i = 0 then some (EW.D.int 1) else none) = none
      rw [if_neg this]
    · conv => whnf
      refine ⟨?_⟩
      conv => whnf
      refine k1 _ ?_
      have : i = 0 := by simpa using hq
      show (if i = 0 then some (EW.D.int 1) else none) = some (.int 1)
      rw [if_pos this]
theorem int_1000 {i : Int} (h : i ≤ 1) : i < 2 ^ 1000 := Int.lt_of_le_of_lt h (by decide)
theorem algN : Alg elN addD mulD (.int 0) (.int 1) stN where
  refl := fun s a w ⟨i, e, _, _⟩ => by subst e; exact (peq_int s i i).trans (congrArg some (decide_eq_true rfl))
  cpl := fun a b w w' ⟨i, e1, h1, h2⟩ ⟨j, e2, h3, h4⟩ => by subst e1 e2; exact ⟨_, rfl, by omega, pow_add_lt h2 h4⟩
  cti := fun a b w w' ⟨i, e1, h1, h2⟩ ⟨j, e2, h3, h4⟩ => by subst e1 e2; exact ⟨_, rfl, Int.mul_nonneg h1 h3, pow_mul_lt h1 h3 h2 h4⟩
  ez := ⟨0, rfl, by decide, int_1000 (by decide)⟩
  eo := ⟨1, rfl, by decide, int_1000 (by decide)⟩
  es := fun a v w ⟨i, e, _, _⟩ h => by
    subst e
    have h : (if i = 0 then some (EW.D.int 1) else none) = some v := h
    split at h
    · cases h; exact ⟨1, rfl, by decide, int_1000 (by decide)⟩
    · cases h
  pcomm := fun a b w w' ⟨i, e1, _, _⟩ ⟨j, e2, _, _⟩ => by subst e1 e2; exact congrArg EW.D.int (Int.add_comm i j)
  tcomm := fun a b w w' ⟨i, e1, _, _⟩ ⟨j, e2, _, _⟩ => by subst e1 e2; exact congrArg EW.D.int (Int.mul_comm i j)
  passoc := fun a b c w w' w2 ⟨i, e1, _, _⟩ ⟨j, e2, _, _⟩ ⟨k, e3, _, _⟩ => by subst e1 e2 e3; exact congrArg EW.D.int (Int.add_assoc i j k).symm
  tassoc := fun a b c w w' w2 ⟨i, e1, _, _⟩ ⟨j, e2, _, _⟩ ⟨k, e3, _, _⟩ => by subst e1 e2 e3; exact congrArg EW.D.int (Int.mul_assoc i j k).symm
  dist := fun a b c w w' w2 ⟨i, e1, _, _⟩ ⟨j, e2, _, _⟩ ⟨k, e3, _, _⟩ => by subst e1 e2 e3; exact congrArg EW.D.int (Int.mul_add i j k)
  pz := fun a w ⟨i, e1, _, _⟩ => by subst e1; exact congrArg EW.D.int (Int.add_zero i)
  to := fun a w ⟨i, e1, _, _⟩ => by subst e1; exact congrArg EW.D.int (Int.mul_one i)
  tz := fun a w ⟨i, e1, _, _⟩ => by subst e1; exact congrArg EW.D.int (Int.mul_zero i)
  stl := fun a v w ⟨i, e1, _, _⟩ h => by
    subst e1
    have h : (if i = 0 then some (EW.D.int 1) else none) = some v := h
    split at h
    · rename_i q
      cases h
      subst q
      rfl
    · cases h
/-! ### costs -/
def minI (i j : Int) : Int := if j < i then j else i
def maxI (i j : Int) : Int := if j > i then j else i
def plC : EW.D → EW.D → EW.D
  | .int i, .int j => .int (minI i j)
  | .int i, _ => .int i
  | _, b => b
def elC (w : Nat) (a : EW.D) : Prop := a = .non ∨ elN w a
theorem ringC (ρ : Nat) : Ring L ρ 1 7 [] elC plC addD .non (.int 0) (fun _ => some (.int 0)) where
  m5 := rfl
  m1 := rfl
  m2 := rfl
  m4 := rfl
  m3 := rfl
  c5 := rfl
  c1 := rfl
  c2 := rfl
  c4 := rfl
  c3 := rfl
  n5 := rfl
  n1 := rfl
  n2 := rfl
  n4 := rfl
  n3 := rfl
  zero := fun n s K E hs h => Wp.run (q := ⟨1, 1, b7⟩) rfl rfl h
  one := fun n s K E hs h => Wp.run (q := ⟨1, 1, b8⟩) rfl rfl h
  plus := fun n s K E a b w w' hs h1 h2 hw h => by
    refine Wp.run (q := ⟨3, 3, b9⟩) rfl rfl ?_
    rcases h1 with rfl | ⟨i, rfl, h3, h4⟩
    · conv => whnf
      refine ⟨fun _ => ?_, fun hx => False.elim (by first | (cases hx; done) | (simp at hx; done) | exact absurd hx (by decide))⟩
      exact h
    · conv => whnf
      refine ⟨fun hx => False.elim (by first | (cases hx; done) | (simp at hx; done) | exact absurd hx (by decide)), fun _ => ?_⟩
      conv => whnf
      refine ⟨?_⟩
      conv => whnf
      rcases h2 with rfl | ⟨j, rfl, h5, h6⟩
      · refine ⟨fun _ => ?_, fun hx => False.elim (by first | (cases hx; done) | (simp at hx; done) | exact absurd hx (by decide))⟩
        exact h
      · refine ⟨fun hx => False.elim (by first | (cases hx; done) | (simp at hx; done) | exact absurd hx (by decide)), fun _ => ?_⟩
        conv => whnf
        exact h
  times := fun n s K E a b w w' hs h1 h2 hw h => by
    refine Wp.run (q := ⟨3, 3, b10⟩) rfl rfl ?_
    rcases h1 with rfl | ⟨i, rfl, h3, h4⟩
    · conv => whnf
      refine ⟨fun _ => ?_, fun hx => False.elim (by first | (cases hx; done) | (simp at hx; done) | exact absurd hx (by decide))⟩
      conv => whnf
      refine ⟨fun _ => ?_, fun hx => False.elim (by first | (cases hx; done) | (simp at hx; done) | exact absurd hx (by decide))⟩
      exact h
    · conv => whnf
      refine ⟨fun hx => False.elim (by first | (cases hx; done) | (simp at hx; done) | exact absurd hx (by decide)), fun _ => ?_⟩
      conv => whnf
      rcases h2 with rfl | ⟨j, rfl, h5, h6⟩
      · refine ⟨fun _ => ?_, fun hx => False.elim (by first | (cases hx; done) | (simp at hx; done) | exact absurd hx (by decide))⟩
        exact h
      · refine ⟨fun hx => False.elim (by first | (cases hx; done) | (simp at hx; done) | exact absurd hx (by decide)), fun _ => ?_⟩
        conv => whnf
        exact h
  star := fun n s K E a w hs h1 k1 k2 => Wp.run (q := ⟨2, 2, b11⟩) rfl rfl (k1 _ rfl)
theorem algC : Alg elC plC addD .non (.int 0) (fun _ => some (.int 0)) where
  refl := fun s a w h => by
    rcases h with rfl | ⟨i, rfl, _, _⟩
    · exact peq_non s
    · exact (peq_int s i i).trans (congrArg some (decide_eq_true rfl))
  cpl := fun a b w w' h1 h2 => by
    rcases h1 with rfl | ⟨i, rfl, h3, h4⟩
    · rcases h2 with rfl | ⟨j, rfl, h5, h6⟩
      · exact .inl rfl
      · exact .inr ⟨j, rfl, h5, by have := pow_add_lt h6 (show (0 : Int) < 2 ^ w by exact_mod_cast Nat.two_pow_pos _); rw [Nat.add_comm w' w] at this; omega⟩
    · rcases h2 with rfl | ⟨j, rfl, h5, h6⟩
      · exact .inr ⟨i, rfl, h3, by have := pow_add_lt h4 (show (0 : Int) < 2 ^ w' by exact_mod_cast Nat.two_pow_pos _); omega⟩
      · refine .inr ⟨_, rfl, ?_, ?_⟩
        · unfold minI; split <;> omega
        · have := pow_add_lt h4 h6
          unfold minI; split <;> omega
  cti := fun a b w w' h1 h2 => by
    rcases h1 with rfl | ⟨i, rfl, h3, h4⟩
    · exact .inl rfl
    · rcases h2 with rfl | ⟨j, rfl, h5, h6⟩
      · exact .inl rfl
      · exact .inr ⟨_, rfl, by omega, pow_add_lt h4 h6⟩
  ez := .inl rfl
  eo := .inr ⟨0, rfl, by decide, int_1000 (by decide)⟩
  es := fun a v w _ h => by cases h; exact .inr ⟨0, rfl, by decide, int_1000 (by decide)⟩
  pcomm := fun a b w w' h1 h2 => by
    rcases h1 with rfl | ⟨i, rfl, _, _⟩ <;> rcases h2 with rfl | ⟨j, rfl, _, _⟩ <;> first | rfl | skip
    exact congrArg EW.D.int (by unfold minI; split <;> split <;> omega)
  tcomm := fun a b w w' h1 h2 => by
    rcases h1 with rfl | ⟨i, rfl, _, _⟩ <;> rcases h2 with rfl | ⟨j, rfl, _, _⟩ <;> first | rfl | skip
    exact congrArg EW.D.int (Int.add_comm i j)
  passoc := fun a b c w w' w2 h1 h2 h3 => by
    rcases h1 with rfl | ⟨i, rfl, _, _⟩ <;> rcases h2 with rfl | ⟨j, rfl, _, _⟩ <;> rcases h3 with rfl | ⟨k, rfl, _, _⟩ <;> first | rfl | skip
    exact congrArg EW.D.int (by unfold minI; repeat' split <;> omega)
  tassoc := fun a b c w w' w2 h1 h2 h3 => by
    rcases h1 with rfl | ⟨i, rfl, _, _⟩ <;> rcases h2 with rfl | ⟨j, rfl, _, _⟩ <;> rcases h3 with rfl | ⟨k, rfl, _, _⟩ <;> first | rfl | skip
    exact congrArg EW.D.int (Int.add_assoc i j k).symm
  dist := fun a b c w w' w2 h1 h2 h3 => by
    rcases h1 with rfl | ⟨i, rfl, _, _⟩ <;> rcases h2 with rfl | ⟨j, rfl, _, _⟩ <;> rcases h3 with rfl | ⟨k, rfl, _, _⟩ <;> first | rfl | skip
    exact congrArg EW.D.int (by unfold minI; repeat' split <;> omega)
  pz := fun a w h => by rcases h with rfl | ⟨i, rfl, _, _⟩ <;> rfl
  to := fun a w h => by
    rcases h with rfl | ⟨i, rfl, _, _⟩
    · rfl
    · exact congrArg EW.D.int (Int.add_zero i)
  tz := fun a w h => by rcases h with rfl | ⟨i, rfl, _, _⟩ <;> rfl
  stl := fun a v w h1 h2 => by
    cases h2
    rcases h1 with rfl | ⟨i, rfl, h3, _⟩
    · rfl
    · exact congrArg EW.D.int (by unfold minI; split <;> omega)
/-! ### levels -/
def elL (top : Int) (_ : Nat) (a : EW.D) : Prop := ∃ i : Int, a = .int i ∧ 0 ≤ i ∧ i ≤ top
def maxD' : EW.D → EW.D → EW.D
  | .int i, .int j => .int (maxI i j)
  | _, _ => .non
def minD' : EW.D → EW.D → EW.D
  | .int i, .int j => .int (minI i j)
  | _, _ => .non
theorem ringL (ρ : Nat) (top : Int) : Ring L ρ 2 14 [(0, .int top)] (elL top) maxD' minD' (.int 0) (.int top) (fun _ => some (.int top)) where
  m5 := rfl
  m1 := rfl
  m2 := rfl
  m4 := rfl
  m3 := rfl
  c5 := rfl
  c1 := rfl
  c2 := rfl
  c4 := rfl
  c3 := rfl
  n5 := rfl
  n1 := rfl
  n2 := rfl
  n4 := rfl
  n3 := rfl
  zero := fun n s K E hs h => Wp.run (q := ⟨1, 1, b14⟩) rfl rfl h
  one := fun n s K E hs h => Wp.run (q := ⟨1, 1, b15⟩) rfl rfl ⟨_, _, _, hs, rfl, rfl, h⟩
  plus := fun n s K E a b w w' hs ⟨i, e1, _, _⟩ ⟨j, e2, _, _⟩ hw h => by
    subst e1 e2
    exact Wp.run (q := ⟨3, 3, b16⟩) rfl rfl h
  times := fun n s K E a b w w' hs ⟨i, e1, _, _⟩ ⟨j, e2, _, _⟩ hw h => by
    subst e1 e2
    exact Wp.run (q := ⟨3, 3, b17⟩) rfl rfl h
  star := fun n s K E a w hs h1 k1 k2 => Wp.run (q := ⟨2, 2, b18⟩) rfl rfl ⟨_, _, _, hs, rfl, rfl, k1 _ rfl⟩
theorem algL {top : Int} (ht : 0 ≤ top) : Alg (elL top) maxD' minD' (.int 0) (.int top) (fun _ => some (.int top)) where
  refl := fun s a w ⟨i, e, _, _⟩ => by subst e; exact (peq_int s i i).trans (congrArg some (decide_eq_true rfl))
  cpl := fun a b w w' ⟨i, e1, h1, h2⟩ ⟨j, e2, h3, h4⟩ => by subst e1 e2; exact ⟨_, rfl, by unfold maxI; split <;> omega, by unfold maxI; split <;> omega⟩
  cti := fun a b w w' ⟨i, e1, h1, h2⟩ ⟨j, e2, h3, h4⟩ => by subst e1 e2; exact ⟨_, rfl, by unfold minI; split <;> omega, by unfold minI; split <;> omega⟩
  ez := ⟨0, rfl, by decide, ht⟩
  eo := ⟨top, rfl, ht, Int.le_refl _⟩
  es := fun a v w _ h => by cases h; exact ⟨top, rfl, ht, Int.le_refl _⟩
  pcomm := fun a b w w' ⟨i, e1, _, _⟩ ⟨j, e2, _, _⟩ => by subst e1 e2; exact congrArg EW.D.int (by unfold maxI; repeat' split <;> omega)
  tcomm := fun a b w w' ⟨i, e1, _, _⟩ ⟨j, e2, _, _⟩ => by subst e1 e2; exact congrArg EW.D.int (by unfold minI; repeat' split <;> omega)
  passoc := fun a b c w w' w2 ⟨i, e1, _, _⟩ ⟨j, e2, _, _⟩ ⟨k, e3, _, _⟩ => by subst e1 e2 e3; exact congrArg EW.D.int (by unfold maxI; repeat' split <;> omega)
  tassoc := fun a b c w w' w2 ⟨i, e1, _, _⟩ ⟨j, e2, _, _⟩ ⟨k, e3, _, _⟩ => by subst e1 e2 e3; exact congrArg EW.D.int (by unfold minI; repeat' split <;> omega)
  dist := fun a b c w w' w2 ⟨i, e1, _, _⟩ ⟨j, e2, _, _⟩ ⟨k, e3, _, _⟩ => by subst e1 e2 e3; exact congrArg EW.D.int (by unfold minI maxI; repeat' split <;> omega)
  pz := fun a w ⟨i, e1, _, _⟩ => by subst e1; exact congrArg EW.D.int (by unfold maxI; split <;> omega)
  to := fun a w ⟨i, e1, _, _⟩ => by subst e1; exact congrArg EW.D.int (by unfold minI; split <;> omega)
  tz := fun a w ⟨i, e1, _, _⟩ => by subst e1; exact congrArg EW.D.int (by unfold minI; split <;> omega)
  stl := fun a v w ⟨i, e1, _, _⟩ h => by cases h; subst e1; exact congrArg EW.D.int (by unfold minI maxI; repeat' split <;> omega)
/-! ### events -/
theorem bor_nat (a b : Nat) : Builtin.bitOr (a : Int) (b : Int) = ((a ||| b : Nat) : Int) := by
  have n1 : ¬ (0 : Int) ≤ Builtin.bitNot (a : Int) := by unfold Builtin.bitNot; omega
  have n2 : ¬ (0 : Int) ≤ Builtin.bitNot (b : Int) := by unfold Builtin.bitNot; omega
  have nn : ∀ x : Int, Builtin.bitNot (Builtin.bitNot x) = x := fun x => by unfold Builtin.bitNot; omega
  unfold Builtin.bitOr
  rw [PyProof.Rows.bitAnd_nn n1 n2, nn, nn, nn, Int.toNat_natCast, Int.toNat_natCast]
def elE (k : Nat) (_ : Nat) (a : EW.D) : Prop := ∃ m : Nat, a = .int m ∧ m < 2 ^ k
def orD : EW.D → EW.D → EW.D
  | .int i, .int j => .int (Builtin.bitOr i j)
  | _, _ => .non
def andD : EW.D → EW.D → EW.D
  | .int i, .int j => .int (Builtin.bitAnd i j)
  | _, _ => .non
theorem orD_nat (a b : Nat) : orD (.int a) (.int b) = .int ((a ||| b : Nat) : Int) := congrArg EW.D.int (bor_nat a b)
theorem andD_nat (a b : Nat) : andD (.int a) (.int b) = .int ((a &&& b : Nat) : Int) := congrArg EW.D.int (PySem.W.os_band a b)
theorem full_or {a k : Nat} (h : a < 2 ^ k) : (2 ^ k - 1) ||| a = 2 ^ k - 1 := by
  apply Nat.eq_of_testBit_eq
  intro i
  rw [Nat.testBit_or, Nat.testBit_two_pow_sub_one]
  by_cases hi : i < k
  · simp [hi]
  · have : a.testBit i = false := Nat.testBit_lt_two_pow (Nat.lt_of_lt_of_le h (Nat.pow_le_pow_right (by decide) (by omega)))
    simp [hi, this]
theorem full_and {a k : Nat} (h : a < 2 ^ k) : a &&& (2 ^ k - 1) = a := by
  rw [Nat.and_two_pow_sub_one_eq_mod, Nat.mod_eq_of_lt h]
theorem ringE (ρ k : Nat) : Ring L ρ 3 21 [(1, .int ((2 ^ k - 1 : Nat) : Int))] (elE k) orD andD (.int 0) (.int ((2 ^ k - 1 : Nat) : Int)) (fun _ => some (.int ((2 ^ k - 1 : Nat) : Int))) where
  m5 := rfl
  m1 := rfl
  m2 := rfl
  m4 := rfl
  m3 := rfl
  c5 := rfl
  c1 := rfl
  c2 := rfl
  c4 := rfl
  c3 := rfl
  n5 := rfl
  n1 := rfl
  n2 := rfl
  n4 := rfl
  n3 := rfl
  zero := fun n s K E hs h => Wp.run (q := ⟨1, 1, b21⟩) rfl rfl h
  one := fun n s K E hs h => Wp.run (q := ⟨1, 1, b22⟩) rfl rfl ⟨_, _, _, hs, rfl, rfl, h⟩
  plus := fun n s K E a b w w' hs ⟨i, e1, _⟩ ⟨j, e2, _⟩ hw h => by
    subst e1 e2
    exact Wp.run (q := ⟨3, 3, b23⟩) rfl rfl h
  times := fun n s K E a b w w' hs ⟨i, e1, _⟩ ⟨j, e2, _⟩ hw h => by
    subst e1 e2
    exact Wp.run (q := ⟨3, 3, b24⟩) rfl rfl h
  star := fun n s K E a w hs h1 k1 k2 => Wp.run (q := ⟨2, 2, b25⟩) rfl rfl ⟨_, _, _, hs, rfl, rfl, k1 _ rfl⟩
theorem full_lt (k : Nat) : 2 ^ k - 1 < 2 ^ k := Nat.sub_lt (Nat.two_pow_pos k) (by decide)
theorem algE (k : Nat) : Alg (elE k) orD andD (.int 0) (.int ((2 ^ k - 1 : Nat) : Int)) (fun _ => some (.int ((2 ^ k - 1 : Nat) : Int))) where
  refl := fun s a w ⟨i, e, _⟩ => by subst e; exact (peq_int s i i).trans (congrArg some (decide_eq_true rfl))
  cpl := fun a b w w' ⟨i, e1, h1⟩ ⟨j, e2, h2⟩ => by subst e1 e2; exact ⟨_, orD_nat i j, Nat.or_lt_two_pow h1 h2⟩
  cti := fun a b w w' ⟨i, e1, h1⟩ ⟨j, e2, h2⟩ => by subst e1 e2; exact ⟨_, andD_nat i j, Nat.and_lt_two_pow _ h2⟩
  ez := ⟨0, rfl, Nat.two_pow_pos k⟩
  eo := ⟨_, rfl, full_lt k⟩
  es := fun a v w _ h => by cases h; exact ⟨_, rfl, full_lt k⟩
  pcomm := fun a b w w' ⟨i, e1, _⟩ ⟨j, e2, _⟩ => by subst e1 e2; rw [orD_nat, orD_nat, Nat.or_comm]
  tcomm := fun a b w w' ⟨i, e1, _⟩ ⟨j, e2, _⟩ => by subst e1 e2; rw [andD_nat, andD_nat, Nat.and_comm]
  passoc := fun a b c w w' w2 ⟨i, e1, _⟩ ⟨j, e2, _⟩ ⟨l, e3, _⟩ => by subst e1 e2 e3; rw [orD_nat, orD_nat, orD_nat, orD_nat, Nat.or_assoc]
  tassoc := fun a b c w w' w2 ⟨i, e1, _⟩ ⟨j, e2, _⟩ ⟨l, e3, _⟩ => by subst e1 e2 e3; rw [andD_nat, andD_nat, andD_nat, andD_nat, Nat.and_assoc]
  dist := fun a b c w w' w2 ⟨i, e1, _⟩ ⟨j, e2, _⟩ ⟨l, e3, _⟩ => by subst e1 e2 e3; rw [orD_nat, andD_nat, andD_nat, andD_nat, orD_nat, Nat.and_or_distrib_left]
  pz := fun a w ⟨i, e1, _⟩ => by subst e1; exact (orD_nat i 0).trans (by rw [Nat.or_zero])
  to := fun a w ⟨i, e1, h1⟩ => by subst e1; rw [andD_nat, full_and h1]
  tz := fun a w ⟨i, e1, _⟩ => by subst e1; exact (andD_nat i 0).trans (by rw [Nat.and_zero]; rfl)
  stl := fun a v w ⟨i, e1, h1⟩ h => by cases h; subst e1; rw [andD_nat, full_and h1, orD_nat, full_or h1]
end K02

set_option Elab.async false
set_option linter.all false
set_option maxRecDepth 100000
set_option maxHeartbeats 0
namespace K02
open EW PySem
variable {L : Nat}
theorem ty_lst {s : Sto} {j : Nat} {xs : List EW.D} (h : s[j]? = some (.lst xs)) (t : Ty) : tyIs s (.ref j) t = some (t == Ty.lst) := by
  show (match s[j]? with
    | some (.lst _) => some (t == Ty.lst)
    | some (.dic _) => some (t == Ty.dic)
    | _ => none) = _
  rw [h]
theorem peq_bl (s : Sto) (a b : Bool) : peq s (.bl a) (.bl b) = some (a == b) := by
  cases a <;> cases b <;> rfl
theorem isint_call {n : Nat} {i : Int} {s : Sto} {K : EW.D → Sto → Prop} {E : Exn → Sto → Prop} (h : K (.bl true) s) : Wp (Run L (n + 1) 29 [.int i] s) K E := by
  refine Wp.run (q := ⟨1, 1, b29⟩) rfl rfl ?_
  conv => whnf
  refine ⟨fun _ => ?_, fun hx => False.elim (by first | (cases hx; done) | (simp at hx; done) | exact absurd hx (by decide))⟩
  conv => whnf
  exact h
def Sc (d : EW.D) : Prop := d = .non ∨ ∃ i : Int, d = .int i
theorem same_sc {n : Nat} {d : EW.D} {s : Sto} {K : EW.D → Sto → Prop} {E : Exn → Sto → Prop} (hd : Sc d) (h : K (.bl true) s) : Wp (Run L (n + 2) 30 [d, d] s) K E := by
  refine Wp.run (q := ⟨2, 3, b30⟩) rfl rfl ?_
  rcases hd with rfl | ⟨i, rfl⟩
  · conv => whnf
    refine ⟨fun _ => ?_, fun hx => False.elim (by first | (cases hx; done) | (simp at hx; done) | exact absurd hx (by decide))⟩
    conv => whnf
    exact h
  · conv => whnf
    refine ⟨fun hx => False.elim (by first | (cases hx; done) | (simp at hx; done) | exact absurd hx (by decide)), fun _ => ?_⟩
    conv => whnf
    refine ⟨?_⟩
    conv => whnf
    refine ⟨fun hx => False.elim (by first | (cases hx; done) | (simp at hx; done) | exact absurd hx (by decide)), fun _ => ?_⟩
    conv => whnf
    refine ⟨?_⟩
    conv => whnf
    refine ⟨fun _ => ?_, fun hx => False.elim (by first | (cases hx; done) | (simp at hx; done) | exact absurd hx (by decide))⟩
    conv => whnf
    refine ⟨rfl, isint_call (L := L) (n := n) (i := i) ?_⟩
    conv => whnf
    refine ⟨fun _ => ?_, fun hx => False.elim (by first | (cases hx; done) | (simp at hx; done) | exact absurd hx (by decide))⟩
    conv => whnf
    refine ⟨_, peq_int _ _ _, ?_⟩
    conv => whnf
    rw [decide_eq_true rfl]
    exact h
theorem same_two {n : Nat} {x y : EW.D} {s : Sto} {i j : Nat} {K : EW.D → Sto → Prop} {E : Exn → Sto → Prop} (hi : s[i]? = some (.lst [x, y])) (hj : s[j]? = some (.lst [x, y])) (hx : Sc x) (hy : Sc y) (h : K (.bl true) (s ++ [.lst [.bl true, .bl true]])) :
    Wp (Run L (n + 3) 30 [.ref i, .ref j] s) K E := by
  refine Wp.run (q := ⟨2, 3, b30⟩) rfl rfl ?_
  conv => whnf
  refine ⟨fun hx => False.elim (by first | (cases hx; done) | (simp at hx; done) | exact absurd hx (by decide)), fun _ => ?_⟩
  conv => whnf
  refine ⟨?_⟩
  conv => whnf
  refine ⟨_, ty_lst hj _, ?_⟩
  conv => whnf
  refine ⟨fun hx => False.elim (by first | (cases hx; done) | (simp at hx; done) | exact absurd hx (by decide)), fun _ => ?_⟩
  conv => whnf
  refine ⟨?_⟩
  conv => whnf
  refine ⟨_, ty_lst hj _, ?_⟩
  conv => whnf
  refine ⟨fun hx => False.elim (by first | (cases hx; done) | (simp at hx; done) | exact absurd hx (by decide)), fun _ => ?_⟩
  conv => whnf
  refine ⟨?_⟩
  conv => whnf
  refine ⟨_, ty_lst hj _, ?_⟩
  conv => whnf
  refine ⟨fun hx => False.elim (by first | (cases hx; done) | (simp at hx; done) | exact absurd hx (by decide)), fun _ => ?_⟩
  conv => whnf
  refine ⟨?_⟩
  conv => whnf
  refine ⟨_, ty_lst hj _, ?_⟩
  conv => whnf
  refine ⟨_, ty_lst hi _, ?_⟩
  conv => whnf
  refine ⟨_, peq_bl _ _ _, ?_⟩
  conv => whnf
  refine ⟨fun hx => False.elim (by first | (cases hx; done) | (simp at hx; done) | exact absurd hx (by decide)), fun _ => ?_⟩
  conv => whnf
  refine ⟨_, ty_lst hj _, ?_⟩
  conv => whnf
  refine ⟨_, ty_lst hi _, ?_⟩
  conv => whnf
  refine ⟨_, peq_bl _ _ _, ?_⟩
  conv => whnf
  refine ⟨fun hx => False.elim (by first | (cases hx; done) | (simp at hx; done) | exact absurd hx (by decide)), fun _ => ?_⟩
  conv => whnf
  refine ⟨?_⟩
  conv => whnf
  refine ⟨_, lst_at hi, ?_⟩
  conv => whnf
  refine ⟨_, lst_at hj, ?_⟩
  conv => whnf
  refine ⟨_, peq_int _ _ _, ?_⟩
  conv => whnf
  refine ⟨fun _ => ?_, fun hx => False.elim (by first | (cases hx; done) | (simp at hx; done) | exact absurd hx (by decide))⟩
  conv => whnf
  refine wlc ?_
  conv => whnf
  refine ⟨_, lst_at hj, ?_⟩
  conv => whnf
  refine ⟨⟨by simp, by show (2 : Int) ≤ (sizeLine : Nat); rw [sizeLine_eq]; decide⟩, ?_⟩
  show LcP _ _ _ _ _ _ 2 0 _ _ _
  refine LcP.step (x := .int 0) rfl ?_
  conv => whnf
  refine ⟨fun _ => ?_, fun hx => False.elim (by first | (cases hx; done) | (simp at hx; done) | exact absurd hx (by decide))⟩
  conv => whnf
  refine ⟨_, _, lst_at hi, rfl, ?_⟩
  conv => whnf
  refine ⟨_, _, lst_at hj, rfl, ?_⟩
  conv => whnf
  refine ⟨rfl, same_sc (L := L) (n := n) hx ?_⟩
  refine LcP.step (x := .int 1) rfl ?_
  conv => whnf
  refine ⟨fun _ => ?_, fun hx => False.elim (by first | (cases hx; done) | (simp at hx; done) | exact absurd hx (by decide))⟩
  conv => whnf
  refine ⟨_, _, lst_at hi, rfl, ?_⟩
  conv => whnf
  refine ⟨_, _, lst_at hj, rfl, ?_⟩
  conv => whnf
  refine ⟨rfl, same_sc (L := L) (n := n) hy ?_⟩
  refine LcP.done rfl ?_
  conv => whnf
  refine ⟨_, _, lst_at getNew, rfl, ?_⟩
  exact h
/-! ### what is due -/
theorem due_0 {n : Nat} {a b : EW.D} {s : Sto} {z : Int} {K : EW.D → Sto → Prop} {E : Exn → Sto → Prop} (ha : elN 128 a) (hb : elN 128 b) (h : K (.ref s.length) (s ++ [.lst [addD a b, mulD a b]])) : Wp (Run L (n + 1) 34 [.int 0, .int z, a, b] s) K E := by
  obtain ⟨i, rfl, h1, h2⟩ := ha
  obtain ⟨j, rfl, h3, h4⟩ := hb
  refine Wp.run (q := ⟨4, 4, b34⟩) rfl rfl ?_
  conv => whnf
  refine ⟨_, peq_int _ _ _, ?_⟩
  conv => whnf
  refine ⟨fun _ => ?_, fun hx => False.elim (by first | (cases hx; done) | (simp at hx; done) | exact absurd hx (by decide))⟩
  conv => whnf
  refine ⟨mul_ok 128 128 (bits_of h1 h2) (bits_of h3 h4) (by decide), ?_⟩
  exact h
theorem due_1 {n : Nat} {a b : EW.D} {s : Sto} {z : Int} {K : EW.D → Sto → Prop} {E : Exn → Sto → Prop} (ha : elC 128 a) (hb : elC 128 b) (h : K (.ref s.length) (s ++ [.lst [plC a b, addD a b]])) : Wp (Run L (n + 1) 34 [.int 1, .int z, a, b] s) K E := by
  refine Wp.run (q := ⟨4, 4, b34⟩) rfl rfl ?_
  conv => whnf
  refine ⟨_, peq_int _ _ _, ?_⟩
  conv => whnf
  refine ⟨fun hx => False.elim (by first | (cases hx; done) | (simp at hx; done) | exact absurd hx (by decide)), fun _ => ?_⟩
  conv => whnf
  refine ⟨?_⟩
  conv => whnf
  refine ⟨_, peq_int _ _ _, ?_⟩
  conv => whnf
  refine ⟨fun _ => ?_, fun hx => False.elim (by first | (cases hx; done) | (simp at hx; done) | exact absurd hx (by decide))⟩
  conv => whnf
  rcases ha with rfl | ⟨i, rfl, h1, h2⟩
  · refine ⟨fun _ => ?_, fun hx => False.elim (by first | (cases hx; done) | (simp at hx; done) | exact absurd hx (by decide))⟩
    conv => whnf
    refine ⟨fun _ => ?_, fun hx => False.elim (by first | (cases hx; done) | (simp at hx; done) | exact absurd hx (by decide))⟩
    conv => whnf
    refine ⟨fun _ => ?_, fun hx => False.elim (by first | (cases hx; done) | (simp at hx; done) | exact absurd hx (by decide))⟩
    conv => whnf
    exact h
  · refine ⟨fun hx => False.elim (by first | (cases hx; done) | (simp at hx; done) | exact absurd hx (by decide)), fun _ => ?_⟩
    conv => whnf
    rcases hb with rfl | ⟨j, rfl, h3, h4⟩
    · refine ⟨fun _ => ?_, fun hx => False.elim (by first | (cases hx; done) | (simp at hx; done) | exact absurd hx (by decide))⟩
      conv => whnf
      refine ⟨fun hx => False.elim (by first | (cases hx; done) | (simp at hx; done) | exact absurd hx (by decide)), fun _ => ?_⟩
      conv => whnf
      exact h
    · refine ⟨fun hx => False.elim (by first | (cases hx; done) | (simp at hx; done) | exact absurd hx (by decide)), fun _ => ?_⟩
      conv => whnf
      refine ⟨?_⟩
      conv => whnf
      exact h
theorem due_2 {n : Nat} {a b : EW.D} {s : Sto} {z : Int} {K : EW.D → Sto → Prop} {E : Exn → Sto → Prop} (ha : ∃ i : Int, a = .int i) (hb : ∃ i : Int, b = .int i) (h : K (.ref s.length) (s ++ [.lst [maxD' a b, minD' a b]])) : Wp (Run L (n + 1) 34 [.int 2, .int z, a, b] s) K E := by
  obtain ⟨i, rfl⟩ := ha
  obtain ⟨j, rfl⟩ := hb
  refine Wp.run (q := ⟨4, 4, b34⟩) rfl rfl ?_
  conv => whnf
  refine ⟨_, peq_int _ _ _, ?_⟩
  conv => whnf
  refine ⟨fun hx => False.elim (by first | (cases hx; done) | (simp at hx; done) | exact absurd hx (by decide)), fun _ => ?_⟩
  conv => whnf
  refine ⟨?_⟩
  conv => whnf
  refine ⟨_, peq_int _ _ _, ?_⟩
  conv => whnf
  refine ⟨fun hx => False.elim (by first | (cases hx; done) | (simp at hx; done) | exact absurd hx (by decide)), fun _ => ?_⟩
  conv => whnf
  refine ⟨?_⟩
  conv => whnf
  refine ⟨_, peq_int _ _ _, ?_⟩
  conv => whnf
  refine ⟨fun _ => ?_, fun hx => False.elim (by first | (cases hx; done) | (simp at hx; done) | exact absurd hx (by decide))⟩
  conv => whnf
  exact h
theorem due_3 {n : Nat} {a b : EW.D} {s : Sto} {z : Int} {K : EW.D → Sto → Prop} {E : Exn → Sto → Prop} (ha : ∃ i : Int, a = .int i) (hb : ∃ i : Int, b = .int i) (h : K (.ref s.length) (s ++ [.lst [orD a b, andD a b]])) : Wp (Run L (n + 1) 34 [.int 3, .int z, a, b] s) K E := by
  obtain ⟨i, rfl⟩ := ha
  obtain ⟨j, rfl⟩ := hb
  refine Wp.run (q := ⟨4, 4, b34⟩) rfl rfl ?_
  conv => whnf
  refine ⟨_, peq_int _ _ _, ?_⟩
  conv => whnf
  refine ⟨fun hx => False.elim (by first | (cases hx; done) | (simp at hx; done) | exact absurd hx (by decide)), fun _ => ?_⟩
  conv => whnf
  refine ⟨?_⟩
  conv => whnf
  refine ⟨_, peq_int _ _ _, ?_⟩
  conv => whnf
  refine ⟨fun hx => False.elim (by first | (cases hx; done) | (simp at hx; done) | exact absurd hx (by decide)), fun _ => ?_⟩
  conv => whnf
  refine ⟨?_⟩
  conv => whnf
  refine ⟨_, peq_int _ _ _, ?_⟩
  conv => whnf
  refine ⟨fun hx => False.elim (by first | (cases hx; done) | (simp at hx; done) | exact absurd hx (by decide)), fun _ => ?_⟩
  conv => whnf
  refine ⟨?_⟩
  conv => whnf
  exact h
/-! ### makers, refusals -/
theorem levels_init {n : Nat} {s : Sto} {ρ : Nat} {t : Int} {K : EW.D → Sto → Prop} {E : Exn → Sto → Prop} (ht : 1 ≤ t) (hs : s[ρ]? = some (.ins 2 [])) (h : K .non (s.set ρ (.ins 2 [(0, .int t)]))) : Wp (Run L (n + 1) 13 [.ref ρ, .int t] s) K E := by
  refine Wp.run (q := ⟨2, 2, b13⟩) rfl rfl ?_
  conv => whnf
  refine ⟨fun hq => absurd (of_decide_eq_true hq) (by omega), fun _ => ?_⟩
  conv => whnf
  refine ⟨?_⟩
  conv => whnf
  refine ⟨_, _, hs, ⟨rfl, by decide⟩, ?_⟩
  conv => whnf
  refine ⟨?_⟩
  exact h
theorem events_init {n : Nat} {s : Sto} {ρ : Nat} {t : Int} {K : EW.D → Sto → Prop} {E : Exn → Sto → Prop} (h0 : 0 ≤ t) (h1 : t ≤ 200) (hs : s[ρ]? = some (.ins 3 [])) (h : K .non (s.set ρ (.ins 3 [(1, .int (1 * 2 ^ t.toNat - 1))]))) : Wp (Run L (n + 1) 20 [.ref ρ, .int t] s) K E := by
  refine Wp.run (q := ⟨2, 2, b20⟩) rfl rfl ?_
  conv => whnf
  refine ⟨fun _ => ?_, fun hq => absurd h0 (of_decide_eq_false hq)⟩
  conv => whnf
  refine ⟨fun hq => absurd h1 (of_decide_eq_false (by simpa using hq)), fun _ => ?_⟩
  conv => whnf
  refine ⟨?_⟩
  conv => whnf
  refine ⟨⟨h0, by show (Builtin.Int.intBits 1 : Int) + t ≤ _; rw [show Builtin.Int.intBits 1 = 1 by rfl]; omega⟩, ?_⟩
  conv => whnf
  refine ⟨_, _, hs, ⟨rfl, by decide⟩, ?_⟩
  conv => whnf
  refine ⟨?_⟩
  exact h
theorem levels_bad {n : Nat} {s : Sto} {ρ : Nat} {K : EW.D → Sto → Prop} {E : Exn → Sto → Prop} (h : E ⟨1, []⟩ s) : Wp (Run L (n + 1) 13 [.ref ρ, .int 0] s) K E := by
  refine Wp.run (q := ⟨2, 2, b13⟩) rfl rfl ?_
  conv => whnf
  refine ⟨fun _ => ?_, fun hx => False.elim (by first | (cases hx; done) | (simp at hx; done) | exact absurd hx (by decide))⟩
  conv => whnf
  exact ⟨rfl, h⟩
theorem events_bad {n : Nat} {s : Sto} {ρ : Nat} {t : Int} {K : EW.D → Sto → Prop} {E : Exn → Sto → Prop} (ht : t = 201 ∨ t = -1) (h : E ⟨1, []⟩ s) : Wp (Run L (n + 1) 20 [.ref ρ, .int t] s) K E := by
  refine Wp.run (q := ⟨2, 2, b20⟩) rfl rfl ?_
  conv => whnf
  rcases ht with rfl | rfl
  · refine ⟨fun _ => ?_, fun hx => False.elim (by first | (cases hx; done) | (simp at hx; done) | exact absurd hx (by decide))⟩
    conv => whnf
    refine ⟨fun _ => ?_, fun hx => False.elim (by first | (cases hx; done) | (simp at hx; done) | exact absurd hx (by decide))⟩
    conv => whnf
    exact ⟨rfl, h⟩
  · refine ⟨fun hx => False.elim (by first | (cases hx; done) | (simp at hx; done) | exact absurd hx (by decide)), fun _ => ?_⟩
    conv => whnf
    refine ⟨fun _ => ?_, fun hx => False.elim (by first | (cases hx; done) | (simp at hx; done) | exact absurd hx (by decide))⟩
    conv => whnf
    exact ⟨rfl, h⟩
theorem refused_0 {n : Nat} {s : Sto} {K : EW.D → Sto → Prop} {E : Exn → Sto → Prop} (h : K (.bl true) (s ++ [.ins 2 []])) : Wp (Run L (n + 2) 32 [.int 0, .int 0] s) K E := by
  refine Wp.run (q := ⟨2, 3, b32⟩) rfl rfl ?_
  conv => whnf
  refine ⟨_, peq_int _ _ _, ?_⟩
  conv => whnf
  refine ⟨fun _ => ?_, fun hx => False.elim (by first | (cases hx; done) | (simp at hx; done) | exact absurd hx (by decide))⟩
  conv => whnf
  refine ⟨rfl, levels_bad (L := L) (n := n) (ρ := s.length) ?_⟩
  conv => whnf
  refine ⟨?_⟩
  exact h
theorem refused_1 {n : Nat} {s : Sto} {t : Int} {K : EW.D → Sto → Prop} {E : Exn → Sto → Prop} (ht : t = 201 ∨ t = -1) (h : K (.bl true) (s ++ [.ins 3 []])) : Wp (Run L (n + 2) 32 [.int 1, .int t] s) K E := by
  refine Wp.run (q := ⟨2, 3, b32⟩) rfl rfl ?_
  conv => whnf
  refine ⟨_, peq_int _ _ _, ?_⟩
  conv => whnf
  refine ⟨fun hx => False.elim (by first | (cases hx; done) | (simp at hx; done) | exact absurd hx (by decide)), fun _ => ?_⟩
  conv => whnf
  refine ⟨rfl, events_bad (L := L) (n := n) (ρ := s.length) ht ?_⟩
  conv => whnf
  refine ⟨?_⟩
  exact h
/-! ### the elements -/
def PotE (s : Sto) (j k : Nat) (cs : List Int) : Prop := ∃ i b sd : Int, Pot s j k cs i b sd
/-- all but the pot stays -/
def Fr (s s' : Sto) (j : Nat) : Prop := ∀ (i : Nat) (o : Ob), i ≠ j → s[i]? = some o → s'[i]? = some o
theorem Fr.set {s : Sto} {j : Nat} {o : Ob} : Fr s (s.set j o) j := fun i u hi h => by rw [List.getElem?_set_ne (Ne.symm hi)]; exact h
theorem Fr.app {s t : Sto} {j : Nat} : Fr s (s ++ t) j := fun i u hi h => getOld h
theorem Fr.trans {s s' s'' : Sto} {j : Nat} (a : Fr s s' j) (b : Fr s' s'' j) : Fr s s'' j := fun i u hi h => b i u hi (a i u hi h)
theorem PotE.app {s t : Sto} {j k : Nat} {cs : List Int} (p : PotE s j k cs) : PotE (s ++ t) j k cs := by
  obtain ⟨i, b, sd, p⟩ := p
  exact ⟨i, b, sd, getOld p.pot, getOld p.cel, p.ne, p.i0, p.b0, p.s0, p.s1⟩
/-- a draw, whatever it is -/
theorem draw {n : Nat} {s : Sto} {j k : Nat} {cs : List Int} {l : Int} {K : EW.D → Sto → Prop} {E : Exn → Sto → Prop} (p : PotE s j k cs) (hl : 0 < l) (hl2 : l.natAbs.log2 < 9000)
    (h : ∀ (v : Int) (s' : Sto), 0 ≤ v → v < l → PotE s' j k cs → Fr s s' j → s'.length = s.length → K (.int v) s') : Wp (Run L (n + 1) 28 [.ref j, .int l] s) K E := by
  obtain ⟨i, b, sd, p⟩ := p
  exact next_call p hl hl2 fun v i' b' sd' h1 h2 h3 => h v _ h1 h2 ⟨_, _, _, h3⟩ Fr.set (by simp)
theorem at_two {a b v : Int} (h0 : 0 ≤ v) (h2 : v < 2) : ∃ d : Int, L2.atI [EW.D.int a, .int b] v = some (.int d) ∧ (d = a ∨ d = b) := by
  have : v = 0 ∨ v = 1 := by omega
  rcases this with rfl | rfl
  · exact ⟨a, rfl, .inl rfl⟩
  · exact ⟨b, rfl, .inr rfl⟩
theorem elem_big {n : Nat} {s : Sto} {j k : Nat} {cs : List Int} {l kind : Int} {K : EW.D → Sto → Prop} {E : Exn → Sto → Prop} (p : PotE s j k cs) (hk : 2 ≤ kind) (hl : 0 ≤ l) (hl2 : (l + 1).natAbs.log2 < 9000)
    (h : ∀ (v : Int) (s' : Sto), 0 ≤ v → v ≤ l → PotE s' j k cs → Fr s s' j → K (.int v) s') : Wp (Run L (n + 2) 35 [.ref j, .int kind, .int l] s) K E := by
  refine Wp.run (q := ⟨3, 3, b35⟩) rfl rfl ?_
  have k1 : decide (kind = 1) = false := decide_eq_false (by omega)
  conv => whnf
  refine ⟨_, peq_int _ _ _, ?_⟩
  conv => whnf
  refine ⟨fun hx => Bool.noConfusion (k1.symm.trans hx), fun _ => ?_⟩
  conv => whnf
  refine ⟨fun hx => Bool.noConfusion (k1.symm.trans hx), fun _ => ?_⟩
  conv => whnf
  refine ⟨?_⟩
  conv => whnf
  refine ⟨fun hx => absurd (of_decide_eq_true hx) (by omega), fun _ => ?_⟩
  conv => whnf
  refine ⟨?_⟩
  conv => whnf
  refine ⟨rfl, draw (L := L) (n := n) p (by omega) hl2 fun v s' h1 h2 h3 h4 _ => h v s' h1 (by omega) h3 h4⟩
theorem elem_small {n : Nat} {s : Sto} {j k : Nat} {cs : List Int} {l kind : Int} {K : EW.D → Sto → Prop} {E : Exn → Sto → Prop} (p : PotE s j k cs) (hk : kind = 0 ∨ kind = 1)
    (h0 : ∀ s' : Sto, kind = 1 → PotE s' j k cs → Fr s s' j → K .non s')
    (h : ∀ (v : Int) (s' : Sto), 0 ≤ v → v < 10 ^ 30 → PotE s' j k cs → Fr s s' j → K (.int v) s') : Wp (Run L (n + 2) 35 [.ref j, .int kind, .int l] s) K E := by
  refine Wp.run (q := ⟨3, 3, b35⟩) rfl rfl ?_
  have rest : ∀ s1 : Sto, PotE s1 j k cs → Fr s s1 j → wSs ⟨pd.prg, L, EW.run pd.prg L (n + 1)⟩ (.cons (.ite (.cmp .lt (.var 1) (.int 2)) (.cons (.ret (.call 28 (.cons (.var 0) (.cons (.ix (.lst (.cons (.int 3) (.cons (.bin .pow (.int 10) (.int 30)) .nil))) (.call 28 (.cons (.var 0) (.cons (.int 2) .nil)))) .nil)))) .nil) .nil) (.cons (.ret (.call 28 (.cons (.var 0) (.cons (.bin .add (.var 2) (.int 1)) .nil)))) .nil)) [.val (.ref j), .val (.int kind), .val (.int l)] s1 (fun _ s1 => K .non s1) K (fun x _ s1 => E x s1) := fun s1 p1 f1 => by
    conv => whnf
    refine ⟨fun _ => ?_, fun hx => absurd (of_decide_eq_false hx) (by omega)⟩
    conv => whnf
    refine ⟨by decide +kernel, ?_⟩
    conv => whnf
    refine ⟨rfl, draw (L := L) (n := n) p1.app (by decide) (by decide +kernel) fun v s2 h1 h2 h3 h4 _ => ?_⟩
    conv => whnf
    have p1l : j ≠ s1.length := by
      obtain ⟨i, b, sd, p⟩ := p1
      have := (List.getElem?_eq_some_iff.mp p.pot).1
      omega
    obtain ⟨d, e1, e2⟩ := at_two (a := 3) (b := 10 ^ 30) h1 h2
    refine ⟨_, _, lst_at (h4 _ _ (Ne.symm p1l) getNew), e1, ?_⟩
    conv => whnf
    refine ⟨rfl, draw (L := L) (n := n) h3 (by rcases e2 with rfl | rfl <;> decide) (by rcases e2 with rfl | rfl <;> decide +kernel) fun v s3 g1 g2 g3 g4 _ => ?_⟩
    refine h v s3 g1 ?_ g3 (f1.trans (Fr.app.trans (h4.trans g4)))
    rcases e2 with rfl | rfl
    · exact Int.lt_trans g2 (by decide)
    · exact g2
  have fr0 : Fr s s j := fun _ _ _ h => h
  conv => whnf
  refine ⟨_, peq_int _ _ _, ?_⟩
  conv => whnf
  rcases hk with rfl | rfl
  · refine ⟨fun hx => False.elim (by first | (cases hx; done) | (simp at hx; done) | exact absurd hx (by decide)), fun _ => ?_⟩
    conv => whnf
    refine ⟨fun hx => False.elim (by first | (cases hx; done) | (simp at hx; done) | exact absurd hx (by decide)), fun _ => ?_⟩
    conv => whnf
    refine ⟨?_⟩
    exact rest s p fr0
  · refine ⟨fun _ => ?_, fun hx => False.elim (by first | (cases hx; done) | (simp at hx; done) | exact absurd hx (by decide))⟩
    conv => whnf
    refine ⟨rfl, draw (L := L) (n := n) p (by decide) (by decide) fun v s2 h1 h2 h3 h4 _ => ?_⟩
    conv => whnf
    refine ⟨_, peq_int _ _ _, ?_⟩
    conv => whnf
    refine ⟨fun hx => h0 s2 rfl h3 h4, fun _ => ?_⟩
    conv => whnf
    refine ⟨?_⟩
    exact rest s2 h3 h4
end K02

set_option Elab.async false
set_option linter.all false
set_option maxRecDepth 100000
set_option maxHeartbeats 0
namespace K02
open EW PySem
variable {L : Nat}
def dropS : Nat → CSs → CSs
  | 0, x => x
  | n + 1, .cons _ r => dropS n r
  | _ + 1, .nil => .nil
theorem itl_at {s : Sto} {m n i : Nat} {xs : List EW.D} {x : EW.D} (h : s[m]? = some (.lst xs)) (e : xs[i]? = some x) : (itLst m n).at_ i s = some x := by
  show (lstAt s m).bind (fun xs => xs[i]?) = some x
  rw [lst_at h]
  exact e
theorem itl_fin {s : Sto} {m n : Nat} {xs : List EW.D} (h : s[m]? = some (.lst xs)) (e : xs.length ≤ n) : (itLst m n).fin s = true := by
  show (match lstAt s m with
    | some xs => decide (xs.length ≤ n)
    | none => false) = true
  rw [lst_at h]
  exact decide_eq_true e
/-- a comprehension that says True of each item -/
theorem lc_all {C : Cal} {r0 : EW.Env} {v m : Nat} {elt : CE} {xs : List EW.D} {s : Sto} {K : List EW.D → Sto → Prop} (hm : s[m]? = some (.lst xs)) (hx : ∀ x ∈ xs, ∀ K : EW.D → Sto → Prop, K (.bl true) s → wE C (r0.set v (.val x)) noE elt K s)
    (h : K (List.replicate xs.length (.bl true)) s) : LcP C r0 (.nm v) .nil elt (itLst m xs.length) xs.length 0 [] s K := by
  refine LcP.inv (fun i acc s' => s' = s ∧ acc = List.replicate i (.bl true)) ?_ ?_ _ _ _ _ (Nat.zero_add _) ⟨rfl, rfl⟩
  · rintro i acc s' hi ⟨rfl, rfl⟩
    have hi : i < xs.length := hi
    refine ⟨xs[i], itl_at hm (List.getElem?_eq_getElem hi), ?_⟩
    conv => whnf
    refine ⟨fun _ => hx _ (List.getElem_mem hi) _ ⟨rfl, ?_⟩, fun hx => absurd hx (by decide)⟩
    rw [← List.replicate_succ']
  · rintro acc s' ⟨rfl, rfl⟩
    exact ⟨itl_fin hm (Nat.le_refl _), h⟩
theorem all_rep : ∀ n : Nat, omap blOf (List.replicate n (EW.D.bl true)) = some (List.replicate n true)
  | 0 => rfl
  | n + 1 => by
    simp only [List.replicate_succ, omap, blOf, all_rep n]
theorem rep_all (n : Nat) : (List.replicate n true).all id = true := by
  rw [List.all_eq_true]
  intro x hx
  exact (List.mem_replicate.mp hx).2
/-- is_number -/
def isI : EW.D → Bool
  | .int _ => true
  | _ => false
def Seen (s : Sto) (d : EW.D) : Prop := match d with
  | .ref i => ∃ xs, s[i]? = some (.lst xs)
  | _ => True
theorem isnum_call {n : Nat} {d : EW.D} {s : Sto} {K : EW.D → Sto → Prop} {E : Exn → Sto → Prop} (hd : Seen s d) (h : K (.bl (isI d)) s) : Wp (Run L (n + 1) 0 [d] s) K E := by
  refine Wp.run (q := ⟨1, 1, b0⟩) rfl rfl ?_
  cases d with
  | non =>
    conv => whnf
    refine ⟨fun hx => False.elim (by first | (cases hx; done) | (simp at hx; done) | exact absurd hx (by decide)), fun _ => ?_⟩
    exact h
  | bl b =>
    conv => whnf
    refine ⟨fun _ => ?_, fun hx => False.elim (by first | (cases hx; done) | (simp at hx; done) | exact absurd hx (by decide))⟩
    conv => whnf
    exact h
  | int i =>
    conv => whnf
    refine ⟨fun _ => ?_, fun hx => False.elim (by first | (cases hx; done) | (simp at hx; done) | exact absurd hx (by decide))⟩
    conv => whnf
    exact h
  | str x =>
    conv => whnf
    refine ⟨fun hx => False.elim (by first | (cases hx; done) | (simp at hx; done) | exact absurd hx (by decide)), fun _ => ?_⟩
    exact h
  | tup x =>
    conv => whnf
    refine ⟨fun hx => False.elim (by first | (cases hx; done) | (simp at hx; done) | exact absurd hx (by decide)), fun _ => ?_⟩
    exact h
  | ref i =>
    obtain ⟨xs, hx⟩ := hd
    conv => whnf
    refine ⟨_, ty_lst hx _, ?_⟩
    conv => whnf
    refine ⟨fun hx => False.elim (by first | (cases hx; done) | (simp at hx; done) | exact absurd hx (by decide)), fun _ => ?_⟩
    exact h
/-- what is_element says of d: by the kind's test of ints -/
def elB (f : Int → Bool) : EW.D → Bool
  | .int i => f i
  | _ => false
theorem el_0 {n ρ : Nat} {d : EW.D} {s : Sto} {K : EW.D → Sto → Prop} {E : Exn → Sto → Prop} (hd : Seen s d) (h : K (.bl (elB (fun i => decide (0 ≤ i)) d)) s) : Wp (Run L (n + 2) 6 [.ref ρ, d] s) K E := by
  refine Wp.run (q := ⟨2, 2, b6⟩) rfl rfl ?_
  conv => whnf
  refine ⟨rfl, isnum_call (L := L) (n := n) hd ?_⟩
  cases d with
  | int i =>
    conv => whnf
    refine ⟨fun _ => ?_, fun hx => False.elim (by first | (cases hx; done) | (simp at hx; done) | exact absurd hx (by decide))⟩
    conv => whnf
    exact h
  | _ =>
    conv => whnf
    refine ⟨fun hx => False.elim (by first | (cases hx; done) | (simp at hx; done) | exact absurd hx (by decide)), fun _ => ?_⟩
    exact h
theorem el_1 {n ρ : Nat} {d : EW.D} {s : Sto} {K : EW.D → Sto → Prop} {E : Exn → Sto → Prop} (hd : Seen s d) (h : K (.bl (decide (d = .non) || elB (fun i => decide (0 ≤ i)) d)) s) : Wp (Run L (n + 2) 12 [.ref ρ, d] s) K E := by
  refine Wp.run (q := ⟨2, 2, b12⟩) rfl rfl ?_
  cases d with
  | non =>
    conv => whnf
    refine ⟨fun _ => ?_, fun hx => False.elim (by first | (cases hx; done) | (simp at hx; done) | exact absurd hx (by decide))⟩
    exact h
  | int i =>
    conv => whnf
    refine ⟨fun hx => False.elim (by first | (cases hx; done) | (simp at hx; done) | exact absurd hx (by decide)), fun _ => ?_⟩
    conv => whnf
    refine ⟨rfl, isnum_call (L := L) (n := n) hd ?_⟩
    conv => whnf
    refine ⟨fun _ => ?_, fun hx => False.elim (by first | (cases hx; done) | (simp at hx; done) | exact absurd hx (by decide))⟩
    conv => whnf
    exact h
  | _ =>
    conv => whnf
    refine ⟨fun hx => False.elim (by first | (cases hx; done) | (simp at hx; done) | exact absurd hx (by decide)), fun _ => ?_⟩
    conv => whnf
    refine ⟨rfl, isnum_call (L := L) (n := n) hd ?_⟩
    conv => whnf
    refine ⟨fun hx => False.elim (by first | (cases hx; done) | (simp at hx; done) | exact absurd hx (by decide)), fun _ => ?_⟩
    exact h
theorem el_2 {n ρ : Nat} {d : EW.D} {s : Sto} {t : Int} {K : EW.D → Sto → Prop} {E : Exn → Sto → Prop} (hρ : s[ρ]? = some (.ins 2 [(0, .int t)])) (hd : Seen s d) (h : K (.bl (elB (fun i => decide (0 ≤ i) && decide (i ≤ t)) d)) s) : Wp (Run L (n + 2) 19 [.ref ρ, d] s) K E := by
  refine Wp.run (q := ⟨2, 2, b19⟩) rfl rfl ?_
  conv => whnf
  refine ⟨rfl, isnum_call (L := L) (n := n) hd ?_⟩
  cases d with
  | int i =>
    conv => whnf
    refine ⟨fun _ => ?_, fun hx => False.elim (by first | (cases hx; done) | (simp at hx; done) | exact absurd hx (by decide))⟩
    conv => whnf
    have h : K (.bl (decide (0 ≤ i) && decide (i ≤ t))) s := h
    refine ⟨fun h0 => ?_, fun h0 => ?_⟩
    · conv => whnf
      refine ⟨_, _, _, hρ, rfl, rfl, ?_⟩
      conv => whnf
      rw [h0] at h
      exact h
    · rw [h0] at h
      exact h
  | _ =>
    conv => whnf
    refine ⟨fun hx => False.elim (by first | (cases hx; done) | (simp at hx; done) | exact absurd hx (by decide)), fun _ => ?_⟩
    exact h
theorem el_3 {n ρ : Nat} {d : EW.D} {s : Sto} {t : Int} {K : EW.D → Sto → Prop} {E : Exn → Sto → Prop} (hρ : s[ρ]? = some (.ins 3 [(1, .int t)])) (hd : Seen s d) (h : K (.bl (elB (fun i => decide (0 ≤ i) && decide (i ≤ t)) d)) s) : Wp (Run L (n + 2) 26 [.ref ρ, d] s) K E := by
  refine Wp.run (q := ⟨2, 2, b26⟩) rfl rfl ?_
  conv => whnf
  refine ⟨rfl, isnum_call (L := L) (n := n) hd ?_⟩
  cases d with
  | int i =>
    conv => whnf
    refine ⟨fun _ => ?_, fun hx => False.elim (by first | (cases hx; done) | (simp at hx; done) | exact absurd hx (by decide))⟩
    conv => whnf
    have h : K (.bl (decide (0 ≤ i) && decide (i ≤ t))) s := h
    refine ⟨fun h0 => ?_, fun h0 => ?_⟩
    · conv => whnf
      refine ⟨_, _, _, hρ, rfl, rfl, ?_⟩
      conv => whnf
      rw [h0] at h
      exact h
    · rw [h0] at h
      exact h
  | _ =>
    conv => whnf
    refine ⟨fun hx => False.elim (by first | (cases hx; done) | (simp at hx; done) | exact absurd hx (by decide)), fun _ => ?_⟩
    exact h
theorem ax_all {ρ c bs : Nat} {fs : List (Nat × EW.D)} {el : Nat → EW.D → Prop} {pl ti : EW.D → EW.D → EW.D} {ze on : EW.D} {st : EW.D → Option EW.D} (R : Ring L ρ c bs fs el pl ti ze on st) (A : Alg el pl ti ze on st) {n : Nat} {s : Sto} {x y z : EW.D} {K : EW.D → Sto → Prop} {E : Exn → Sto → Prop} (hρ : s[ρ]? = some (.ins c fs)) (hx : el 128 x) (hy : el 128 y) (hz : el 128 z)
    (hn : ∀ (s : Sto) v, st x = some v → peq (s ++ [.lst [v]]) (.ref s.length) (.str [110, 111, 110, 101]) = some false) (h : ∀ s', s'[ρ]? = some (.ins c fs) → K (.bl true) s') : Wp (Run L (n + 4) 33 [.ref ρ, x, y, z] s) K E :=
  ax_call R A hρ hx hy hz (fun _ => h s hρ) (fun v _ => h _ (getOld hρ)) hn
theorem hn_int (i : Int) (s : Sto) : peq (s ++ [.lst [.int i]]) (.ref s.length) (.str [110, 111, 110, 101]) = some false :=
  peq_of (s := s ++ [.lst [.int i]]) (a := .ref s.length) (b := .str [110, 111, 110, 101]) (pa := .list [.int i]) (pb := .str (strOf [110, 111, 110, 101])) (by rw [pd_lst (xs := [.int i]) getNew]; rfl) rfl rfl (by decide +kernel)
theorem peq_l1 {s : Sto} {i j : Nat} {k : Int} (hi : s[i]? = some (.lst [.int k])) (hj : s[j]? = some (.lst [.int k])) : peq s (.ref i) (.ref j) = some true := by
  refine (peq_of (pa := .list [.int k]) (pb := .list [.int k]) (by rw [pd_lst hi]; rfl) (by rw [pd_lst hj]; rfl) rfl rfl).trans (congrArg some ?_)
  show ((k == k) && true) = true
  simp
/-! ### the law's end -/
theorem tail14 {c fe ρ m n : Nat} {fs : List (Nat × EW.D)} {t : EW.D → Bool} {xs : List EW.D} {s : Sto} {a b d : EW.D} {z0 z1 z2 z3 z4 z10 z11 : Slot} {K : EW.D → Sto → Prop} {E : Exn → EW.Env → Sto → Prop} {N : EW.Env → Sto → Prop}
    (hm : pd.prg.meth c 0 = some fe) (hc : pd.prg.can fe 2 = true) (hn : pd.prg.np fe = 2) (spec : ∀ (s : Sto) (d : EW.D) (K : EW.D → Sto → Prop) (E : Exn → Sto → Prop), s[ρ]? = some (.ins c fs) → Seen s d → K (.bl (t d)) s → Wp (Run L (n + 2) fe [.ref ρ, d] s) K E)
    (hρ : s[ρ]? = some (.ins c fs)) (hB : s[m]? = some (.lst xs)) (hbad : ∀ x ∈ xs, Seen s x ∧ t x = false) (ha : (∀ s, Seen s a) ∧ t a = true) (hb : (∀ s, Seen s b) ∧ t b = true) (hd : (∀ s, Seen s d) ∧ t d = true) (h : ∀ s, K (.bl true) s) :
    wSs ⟨pd.prg, L, EW.run pd.prg L (n + 2)⟩ (dropS 14 b36) [z0, z1, z2, z3, z4, .val (.ref ρ), .val a, .val b, .val d, .val (.ref m), z10, z11] s N K E := by
  conv => whnf
  refine wlc ?_
  conv => whnf
  refine ⟨_, lst_at hB, ?_⟩
  refine lc_all hB (fun x hx K hK => ?_) ?_
  · conv => whnf
    refine ⟨_, _, _, hρ, hm, hc, ?_⟩
    conv => whnf
    refine ⟨hn.symm, spec _ _ _ _ hρ (hbad x hx).1 ?_⟩
    rw [(hbad x hx).2]
    exact hK
  · conv => whnf
    refine ⟨_, _, lst_at getNew, all_rep _, ?_⟩
    rw [rep_all]
    conv => whnf
    refine ⟨fun hx => False.elim (by first | (cases hx; done) | (simp at hx; done) | exact absurd hx (by decide)), fun _ => ?_⟩
    conv => whnf
    refine wlc ?_
    conv => whnf
    refine ⟨_, lst_at getNew, ?_⟩
    refine lc_all getNew (fun x hx K hK => ?_) ?_
    · have hx2 : (∀ s, Seen s x) ∧ t x = true := by
        rcases List.mem_cons.mp hx with rfl | hx
        · exact ha
        rcases List.mem_cons.mp hx with rfl | hx
        · exact hb
        rcases List.mem_cons.mp hx with rfl | hx
        · exact hd
        cases hx
      conv => whnf
      refine ⟨_, _, _, getOld (getOld hρ), hm, hc, ?_⟩
      conv => whnf
      refine ⟨hn.symm, spec _ _ _ _ (getOld (getOld hρ)) (hx2.1 _) ?_⟩
      rw [hx2.2]
      exact hK
    · conv => whnf
      refine ⟨_, _, lst_at getNew, all_rep _, ?_⟩
      rw [rep_all]
      conv => whnf
      refine ⟨fun hx => False.elim (by first | (cases hx; done) | (simp at hx; done) | exact absurd hx (by decide)), fun _ => ?_⟩
      conv => whnf
      refine ⟨?_⟩
      conv => whnf
      refine ⟨rfl, refused_0 (L := L) (n := n) ?_⟩
      conv => whnf
      refine ⟨fun _ => ?_, fun hx => False.elim (by first | (cases hx; done) | (simp at hx; done) | exact absurd hx (by decide))⟩
      conv => whnf
      refine ⟨rfl, refused_1 (L := L) (n := n) (t := 201) (.inl rfl) ?_⟩
      conv => whnf
      refine ⟨fun _ => ?_, fun hx => False.elim (by first | (cases hx; done) | (simp at hx; done) | exact absurd hx (by decide))⟩
      conv => whnf
      refine ⟨rfl, refused_1 (L := L) (n := n) (t := -1) (.inr rfl) ?_⟩
      exact h _
end K02

set_option Elab.async false
set_option linter.all false
set_option maxRecDepth 100000
set_option maxHeartbeats 0
namespace K02
open EW PySem
variable {L : Nat}
theorem chk_app {S : Sto} {m : Nat} {xs : List EW.D} (h : S[m]? = some (.lst xs)) : chkB .append (.ref m) S = .ok () S := by
  show (match S[m]? with
    | some (.lst _) => Res.ok () S
    | _ => .no) = _
  rw [h]
theorem getSet {S : Sto} {m i : Nat} {o u : Ob} (h : S[i]? = some u) (hi : i ≠ m) : (S.set m o)[i]? = some u := by
  rw [List.getElem?_set_ne (Ne.symm hi)]; exact h
theorem neNew {S : Sto} {i : Nat} {u : Ob} (h : S[i]? = some u) : i ≠ S.length := by
  have := (List.getElem?_eq_some_iff.mp h).1
  omega
theorem hn_N {x : EW.D} (ha : elN 128 x) (s : Sto) (v : EW.D) (hv : stN x = some v) : peq (s ++ [.lst [v]]) (.ref s.length) (.str [110, 111, 110, 101]) = some false := by
  obtain ⟨i, rfl, _⟩ := ha
  have hv : (if i = 0 then some (EW.D.int 1) else none) = some v := hv
  split at hv
  · cases hv
    exact hn_int 1 s
  · cases hv
theorem setNew {S : Sto} {o o' : Ob} : ((S ++ [o]).set S.length o')[S.length]? = some o' := by simp

theorem tail12_0 {n ρ : Nat} {size : Int} {s : Sto} {a b d : EW.D} {z0 z1 z4 z9 z10 z11 : Slot} {K : EW.D → Sto → Prop} {E : Exn → EW.Env → Sto → Prop} {N : EW.Env → Sto → Prop} (hρ : s[ρ]? = some (.ins 0 [])) (ha : elN 128 a) (hb : elN 128 b) (hd : elN 128 d) (ta : (∀ s, Seen s a) ∧ (elB (fun i => decide (0 ≤ i))) a = true) (tb : (∀ s, Seen s b) ∧ (elB (fun i => decide (0 ≤ i))) b = true) (td : (∀ s, Seen s d) ∧ (elB (fun i => decide (0 ≤ i))) d = true) (h : ∀ s, K (.bl true) s) : wSs ⟨pd.prg, L, EW.run pd.prg L (n + 5)⟩ (dropS 12 b36) [z0, z1, .val (.int 0), .val (.int size), z4, .val (.ref ρ), .val a, .val b, .val d, z9, z10, z11] s N K E := by
  conv => whnf
  refine ⟨_, _, lst_at getNew, rfl, ?_⟩
  conv => whnf
  refine ⟨_, _, getOld (getOld (getOld (getOld (getOld (getNew))))), getOld (getOld (getOld (getOld (getNew)))), by rw [sizeLine_eq]; exact Nat.le_of_ble_eq_true rfl, ?_⟩
  conv => whnf
  refine ⟨?_⟩
  conv => whnf
  refine ⟨_, peq_int _ _ _, ?_⟩
  conv => whnf
  refine ⟨fun _ => ?_, fun hx => False.elim (by first | (cases hx; done) | (simp at hx; done) | exact absurd hx (by decide))⟩
  conv => whnf
  refine ⟨chk_app getNew, ?_⟩
  conv => whnf
  refine ⟨_, getNew, by rw [sizeLine_eq]; exact Nat.le_of_ble_eq_true rfl, ?_⟩
  conv => whnf
  refine ⟨?_⟩
  conv => whnf
  refine ⟨?_⟩
  refine tail14 (L := L) (n := n + 3) (fe := 6) rfl rfl rfl (fun s d K E h1 h2 h3 => el_0 (L := L) h2 h3) (getSet (getOld (getOld (getOld (getOld (getOld (getOld (getOld (getOld (hρ))))))))) (neNew (getOld (getOld (getOld (getOld (getOld (getOld (getOld (hρ)))))))))) setNew (fun x hx => ?_) ta tb td h
  simp only [List.cons_append, List.nil_append, List.mem_cons, List.not_mem_nil, or_false] at hx
  rcases hx with rfl | rfl | rfl | rfl | rfl | rfl
  · exact ⟨trivial, rfl⟩
  · exact ⟨trivial, rfl⟩
  · exact ⟨trivial, rfl⟩
  · exact ⟨⟨[], getSet (getOld (getOld (getOld (getOld (getOld (getOld (getOld (getNew)))))))) (neNew (getOld (getOld (getOld (getOld (getOld (getOld (getNew))))))))⟩, rfl⟩
  · exact ⟨trivial, rfl⟩
  · exact ⟨trivial, rfl⟩

theorem tail11_0 {n ρ : Nat} {size : Int} {s : Sto} {a b d : EW.D} {z0 z1 z4 z9 z10 z11 : Slot} {K : EW.D → Sto → Prop} {E : Exn → EW.Env → Sto → Prop} {N : EW.Env → Sto → Prop} (hρ : s[ρ]? = some (.ins 0 [])) (ha : elN 128 a) (hb : elN 128 b) (hd : elN 128 d) (ta : (∀ s, Seen s a) ∧ (elB (fun i => decide (0 ≤ i))) a = true) (tb : (∀ s, Seen s b) ∧ (elB (fun i => decide (0 ≤ i))) b = true) (td : (∀ s, Seen s d) ∧ (elB (fun i => decide (0 ≤ i))) d = true) (h : ∀ s, K (.bl true) s) : wSs ⟨pd.prg, L, EW.run pd.prg L (n + 5)⟩ (dropS 11 b36) [z0, z1, .val (.int 0), .val (.int size), z4, .val (.ref ρ), .val a, .val b, .val d, z9, z10, z11] s N K E := by
  obtain ⟨i, rfl, hi0, _⟩ := id ha
  conv => whnf
  refine ⟨_, peq_int _ _ _, ?_⟩
  conv => whnf
  refine ⟨fun _ => ?_, fun hx => False.elim (by first | (cases hx; done) | (simp at hx; done) | exact absurd hx (by decide))⟩
  conv => whnf
  refine ⟨rfl, star_call (L := L) (n := n + 2) (ringN ρ) hρ ha (fun v hv => ?_) (fun hv => ?_)⟩
  · have hv : (if i = 0 then some (EW.D.int 1) else none) = some v := hv
    split at hv
    · rename_i q
      cases hv
      subst q
      conv => whnf
      refine ⟨false, hn_int 1 s, ?_⟩
      conv => whnf
      refine ⟨_, peq_bl _ _ _, ?_⟩
      conv => whnf
      refine ⟨fun hx => False.elim (by first | (cases hx; done) | (simp at hx; done) | exact absurd hx (by decide)), fun _ => ?_⟩
      conv => whnf
      refine ⟨fun hx => False.elim (by first | (cases hx; done) | (simp at hx; done) | exact absurd hx (by decide)), fun _ => ?_⟩
      conv => whnf
      refine ⟨fun hx => False.elim (by first | (cases hx; done) | (simp at hx; done) | exact absurd hx (by decide)), fun _ => ?_⟩
      conv => whnf
      refine ⟨?_⟩
      exact tail12_0 (getOld hρ) ha hb hd ta tb td h
    · cases hv
  · have hv : (if i = 0 then some (EW.D.int 1) else none) = none := hv
    split at hv
    · cases hv
    · rename_i q
      have q2 : decide (0 < i) = true := decide_eq_true (by omega)
      conv => whnf
      refine ⟨true, peq_nn, ?_⟩
      conv => whnf
      refine ⟨_, peq_bl _ _ _, ?_⟩
      rw [q2]
      conv => whnf
      refine ⟨fun hx => False.elim (by first | (cases hx; done) | (simp at hx; done) | exact absurd hx (by decide)), fun _ => ?_⟩
      conv => whnf
      refine ⟨fun hx => False.elim (by first | (cases hx; done) | (simp at hx; done) | exact absurd hx (by decide)), fun _ => ?_⟩
      conv => whnf
      refine ⟨fun hx => False.elim (by first | (cases hx; done) | (simp at hx; done) | exact absurd hx (by decide)), fun _ => ?_⟩
      conv => whnf
      refine ⟨?_⟩
      exact tail12_0 hρ ha hb hd ta tb td h

theorem tail10_0 {n ρ : Nat} {size : Int} {s : Sto} {a b d : EW.D} {z0 z1 z4 z9 z10 z11 : Slot} {K : EW.D → Sto → Prop} {E : Exn → EW.Env → Sto → Prop} {N : EW.Env → Sto → Prop} (hρ : s[ρ]? = some (.ins 0 [])) (ha : elN 128 a) (hb : elN 128 b) (hd : elN 128 d) (ta : (∀ s, Seen s a) ∧ (elB (fun i => decide (0 ≤ i))) a = true) (tb : (∀ s, Seen s b) ∧ (elB (fun i => decide (0 ≤ i))) b = true) (td : (∀ s, Seen s d) ∧ (elB (fun i => decide (0 ≤ i))) d = true) (h : ∀ s, K (.bl true) s) : wSs ⟨pd.prg, L, EW.run pd.prg L (n + 5)⟩ (dropS 10 b36) [z0, z1, .val (.int 0), .val (.int size), z4, .val (.ref ρ), .val a, .val b, .val d, z9, z10, z11] s N K E := by
  have R := (ringN (L := L) ρ)
  conv => whnf
  refine ⟨_, _, _, hρ, R.m5, R.c5, ?_⟩
  conv => whnf
  refine ⟨R.n5.symm, R.zero (n + 3) _ _ _ hρ ?_⟩
  conv => whnf
  refine ⟨_, _, _, hρ, R.m1, R.c1, ?_⟩
  conv => whnf
  refine ⟨R.n1.symm, R.one (n + 3) _ _ _ hρ ?_⟩
  conv => whnf
  refine ⟨_, _, lst_at getNew, rfl, ?_⟩
  conv => whnf
  refine ⟨rfl, same_two (L := L) (n := n + 2) (getOld (getOld (getOld (getOld (getOld (getNew)))))) (getOld (getOld (getOld (getOld (getNew))))) (.inr ⟨_, rfl⟩) (.inr ⟨_, rfl⟩) ?_⟩
  conv => whnf
  refine ⟨fun hx => False.elim (by first | (cases hx; done) | (simp at hx; done) | exact absurd hx (by decide)), fun _ => ?_⟩
  conv => whnf
  refine ⟨?_⟩
  exact tail11_0 (getOld (getOld (getOld (getOld (getOld (getOld (getOld (hρ)))))))) ha hb hd ta tb td h

theorem tail9_0 {n ρ : Nat} {size : Int} {s : Sto} {a b d : EW.D} {z0 z1 z4 z9 z10 z11 : Slot} {K : EW.D → Sto → Prop} {E : Exn → EW.Env → Sto → Prop} {N : EW.Env → Sto → Prop} (hρ : s[ρ]? = some (.ins 0 [])) (ha : elN 128 a) (hb : elN 128 b) (hd : elN 128 d) (ta : (∀ s, Seen s a) ∧ (elB (fun i => decide (0 ≤ i))) a = true) (tb : (∀ s, Seen s b) ∧ (elB (fun i => decide (0 ≤ i))) b = true) (td : (∀ s, Seen s d) ∧ (elB (fun i => decide (0 ≤ i))) d = true) (h : ∀ s, K (.bl true) s) : wSs ⟨pd.prg, L, EW.run pd.prg L (n + 5)⟩ (dropS 9 b36) [z0, z1, .val (.int 0), .val (.int size), z4, .val (.ref ρ), .val a, .val b, .val d, z9, z10, z11] s N K E := by
  conv => whnf
  refine ⟨rfl, ax_all (L := L) (n := n + 1) (ringN (L := L) ρ) algN hρ ha hb hd (fun s v hv => hn_N ha s v hv) (fun s1 hρ1 => ?_)⟩
  clear hρ
  have hρ := hρ1
  have R := (ringN (L := L) ρ)
  conv => whnf
  refine ⟨fun hx => False.elim (by first | (cases hx; done) | (simp at hx; done) | exact absurd hx (by decide)), fun _ => ?_⟩
  conv => whnf
  refine ⟨_, _, _, hρ, R.m2, R.c2, ?_⟩
  conv => whnf
  refine ⟨R.n2.symm, R.plus _ _ _ _ a b hρ ha hb (by decide) ?_⟩
  conv => whnf
  refine ⟨_, _, _, hρ, R.m4, R.c4, ?_⟩
  conv => whnf
  refine ⟨R.n4.symm, R.times _ _ _ _ a b hρ ha hb (by decide) ?_⟩
  conv => whnf
  refine ⟨rfl, due_0 (L := L) (n := n + 4) ha hb ?_⟩
  refine ⟨rfl, same_two (L := L) (n := n + 2) (getOld (getNew)) getNew (by obtain ⟨i, rfl, _⟩ := ha; obtain ⟨j, rfl, _⟩ := hb; exact .inr ⟨_, rfl⟩) (by obtain ⟨i, rfl, _⟩ := ha; obtain ⟨j, rfl, _⟩ := hb; exact .inr ⟨_, rfl⟩) ?_⟩
  conv => whnf
  refine ⟨fun hx => False.elim (by first | (cases hx; done) | (simp at hx; done) | exact absurd hx (by decide)), fun _ => ?_⟩
  conv => whnf
  refine ⟨?_⟩
  exact tail10_0 (getOld (getOld (getOld (hρ)))) ha hb hd ta tb td h

theorem tail12_1 {n ρ : Nat} {size : Int} {s : Sto} {a b d : EW.D} {z0 z1 z4 z9 z10 z11 : Slot} {K : EW.D → Sto → Prop} {E : Exn → EW.Env → Sto → Prop} {N : EW.Env → Sto → Prop} (hρ : s[ρ]? = some (.ins 1 [])) (ha : elC 128 a) (hb : elC 128 b) (hd : elC 128 d) (ta : (∀ s, Seen s a) ∧ (fun d => decide (d = .non) || elB (fun i => decide (0 ≤ i)) d) a = true) (tb : (∀ s, Seen s b) ∧ (fun d => decide (d = .non) || elB (fun i => decide (0 ≤ i)) d) b = true) (td : (∀ s, Seen s d) ∧ (fun d => decide (d = .non) || elB (fun i => decide (0 ≤ i)) d) d = true) (h : ∀ s, K (.bl true) s) : wSs ⟨pd.prg, L, EW.run pd.prg L (n + 5)⟩ (dropS 12 b36) [z0, z1, .val (.int 1), .val (.int size), z4, .val (.ref ρ), .val a, .val b, .val d, z9, z10, z11] s N K E := by
  conv => whnf
  refine ⟨_, _, lst_at getNew, rfl, ?_⟩
  conv => whnf
  refine ⟨_, _, getOld (getOld (getOld (getOld (getOld (getNew))))), getOld (getOld (getOld (getNew))), by rw [sizeLine_eq]; exact Nat.le_of_ble_eq_true rfl, ?_⟩
  conv => whnf
  refine ⟨?_⟩
  conv => whnf
  refine ⟨_, peq_int _ _ _, ?_⟩
  conv => whnf
  refine ⟨fun hx => False.elim (by first | (cases hx; done) | (simp at hx; done) | exact absurd hx (by decide)), fun _ => ?_⟩
  conv => whnf
  refine ⟨?_⟩
  refine tail14 (L := L) (n := n + 3) (fe := 12) rfl rfl rfl (fun s d K E h1 h2 h3 => el_1 (L := L) h2 h3) (getOld (getOld (getOld (getOld (getOld (getOld (getOld (getOld (hρ))))))))) getNew (fun x hx => ?_) ta tb td h
  simp only [List.cons_append, List.nil_append, List.mem_cons, List.not_mem_nil, or_false] at hx
  rcases hx with rfl | rfl | rfl | rfl | rfl
  · exact ⟨trivial, rfl⟩
  · exact ⟨trivial, rfl⟩
  · exact ⟨trivial, rfl⟩
  · exact ⟨⟨[], getOld (getOld (getOld (getOld (getOld (getOld (getOld (getNew)))))))⟩, rfl⟩
  · exact ⟨trivial, rfl⟩

theorem tail11_1 {n ρ : Nat} {size : Int} {s : Sto} {a b d : EW.D} {z0 z1 z4 z9 z10 z11 : Slot} {K : EW.D → Sto → Prop} {E : Exn → EW.Env → Sto → Prop} {N : EW.Env → Sto → Prop} (hρ : s[ρ]? = some (.ins 1 [])) (ha : elC 128 a) (hb : elC 128 b) (hd : elC 128 d) (ta : (∀ s, Seen s a) ∧ (fun d => decide (d = .non) || elB (fun i => decide (0 ≤ i)) d) a = true) (tb : (∀ s, Seen s b) ∧ (fun d => decide (d = .non) || elB (fun i => decide (0 ≤ i)) d) b = true) (td : (∀ s, Seen s d) ∧ (fun d => decide (d = .non) || elB (fun i => decide (0 ≤ i)) d) d = true) (h : ∀ s, K (.bl true) s) : wSs ⟨pd.prg, L, EW.run pd.prg L (n + 5)⟩ (dropS 11 b36) [z0, z1, .val (.int 1), .val (.int size), z4, .val (.ref ρ), .val a, .val b, .val d, z9, z10, z11] s N K E := by
  conv => whnf
  refine ⟨_, peq_int _ _ _, ?_⟩
  conv => whnf
  refine ⟨fun hx => False.elim (by first | (cases hx; done) | (simp at hx; done) | exact absurd hx (by decide)), fun _ => ?_⟩
  conv => whnf
  refine ⟨fun hx => False.elim (by first | (cases hx; done) | (simp at hx; done) | exact absurd hx (by decide)), fun _ => ?_⟩
  conv => whnf
  refine ⟨fun _ => ?_, fun hx => False.elim (by first | (cases hx; done) | (simp at hx; done) | exact absurd hx (by decide))⟩
  conv => whnf
  refine ⟨rfl, star_call (L := L) (n := n + 2) (ringC (L := L) ρ) hρ ha (fun v hv => ?_) (fun hv => by cases hv)⟩
  cases hv
  conv => whnf
  refine ⟨_, _, lst_at getNew, rfl, ?_⟩
  conv => whnf
  refine ⟨true, peq_l1 (getOld (getOld (getNew))) getNew, ?_⟩
  conv => whnf
  refine ⟨fun hx => False.elim (by first | (cases hx; done) | (simp at hx; done) | exact absurd hx (by decide)), fun _ => ?_⟩
  conv => whnf
  refine ⟨?_⟩
  exact tail12_1 (getOld (getOld (getOld (hρ)))) ha hb hd ta tb td h

theorem tail10_1 {n ρ : Nat} {size : Int} {s : Sto} {a b d : EW.D} {z0 z1 z4 z9 z10 z11 : Slot} {K : EW.D → Sto → Prop} {E : Exn → EW.Env → Sto → Prop} {N : EW.Env → Sto → Prop} (hρ : s[ρ]? = some (.ins 1 [])) (ha : elC 128 a) (hb : elC 128 b) (hd : elC 128 d) (ta : (∀ s, Seen s a) ∧ (fun d => decide (d = .non) || elB (fun i => decide (0 ≤ i)) d) a = true) (tb : (∀ s, Seen s b) ∧ (fun d => decide (d = .non) || elB (fun i => decide (0 ≤ i)) d) b = true) (td : (∀ s, Seen s d) ∧ (fun d => decide (d = .non) || elB (fun i => decide (0 ≤ i)) d) d = true) (h : ∀ s, K (.bl true) s) : wSs ⟨pd.prg, L, EW.run pd.prg L (n + 5)⟩ (dropS 10 b36) [z0, z1, .val (.int 1), .val (.int size), z4, .val (.ref ρ), .val a, .val b, .val d, z9, z10, z11] s N K E := by
  have R := (ringC (L := L) ρ)
  conv => whnf
  refine ⟨_, _, _, hρ, R.m5, R.c5, ?_⟩
  conv => whnf
  refine ⟨R.n5.symm, R.zero (n + 3) _ _ _ hρ ?_⟩
  conv => whnf
  refine ⟨_, _, _, hρ, R.m1, R.c1, ?_⟩
  conv => whnf
  refine ⟨R.n1.symm, R.one (n + 3) _ _ _ hρ ?_⟩
  conv => whnf
  refine ⟨_, _, lst_at getNew, rfl, ?_⟩
  conv => whnf
  refine ⟨rfl, same_two (L := L) (n := n + 2) (getOld (getOld (getOld (getOld (getOld (getNew)))))) (getOld (getOld (getOld (getNew)))) (.inl rfl) (.inr ⟨_, rfl⟩) ?_⟩
  conv => whnf
  refine ⟨fun hx => False.elim (by first | (cases hx; done) | (simp at hx; done) | exact absurd hx (by decide)), fun _ => ?_⟩
  conv => whnf
  refine ⟨?_⟩
  exact tail11_1 (getOld (getOld (getOld (getOld (getOld (getOld (getOld (hρ)))))))) ha hb hd ta tb td h

theorem tail9_1 {n ρ : Nat} {size : Int} {s : Sto} {a b d : EW.D} {z0 z1 z4 z9 z10 z11 : Slot} {K : EW.D → Sto → Prop} {E : Exn → EW.Env → Sto → Prop} {N : EW.Env → Sto → Prop} (hρ : s[ρ]? = some (.ins 1 [])) (ha : elC 128 a) (hb : elC 128 b) (hd : elC 128 d) (ta : (∀ s, Seen s a) ∧ (fun d => decide (d = .non) || elB (fun i => decide (0 ≤ i)) d) a = true) (tb : (∀ s, Seen s b) ∧ (fun d => decide (d = .non) || elB (fun i => decide (0 ≤ i)) d) b = true) (td : (∀ s, Seen s d) ∧ (fun d => decide (d = .non) || elB (fun i => decide (0 ≤ i)) d) d = true) (h : ∀ s, K (.bl true) s) : wSs ⟨pd.prg, L, EW.run pd.prg L (n + 5)⟩ (dropS 9 b36) [z0, z1, .val (.int 1), .val (.int size), z4, .val (.ref ρ), .val a, .val b, .val d, z9, z10, z11] s N K E := by
  conv => whnf
  refine ⟨rfl, ax_all (L := L) (n := n + 1) (ringC (L := L) ρ) algC hρ ha hb hd (fun s v hv => by cases hv; exact hn_int _ s) (fun s1 hρ1 => ?_)⟩
  clear hρ
  have hρ := hρ1
  have R := (ringC (L := L) ρ)
  conv => whnf
  refine ⟨fun hx => False.elim (by first | (cases hx; done) | (simp at hx; done) | exact absurd hx (by decide)), fun _ => ?_⟩
  conv => whnf
  refine ⟨_, _, _, hρ, R.m2, R.c2, ?_⟩
  conv => whnf
  refine ⟨R.n2.symm, R.plus _ _ _ _ a b hρ ha hb (by decide) ?_⟩
  conv => whnf
  refine ⟨_, _, _, hρ, R.m4, R.c4, ?_⟩
  conv => whnf
  refine ⟨R.n4.symm, R.times _ _ _ _ a b hρ ha hb (by decide) ?_⟩
  conv => whnf
  refine ⟨rfl, due_1 (L := L) (n := n + 4) ha hb ?_⟩
  refine ⟨rfl, same_two (L := L) (n := n + 2) (getOld (getNew)) getNew (by rcases ha with rfl | ⟨i, rfl, _⟩ <;> rcases hb with rfl | ⟨j, rfl, _⟩ <;> first | exact .inl rfl | exact .inr ⟨_, rfl⟩) (by rcases ha with rfl | ⟨i, rfl, _⟩ <;> rcases hb with rfl | ⟨j, rfl, _⟩ <;> first | exact .inl rfl | exact .inr ⟨_, rfl⟩) ?_⟩
  conv => whnf
  refine ⟨fun hx => False.elim (by first | (cases hx; done) | (simp at hx; done) | exact absurd hx (by decide)), fun _ => ?_⟩
  conv => whnf
  refine ⟨?_⟩
  exact tail10_1 (getOld (getOld (getOld (hρ)))) ha hb hd ta tb td h

theorem tail12_2 {n ρ : Nat} {size : Int} {s : Sto} {a b d : EW.D} {z0 z1 z4 z9 z10 z11 : Slot} {K : EW.D → Sto → Prop} {E : Exn → EW.Env → Sto → Prop} {N : EW.Env → Sto → Prop} (hz : 0 ≤ size) (hρ : s[ρ]? = some (.ins 2 [(0, .int size)])) (ha : (elL size) 128 a) (hb : (elL size) 128 b) (hd : (elL size) 128 d) (ta : (∀ s, Seen s a) ∧ (elB (fun i => decide (0 ≤ i) && decide (i ≤ size))) a = true) (tb : (∀ s, Seen s b) ∧ (elB (fun i => decide (0 ≤ i) && decide (i ≤ size))) b = true) (td : (∀ s, Seen s d) ∧ (elB (fun i => decide (0 ≤ i) && decide (i ≤ size))) d = true) (h : ∀ s, K (.bl true) s) : wSs ⟨pd.prg, L, EW.run pd.prg L (n + 5)⟩ (dropS 12 b36) [z0, z1, .val (.int 2), .val (.int size), z4, .val (.ref ρ), .val a, .val b, .val d, z9, z10, z11] s N K E := by
  conv => whnf
  refine ⟨_, _, lst_at getNew, rfl, ?_⟩
  conv => whnf
  refine ⟨_, _, getOld (getOld (getOld (getOld (getOld (getNew))))), getOld (getOld (getNew)), by rw [sizeLine_eq]; exact Nat.le_of_ble_eq_true rfl, ?_⟩
  conv => whnf
  refine ⟨?_⟩
  conv => whnf
  refine ⟨_, peq_int _ _ _, ?_⟩
  conv => whnf
  refine ⟨fun _ => ?_, fun hx => False.elim (by first | (cases hx; done) | (simp at hx; done) | exact absurd hx (by decide))⟩
  conv => whnf
  refine ⟨chk_app getNew, ?_⟩
  conv => whnf
  refine ⟨_, getNew, by rw [sizeLine_eq]; exact Nat.le_of_ble_eq_true rfl, ?_⟩
  conv => whnf
  refine ⟨?_⟩
  conv => whnf
  refine ⟨?_⟩
  refine tail14 (L := L) (n := n + 3) (fe := 19) rfl rfl rfl (fun s d K E h1 h2 h3 => el_2 (L := L) h1 h2 h3) (getSet (getOld (getOld (getOld (getOld (getOld (getOld (getOld (getOld (hρ))))))))) (neNew (getOld (getOld (getOld (getOld (getOld (getOld (getOld (hρ)))))))))) setNew (fun x hx => ?_) ta tb td h
  simp only [List.cons_append, List.nil_append, List.mem_cons, List.not_mem_nil, or_false] at hx
  rcases hx with rfl | rfl | rfl | rfl | rfl | rfl | rfl
  · exact ⟨trivial, rfl⟩
  · exact ⟨trivial, rfl⟩
  · exact ⟨trivial, rfl⟩
  · exact ⟨⟨[], getSet (getOld (getOld (getOld (getOld (getOld (getOld (getOld (getNew)))))))) (neNew (getOld (getOld (getOld (getOld (getOld (getOld (getNew))))))))⟩, rfl⟩
  · exact ⟨trivial, rfl⟩
  · exact ⟨trivial, by show (decide ((0 : Int) ≤ size + 1) && decide (size + 1 ≤ size)) = false; rw [Bool.and_eq_false_iff]; exact .inr (decide_eq_false (by omega))⟩
  · exact ⟨trivial, rfl⟩

theorem tail11_2 {n ρ : Nat} {size : Int} {s : Sto} {a b d : EW.D} {z0 z1 z4 z9 z10 z11 : Slot} {K : EW.D → Sto → Prop} {E : Exn → EW.Env → Sto → Prop} {N : EW.Env → Sto → Prop} (hz : 0 ≤ size) (hρ : s[ρ]? = some (.ins 2 [(0, .int size)])) (ha : (elL size) 128 a) (hb : (elL size) 128 b) (hd : (elL size) 128 d) (ta : (∀ s, Seen s a) ∧ (elB (fun i => decide (0 ≤ i) && decide (i ≤ size))) a = true) (tb : (∀ s, Seen s b) ∧ (elB (fun i => decide (0 ≤ i) && decide (i ≤ size))) b = true) (td : (∀ s, Seen s d) ∧ (elB (fun i => decide (0 ≤ i) && decide (i ≤ size))) d = true) (h : ∀ s, K (.bl true) s) : wSs ⟨pd.prg, L, EW.run pd.prg L (n + 5)⟩ (dropS 11 b36) [z0, z1, .val (.int 2), .val (.int size), z4, .val (.ref ρ), .val a, .val b, .val d, z9, z10, z11] s N K E := by
  conv => whnf
  refine ⟨_, peq_int _ _ _, ?_⟩
  conv => whnf
  refine ⟨fun hx => False.elim (by first | (cases hx; done) | (simp at hx; done) | exact absurd hx (by decide)), fun _ => ?_⟩
  conv => whnf
  refine ⟨fun hx => False.elim (by first | (cases hx; done) | (simp at hx; done) | exact absurd hx (by decide)), fun _ => ?_⟩
  conv => whnf
  refine ⟨fun _ => ?_, fun hx => False.elim (by first | (cases hx; done) | (simp at hx; done) | exact absurd hx (by decide))⟩
  conv => whnf
  refine ⟨rfl, star_call (L := L) (n := n + 2) (ringL (L := L) ρ size) hρ ha (fun v hv => ?_) (fun hv => by cases hv)⟩
  cases hv
  conv => whnf
  refine ⟨_, _, lst_at getNew, rfl, ?_⟩
  conv => whnf
  refine ⟨true, peq_l1 (getOld (getOld (getNew))) getNew, ?_⟩
  conv => whnf
  refine ⟨fun hx => False.elim (by first | (cases hx; done) | (simp at hx; done) | exact absurd hx (by decide)), fun _ => ?_⟩
  conv => whnf
  refine ⟨?_⟩
  exact tail12_2 hz (getOld (getOld (getOld (hρ)))) ha hb hd ta tb td h

theorem tail10_2 {n ρ : Nat} {size : Int} {s : Sto} {a b d : EW.D} {z0 z1 z4 z9 z10 z11 : Slot} {K : EW.D → Sto → Prop} {E : Exn → EW.Env → Sto → Prop} {N : EW.Env → Sto → Prop} (hz : 0 ≤ size) (hρ : s[ρ]? = some (.ins 2 [(0, .int size)])) (ha : (elL size) 128 a) (hb : (elL size) 128 b) (hd : (elL size) 128 d) (ta : (∀ s, Seen s a) ∧ (elB (fun i => decide (0 ≤ i) && decide (i ≤ size))) a = true) (tb : (∀ s, Seen s b) ∧ (elB (fun i => decide (0 ≤ i) && decide (i ≤ size))) b = true) (td : (∀ s, Seen s d) ∧ (elB (fun i => decide (0 ≤ i) && decide (i ≤ size))) d = true) (h : ∀ s, K (.bl true) s) : wSs ⟨pd.prg, L, EW.run pd.prg L (n + 5)⟩ (dropS 10 b36) [z0, z1, .val (.int 2), .val (.int size), z4, .val (.ref ρ), .val a, .val b, .val d, z9, z10, z11] s N K E := by
  have R := (ringL (L := L) ρ size)
  conv => whnf
  refine ⟨_, _, _, hρ, R.m5, R.c5, ?_⟩
  conv => whnf
  refine ⟨R.n5.symm, R.zero (n + 3) _ _ _ hρ ?_⟩
  conv => whnf
  refine ⟨_, _, _, hρ, R.m1, R.c1, ?_⟩
  conv => whnf
  refine ⟨R.n1.symm, R.one (n + 3) _ _ _ hρ ?_⟩
  conv => whnf
  refine ⟨_, _, lst_at getNew, rfl, ?_⟩
  conv => whnf
  refine ⟨rfl, same_two (L := L) (n := n + 2) (getOld (getOld (getOld (getOld (getOld (getNew)))))) (getOld (getOld (getNew))) (.inr ⟨_, rfl⟩) (.inr ⟨_, rfl⟩) ?_⟩
  conv => whnf
  refine ⟨fun hx => False.elim (by first | (cases hx; done) | (simp at hx; done) | exact absurd hx (by decide)), fun _ => ?_⟩
  conv => whnf
  refine ⟨?_⟩
  exact tail11_2 hz (getOld (getOld (getOld (getOld (getOld (getOld (getOld (hρ)))))))) ha hb hd ta tb td h

theorem tail9_2 {n ρ : Nat} {size : Int} {s : Sto} {a b d : EW.D} {z0 z1 z4 z9 z10 z11 : Slot} {K : EW.D → Sto → Prop} {E : Exn → EW.Env → Sto → Prop} {N : EW.Env → Sto → Prop} (hz : 0 ≤ size) (hρ : s[ρ]? = some (.ins 2 [(0, .int size)])) (ha : (elL size) 128 a) (hb : (elL size) 128 b) (hd : (elL size) 128 d) (ta : (∀ s, Seen s a) ∧ (elB (fun i => decide (0 ≤ i) && decide (i ≤ size))) a = true) (tb : (∀ s, Seen s b) ∧ (elB (fun i => decide (0 ≤ i) && decide (i ≤ size))) b = true) (td : (∀ s, Seen s d) ∧ (elB (fun i => decide (0 ≤ i) && decide (i ≤ size))) d = true) (h : ∀ s, K (.bl true) s) : wSs ⟨pd.prg, L, EW.run pd.prg L (n + 5)⟩ (dropS 9 b36) [z0, z1, .val (.int 2), .val (.int size), z4, .val (.ref ρ), .val a, .val b, .val d, z9, z10, z11] s N K E := by
  conv => whnf
  refine ⟨rfl, ax_all (L := L) (n := n + 1) (ringL (L := L) ρ size) (algL hz) hρ ha hb hd (fun s v hv => by cases hv; exact hn_int _ s) (fun s1 hρ1 => ?_)⟩
  clear hρ
  have hρ := hρ1
  have R := (ringL (L := L) ρ size)
  conv => whnf
  refine ⟨fun hx => False.elim (by first | (cases hx; done) | (simp at hx; done) | exact absurd hx (by decide)), fun _ => ?_⟩
  conv => whnf
  refine ⟨_, _, _, hρ, R.m2, R.c2, ?_⟩
  conv => whnf
  refine ⟨R.n2.symm, R.plus _ _ _ _ a b hρ ha hb (by decide) ?_⟩
  conv => whnf
  refine ⟨_, _, _, hρ, R.m4, R.c4, ?_⟩
  conv => whnf
  refine ⟨R.n4.symm, R.times _ _ _ _ a b hρ ha hb (by decide) ?_⟩
  conv => whnf
  refine ⟨rfl, due_2 (L := L) (n := n + 4) (by obtain ⟨i, e, _⟩ := ha; exact ⟨i, e⟩) (by obtain ⟨i, e, _⟩ := hb; exact ⟨i, e⟩) ?_⟩
  refine ⟨rfl, same_two (L := L) (n := n + 2) (getOld (getNew)) getNew (by obtain ⟨i, rfl, _⟩ := ha; obtain ⟨j, rfl, _⟩ := hb; exact .inr ⟨_, rfl⟩) (by obtain ⟨i, rfl, _⟩ := ha; obtain ⟨j, rfl, _⟩ := hb; exact .inr ⟨_, rfl⟩) ?_⟩
  conv => whnf
  refine ⟨fun hx => False.elim (by first | (cases hx; done) | (simp at hx; done) | exact absurd hx (by decide)), fun _ => ?_⟩
  conv => whnf
  refine ⟨?_⟩
  exact tail10_2 hz (getOld (getOld (getOld (hρ)))) ha hb hd ta tb td h

theorem tail12_3 {n ρ e : Nat} {s : Sto} {a b d : EW.D} {z0 z1 z4 z9 z10 z11 : Slot} {K : EW.D → Sto → Prop} {E : Exn → EW.Env → Sto → Prop} {N : EW.Env → Sto → Prop} (hρ : s[ρ]? = some (.ins 3 [(1, .int ((2 ^ e - 1 : Nat) : Int))])) (ha : (elE e) 128 a) (hb : (elE e) 128 b) (hd : (elE e) 128 d) (ta : (∀ s, Seen s a) ∧ (elB (fun i => decide (0 ≤ i) && decide (i ≤ ((2 ^ e - 1 : Nat) : Int)))) a = true) (tb : (∀ s, Seen s b) ∧ (elB (fun i => decide (0 ≤ i) && decide (i ≤ ((2 ^ e - 1 : Nat) : Int)))) b = true) (td : (∀ s, Seen s d) ∧ (elB (fun i => decide (0 ≤ i) && decide (i ≤ ((2 ^ e - 1 : Nat) : Int)))) d = true) (h : ∀ s, K (.bl true) s) : wSs ⟨pd.prg, L, EW.run pd.prg L (n + 5)⟩ (dropS 12 b36) [z0, z1, .val (.int 3), .val (.int ((2 ^ e - 1 : Nat) : Int)), z4, .val (.ref ρ), .val a, .val b, .val d, z9, z10, z11] s N K E := by
  conv => whnf
  refine ⟨_, _, lst_at getNew, rfl, ?_⟩
  conv => whnf
  refine ⟨_, _, getOld (getOld (getOld (getOld (getOld (getNew))))), getOld (getNew), by rw [sizeLine_eq]; exact Nat.le_of_ble_eq_true rfl, ?_⟩
  conv => whnf
  refine ⟨?_⟩
  conv => whnf
  refine ⟨_, peq_int _ _ _, ?_⟩
  conv => whnf
  refine ⟨fun _ => ?_, fun hx => False.elim (by first | (cases hx; done) | (simp at hx; done) | exact absurd hx (by decide))⟩
  conv => whnf
  refine ⟨chk_app getNew, ?_⟩
  conv => whnf
  refine ⟨_, getNew, by rw [sizeLine_eq]; exact Nat.le_of_ble_eq_true rfl, ?_⟩
  conv => whnf
  refine ⟨?_⟩
  conv => whnf
  refine ⟨?_⟩
  refine tail14 (L := L) (n := n + 3) (fe := 26) rfl rfl rfl (fun s d K E h1 h2 h3 => el_3 (L := L) h1 h2 h3) (getSet (getOld (getOld (getOld (getOld (getOld (getOld (getOld (getOld (hρ))))))))) (neNew (getOld (getOld (getOld (getOld (getOld (getOld (getOld (hρ)))))))))) setNew (fun x hx => ?_) ta tb td h
  simp only [List.cons_append, List.nil_append, List.mem_cons, List.not_mem_nil, or_false] at hx
  rcases hx with rfl | rfl | rfl | rfl | rfl | rfl | rfl
  · exact ⟨trivial, rfl⟩
  · exact ⟨trivial, rfl⟩
  · exact ⟨trivial, rfl⟩
  · exact ⟨⟨[], getSet (getOld (getOld (getOld (getOld (getOld (getOld (getOld (getNew)))))))) (neNew (getOld (getOld (getOld (getOld (getOld (getOld (getNew))))))))⟩, rfl⟩
  · exact ⟨trivial, rfl⟩
  · exact ⟨trivial, by show (decide ((0 : Int) ≤ ((2 ^ e - 1 : Nat) : Int) + 1) && decide (((2 ^ e - 1 : Nat) : Int) + 1 ≤ ((2 ^ e - 1 : Nat) : Int))) = false; rw [Bool.and_eq_false_iff]; exact .inr (decide_eq_false (by omega))⟩
  · exact ⟨trivial, rfl⟩

theorem tail11_3 {n ρ e : Nat} {s : Sto} {a b d : EW.D} {z0 z1 z4 z9 z10 z11 : Slot} {K : EW.D → Sto → Prop} {E : Exn → EW.Env → Sto → Prop} {N : EW.Env → Sto → Prop} (hρ : s[ρ]? = some (.ins 3 [(1, .int ((2 ^ e - 1 : Nat) : Int))])) (ha : (elE e) 128 a) (hb : (elE e) 128 b) (hd : (elE e) 128 d) (ta : (∀ s, Seen s a) ∧ (elB (fun i => decide (0 ≤ i) && decide (i ≤ ((2 ^ e - 1 : Nat) : Int)))) a = true) (tb : (∀ s, Seen s b) ∧ (elB (fun i => decide (0 ≤ i) && decide (i ≤ ((2 ^ e - 1 : Nat) : Int)))) b = true) (td : (∀ s, Seen s d) ∧ (elB (fun i => decide (0 ≤ i) && decide (i ≤ ((2 ^ e - 1 : Nat) : Int)))) d = true) (h : ∀ s, K (.bl true) s) : wSs ⟨pd.prg, L, EW.run pd.prg L (n + 5)⟩ (dropS 11 b36) [z0, z1, .val (.int 3), .val (.int ((2 ^ e - 1 : Nat) : Int)), z4, .val (.ref ρ), .val a, .val b, .val d, z9, z10, z11] s N K E := by
  conv => whnf
  refine ⟨_, peq_int _ _ _, ?_⟩
  conv => whnf
  refine ⟨fun hx => False.elim (by first | (cases hx; done) | (simp at hx; done) | exact absurd hx (by decide)), fun _ => ?_⟩
  conv => whnf
  refine ⟨fun hx => False.elim (by first | (cases hx; done) | (simp at hx; done) | exact absurd hx (by decide)), fun _ => ?_⟩
  conv => whnf
  refine ⟨fun _ => ?_, fun hx => False.elim (by first | (cases hx; done) | (simp at hx; done) | exact absurd hx (by decide))⟩
  conv => whnf
  refine ⟨rfl, star_call (L := L) (n := n + 2) (ringE (L := L) ρ e) hρ ha (fun v hv => ?_) (fun hv => by cases hv)⟩
  cases hv
  conv => whnf
  refine ⟨_, _, lst_at getNew, rfl, ?_⟩
  conv => whnf
  refine ⟨true, peq_l1 (getOld (getOld (getNew))) getNew, ?_⟩
  conv => whnf
  refine ⟨fun hx => False.elim (by first | (cases hx; done) | (simp at hx; done) | exact absurd hx (by decide)), fun _ => ?_⟩
  conv => whnf
  refine ⟨?_⟩
  exact tail12_3 (getOld (getOld (getOld (hρ)))) ha hb hd ta tb td h

theorem tail10_3 {n ρ e : Nat} {s : Sto} {a b d : EW.D} {z0 z1 z4 z9 z10 z11 : Slot} {K : EW.D → Sto → Prop} {E : Exn → EW.Env → Sto → Prop} {N : EW.Env → Sto → Prop} (hρ : s[ρ]? = some (.ins 3 [(1, .int ((2 ^ e - 1 : Nat) : Int))])) (ha : (elE e) 128 a) (hb : (elE e) 128 b) (hd : (elE e) 128 d) (ta : (∀ s, Seen s a) ∧ (elB (fun i => decide (0 ≤ i) && decide (i ≤ ((2 ^ e - 1 : Nat) : Int)))) a = true) (tb : (∀ s, Seen s b) ∧ (elB (fun i => decide (0 ≤ i) && decide (i ≤ ((2 ^ e - 1 : Nat) : Int)))) b = true) (td : (∀ s, Seen s d) ∧ (elB (fun i => decide (0 ≤ i) && decide (i ≤ ((2 ^ e - 1 : Nat) : Int)))) d = true) (h : ∀ s, K (.bl true) s) : wSs ⟨pd.prg, L, EW.run pd.prg L (n + 5)⟩ (dropS 10 b36) [z0, z1, .val (.int 3), .val (.int ((2 ^ e - 1 : Nat) : Int)), z4, .val (.ref ρ), .val a, .val b, .val d, z9, z10, z11] s N K E := by
  have R := (ringE (L := L) ρ e)
  conv => whnf
  refine ⟨_, _, _, hρ, R.m5, R.c5, ?_⟩
  conv => whnf
  refine ⟨R.n5.symm, R.zero (n + 3) _ _ _ hρ ?_⟩
  conv => whnf
  refine ⟨_, _, _, hρ, R.m1, R.c1, ?_⟩
  conv => whnf
  refine ⟨R.n1.symm, R.one (n + 3) _ _ _ hρ ?_⟩
  conv => whnf
  refine ⟨_, _, lst_at getNew, rfl, ?_⟩
  conv => whnf
  refine ⟨rfl, same_two (L := L) (n := n + 2) (getOld (getOld (getOld (getOld (getOld (getNew)))))) (getOld (getNew)) (.inr ⟨_, rfl⟩) (.inr ⟨_, rfl⟩) ?_⟩
  conv => whnf
  refine ⟨fun hx => False.elim (by first | (cases hx; done) | (simp at hx; done) | exact absurd hx (by decide)), fun _ => ?_⟩
  conv => whnf
  refine ⟨?_⟩
  exact tail11_3 (getOld (getOld (getOld (getOld (getOld (getOld (getOld (hρ)))))))) ha hb hd ta tb td h

theorem tail9_3 {n ρ e : Nat} {s : Sto} {a b d : EW.D} {z0 z1 z4 z9 z10 z11 : Slot} {K : EW.D → Sto → Prop} {E : Exn → EW.Env → Sto → Prop} {N : EW.Env → Sto → Prop} (hρ : s[ρ]? = some (.ins 3 [(1, .int ((2 ^ e - 1 : Nat) : Int))])) (ha : (elE e) 128 a) (hb : (elE e) 128 b) (hd : (elE e) 128 d) (ta : (∀ s, Seen s a) ∧ (elB (fun i => decide (0 ≤ i) && decide (i ≤ ((2 ^ e - 1 : Nat) : Int)))) a = true) (tb : (∀ s, Seen s b) ∧ (elB (fun i => decide (0 ≤ i) && decide (i ≤ ((2 ^ e - 1 : Nat) : Int)))) b = true) (td : (∀ s, Seen s d) ∧ (elB (fun i => decide (0 ≤ i) && decide (i ≤ ((2 ^ e - 1 : Nat) : Int)))) d = true) (h : ∀ s, K (.bl true) s) : wSs ⟨pd.prg, L, EW.run pd.prg L (n + 5)⟩ (dropS 9 b36) [z0, z1, .val (.int 3), .val (.int ((2 ^ e - 1 : Nat) : Int)), z4, .val (.ref ρ), .val a, .val b, .val d, z9, z10, z11] s N K E := by
  conv => whnf
  refine ⟨rfl, ax_all (L := L) (n := n + 1) (ringE (L := L) ρ e) (algE e) hρ ha hb hd (fun s v hv => by cases hv; exact hn_int _ s) (fun s1 hρ1 => ?_)⟩
  clear hρ
  have hρ := hρ1
  have R := (ringE (L := L) ρ e)
  conv => whnf
  refine ⟨fun hx => False.elim (by first | (cases hx; done) | (simp at hx; done) | exact absurd hx (by decide)), fun _ => ?_⟩
  conv => whnf
  refine ⟨_, _, _, hρ, R.m2, R.c2, ?_⟩
  conv => whnf
  refine ⟨R.n2.symm, R.plus _ _ _ _ a b hρ ha hb (by decide) ?_⟩
  conv => whnf
  refine ⟨_, _, _, hρ, R.m4, R.c4, ?_⟩
  conv => whnf
  refine ⟨R.n4.symm, R.times _ _ _ _ a b hρ ha hb (by decide) ?_⟩
  conv => whnf
  refine ⟨rfl, due_3 (L := L) (n := n + 4) (by obtain ⟨i, e, _⟩ := ha; exact ⟨_, e⟩) (by obtain ⟨i, e, _⟩ := hb; exact ⟨_, e⟩) ?_⟩
  refine ⟨rfl, same_two (L := L) (n := n + 2) (getOld (getNew)) getNew (by obtain ⟨i, rfl, _⟩ := ha; obtain ⟨j, rfl, _⟩ := hb; exact .inr ⟨_, rfl⟩) (by obtain ⟨i, rfl, _⟩ := ha; obtain ⟨j, rfl, _⟩ := hb; exact .inr ⟨_, rfl⟩) ?_⟩
  conv => whnf
  refine ⟨fun hx => False.elim (by first | (cases hx; done) | (simp at hx; done) | exact absurd hx (by decide)), fun _ => ?_⟩
  conv => whnf
  refine ⟨?_⟩
  exact tail10_3 (getOld (getOld (getOld (hρ)))) ha hb hd ta tb td h

end K02


set_option Elab.async false
set_option linter.all false
set_option maxRecDepth 100000
set_option maxHeartbeats 0
namespace K02
open EW PySem
variable {L : Nat}
theorem log_lt {l : Int} {m : Nat} (h0 : 0 ≤ l) (h : l < 2 ^ m) (hm : m ≤ 9000) : l.natAbs.log2 < 9000 := by
  by_cases z : l.natAbs = 0
  · rw [z]; decide
  · have := (Nat.log2_lt (n := l.natAbs) (k := m) z).mpr (bits_of h0 h)
    omega
theorem set_last {S : Sto} {o o' : Ob} : (S ++ [o]).set S.length o' = S ++ [o'] := by simp
section
variable {n : Nat} {s : Sto} {j k : Nat} {cs : List Int} {K : EW.D → Sto → Prop} {E : Exn → Sto → Prop} {l : Int}
theorem lt128 {v : Int} (h : v < 10 ^ 30) : v < 2 ^ 128 := Int.lt_trans h (by decide)
theorem elem_0 (p : PotE s j k cs) (h : ∀ (a : EW.D) (s' : Sto), elN 128 a → ((∀ s, Seen s a) ∧ (elB (fun i => decide (0 ≤ i))) a = true) → PotE s' j k cs → Fr s s' j → K a s') : Wp (Run L (n + 2) 35 [.ref j, .int 0, .int l] s) K E :=
  elem_small p (.inl rfl) (fun _ h => by cases h) fun v s' h0 h1 p1 f1 => h _ _ ⟨v, rfl, h0, lt128 h1⟩ ⟨fun _ => trivial, decide_eq_true h0⟩ p1 f1
theorem elem_1 (p : PotE s j k cs) (h : ∀ (a : EW.D) (s' : Sto), elC 128 a → ((∀ s, Seen s a) ∧ (fun d => decide (d = .non) || elB (fun i => decide (0 ≤ i)) d) a = true) → PotE s' j k cs → Fr s s' j → K a s') : Wp (Run L (n + 2) 35 [.ref j, .int 1, .int l] s) K E :=
  elem_small p (.inr rfl) (fun s' _ p1 f1 => h _ _ (.inl rfl) ⟨fun _ => trivial, rfl⟩ p1 f1) fun v s' h0 h1 p1 f1 => h _ _ (.inr ⟨v, rfl, h0, lt128 h1⟩) ⟨fun _ => trivial, decide_eq_true h0⟩ p1 f1
theorem elem_2 (hz : 0 ≤ l) (hz2 : l < 2 ^ 200) (p : PotE s j k cs) (h : ∀ (a : EW.D) (s' : Sto), elL l 128 a → ((∀ s, Seen s a) ∧ (elB (fun i => decide (0 ≤ i) && decide (i ≤ l))) a = true) → PotE s' j k cs → Fr s s' j → K a s') : Wp (Run L (n + 2) 35 [.ref j, .int 2, .int l] s) K E :=
  elem_big p (by decide) hz (log_lt (m := 201) (by omega) (by rw [Int.pow_succ]; omega) (by decide)) fun v s' h0 h1 p1 f1 => h _ _ ⟨v, rfl, h0, h1⟩ ⟨fun _ => trivial, by show (decide (0 ≤ v) && decide (v ≤ l)) = true; rw [decide_eq_true h0, decide_eq_true h1]; rfl⟩ p1 f1
theorem elem_3 {e : Nat} (he : e ≤ 200) (p : PotE s j k cs) (h : ∀ (a : EW.D) (s' : Sto), elE e 128 a → ((∀ s, Seen s a) ∧ (elB (fun i => decide (0 ≤ i) && decide (i ≤ ((2 ^ e - 1 : Nat) : Int)))) a = true) → PotE s' j k cs → Fr s s' j → K a s') : Wp (Run L (n + 2) 35 [.ref j, .int 3, .int ((2 ^ e - 1 : Nat) : Int)] s) K E := by
  have h2 : 2 ^ e ≤ 2 ^ 200 := Nat.pow_le_pow_right (by decide) he
  have h3 : (2 ^ e - 1 : Nat) < 2 ^ 200 := Nat.lt_of_lt_of_le (full_lt e) h2
  have h4 : ((2 ^ e - 1 : Nat) : Int) < 2 ^ 200 := by exact_mod_cast h3
  have h5 := full_lt e
  refine elem_big p (by decide) (Int.natCast_nonneg _) (log_lt (m := 201) (by omega) (by rw [Int.pow_succ]; omega) (by decide)) fun v s' h0 h1 p1 f1 => h _ _ ⟨v.toNat, ?_, ?_⟩ ⟨fun _ => trivial, by show (decide (0 ≤ v) && decide (v ≤ _)) = true; rw [decide_eq_true h0, decide_eq_true h1]; rfl⟩ p1 f1
  · rw [Int.toNat_of_nonneg h0]
  · omega
end
theorem shl_e (e : Nat) : (1 : Int) * 2 ^ ((e : Int)).toNat - 1 = ((2 ^ e - 1 : Nat) : Int) := by
  rw [Int.toNat_natCast, Int.one_mul, Int.ofNat_sub (Nat.two_pow_pos e)]
  push_cast
  rfl

theorem mid_0 {n ρ j kk e : Nat} {cs : List Int} {size bits : Int} {s : Sto} {z0 z6 z7 z8 z9 z10 z11 : Slot} {K : EW.D → Sto → Prop} {E : Exn → EW.Env → Sto → Prop} {N : EW.Env → Sto → Prop} (hρ : s[ρ]? = some (.ins 0 [])) (hne : ρ ≠ j) (p : PotE s j kk cs) (h : ∀ s, K (.bl true) s) : wSs ⟨pd.prg, L, EW.run pd.prg L (n + 5)⟩ (dropS 5 b36) [z0, .val (.ref j), .val (.int 0), .val (.int size), .val (.int bits), .val (.ref ρ), z6, z7, z8, z9, z10, z11] s N K E := by
  conv => whnf
  refine ⟨_, peq_int _ _ _, ?_⟩
  conv => whnf
  refine ⟨fun hx => False.elim (by first | (cases hx; done) | (simp at hx; done) | exact absurd hx (by decide)), fun _ => ?_⟩
  conv => whnf
  refine ⟨?_⟩
  conv => whnf
  refine ⟨rfl, elem_0 (L := L) (n := n + 3) p fun a s1 ha ta p1 f1 => ?_⟩
  conv => whnf
  refine ⟨?_⟩
  conv => whnf
  refine ⟨rfl, elem_0 (L := L) (n := n + 3) p1 fun b s2 hb tb p2 f2 => ?_⟩
  conv => whnf
  refine ⟨?_⟩
  conv => whnf
  refine ⟨rfl, elem_0 (L := L) (n := n + 3) p2 fun c s3 hc tc p3 f3 => ?_⟩
  conv => whnf
  refine ⟨?_⟩
  exact tail9_0 (f3 _ _ hne (f2 _ _ hne (f1 _ _ hne hρ))) ha hb hc ta tb tc h

theorem mid_1 {n ρ j kk e : Nat} {cs : List Int} {size bits : Int} {s : Sto} {z0 z6 z7 z8 z9 z10 z11 : Slot} {K : EW.D → Sto → Prop} {E : Exn → EW.Env → Sto → Prop} {N : EW.Env → Sto → Prop} (hρ : s[ρ]? = some (.ins 1 [])) (hne : ρ ≠ j) (p : PotE s j kk cs) (h : ∀ s, K (.bl true) s) : wSs ⟨pd.prg, L, EW.run pd.prg L (n + 5)⟩ (dropS 5 b36) [z0, .val (.ref j), .val (.int 1), .val (.int size), .val (.int bits), .val (.ref ρ), z6, z7, z8, z9, z10, z11] s N K E := by
  conv => whnf
  refine ⟨_, peq_int _ _ _, ?_⟩
  conv => whnf
  refine ⟨fun hx => False.elim (by first | (cases hx; done) | (simp at hx; done) | exact absurd hx (by decide)), fun _ => ?_⟩
  conv => whnf
  refine ⟨?_⟩
  conv => whnf
  refine ⟨rfl, elem_1 (L := L) (n := n + 3) p fun a s1 ha ta p1 f1 => ?_⟩
  conv => whnf
  refine ⟨?_⟩
  conv => whnf
  refine ⟨rfl, elem_1 (L := L) (n := n + 3) p1 fun b s2 hb tb p2 f2 => ?_⟩
  conv => whnf
  refine ⟨?_⟩
  conv => whnf
  refine ⟨rfl, elem_1 (L := L) (n := n + 3) p2 fun c s3 hc tc p3 f3 => ?_⟩
  conv => whnf
  refine ⟨?_⟩
  exact tail9_1 (f3 _ _ hne (f2 _ _ hne (f1 _ _ hne hρ))) ha hb hc ta tb tc h

theorem mid_2 {n ρ j kk e : Nat} {cs : List Int} {size bits : Int} {s : Sto} {z0 z6 z7 z8 z9 z10 z11 : Slot} {K : EW.D → Sto → Prop} {E : Exn → EW.Env → Sto → Prop} {N : EW.Env → Sto → Prop} (hρ : s[ρ]? = some (.ins 2 [(0, .int size)])) (hne : ρ ≠ j) (p : PotE s j kk cs) (hz : 0 ≤ size) (hz2 : size < 2 ^ 200) (h : ∀ s, K (.bl true) s) : wSs ⟨pd.prg, L, EW.run pd.prg L (n + 5)⟩ (dropS 5 b36) [z0, .val (.ref j), .val (.int 2), .val (.int size), .val (.int bits), .val (.ref ρ), z6, z7, z8, z9, z10, z11] s N K E := by
  conv => whnf
  refine ⟨_, peq_int _ _ _, ?_⟩
  conv => whnf
  refine ⟨fun hx => False.elim (by first | (cases hx; done) | (simp at hx; done) | exact absurd hx (by decide)), fun _ => ?_⟩
  conv => whnf
  refine ⟨?_⟩
  conv => whnf
  refine ⟨rfl, elem_2 (L := L) (n := n + 3) hz hz2 p fun a s1 ha ta p1 f1 => ?_⟩
  conv => whnf
  refine ⟨?_⟩
  conv => whnf
  refine ⟨rfl, elem_2 (L := L) (n := n + 3) hz hz2 p1 fun b s2 hb tb p2 f2 => ?_⟩
  conv => whnf
  refine ⟨?_⟩
  conv => whnf
  refine ⟨rfl, elem_2 (L := L) (n := n + 3) hz hz2 p2 fun c s3 hc tc p3 f3 => ?_⟩
  conv => whnf
  refine ⟨?_⟩
  exact tail9_2 hz (f3 _ _ hne (f2 _ _ hne (f1 _ _ hne hρ))) ha hb hc ta tb tc h

theorem mid_3 {n ρ j kk e : Nat} {cs : List Int} {size bits : Int} {s : Sto} {z0 z6 z7 z8 z9 z10 z11 : Slot} {K : EW.D → Sto → Prop} {E : Exn → EW.Env → Sto → Prop} {N : EW.Env → Sto → Prop} (hρ : s[ρ]? = some (.ins 3 [(1, .int ((2 ^ e - 1 : Nat) : Int))])) (hne : ρ ≠ j) (p : PotE s j kk cs) (he : e ≤ 200) (h : ∀ s, K (.bl true) s) : wSs ⟨pd.prg, L, EW.run pd.prg L (n + 5)⟩ (dropS 5 b36) [z0, .val (.ref j), .val (.int 3), .val (.int size), .val (.int ((e : Nat) : Int)), .val (.ref ρ), z6, z7, z8, z9, z10, z11] s N K E := by
  conv => whnf
  refine ⟨_, peq_int _ _ _, ?_⟩
  conv => whnf
  refine ⟨fun _ => ?_, fun hx => False.elim (by first | (cases hx; done) | (simp at hx; done) | exact absurd hx (by decide))⟩
  conv => whnf
  refine ⟨⟨Int.natCast_nonneg _, by show (Builtin.Int.intBits 1 : Int) + (e : Int) ≤ _; rw [show Builtin.Int.intBits 1 = 1 by rfl]; omega⟩, ?_⟩
  conv => whnf
  refine ⟨?_⟩
  refine ⟨?_⟩
  show wSs _ _ [z0, .val (.ref j), .val (.int 3), .val (.int (1 * 2 ^ ((e : Int)).toNat - 1)), .val (.int (e : Int)), .val (.ref ρ), z6, z7, z8, z9, z10, z11] s _ _ _
  rw [shl_e]
  conv => whnf
  refine ⟨rfl, elem_3 (L := L) (n := n + 3) he p fun a s1 ha ta p1 f1 => ?_⟩
  conv => whnf
  refine ⟨?_⟩
  conv => whnf
  refine ⟨rfl, elem_3 (L := L) (n := n + 3) he p1 fun b s2 hb tb p2 f2 => ?_⟩
  conv => whnf
  refine ⟨?_⟩
  conv => whnf
  refine ⟨rfl, elem_3 (L := L) (n := n + 3) he p2 fun c s3 hc tc p3 f3 => ?_⟩
  conv => whnf
  refine ⟨?_⟩
  exact tail9_3 (f3 _ _ hne (f2 _ _ hne (f1 _ _ hne hρ))) ha hb hc ta tb tc h

theorem PotE.ne {s : Sto} {j k : Nat} {cs : List Int} (p : PotE s j k cs) : j ≠ s.length := by
  obtain ⟨i, b, sd, p⟩ := p
  exact neNew p.pot
theorem law_wp {xs : List Int} : Wp (Run L 100 36 [.ref 0] [.rol (xs.map .int)]) (fun d _ => d = .bl true) (fun _ _ => False) := by
  refine Wp.run (n := 99) (q := ⟨1, 12, b36⟩) rfl rfl ?_
  conv => whnf
  refine ⟨rfl, pot_call (L := L) (n := 98) fun sd h1 h2 => ?_⟩
  conv => whnf
  refine ⟨?_⟩
  conv => whnf
  have p0 : PotE [.rol (xs.map .int), .lst (xs.map .int), .lst [.ref 1, .int 0, .int 0, .int sd]] 2 1 xs := ⟨0, 0, sd, rfl, rfl, by decide, by decide, by decide, h1, h2⟩
  refine ⟨rfl, draw (L := L) (n := 98) p0 (by decide) (by decide) fun kind s0 k0 k1 p1 _ _ => ?_⟩
  conv => whnf
  refine ⟨?_⟩
  conv => whnf
  refine ⟨rfl, draw (L := L) (n := 98) p1.app (by decide) (by decide) fun v2 s2 a2 b2 q2 f2 _ => ?_⟩
  conv => whnf
  obtain ⟨d2, e2, g2⟩ := at_two (a := 2) (b := 50) a2 b2
  refine ⟨_, _, lst_at (f2 _ _ (Ne.symm (PotE.ne p1)) getNew), e2, ?_⟩
  conv => whnf
  refine ⟨rfl, draw (L := L) (n := 98) q2 (by rcases g2 with rfl | rfl <;> decide) (by rcases g2 with rfl | rfl <;> decide) fun w2 t2 c2 k2 r2 h2 _ => ?_⟩
  conv => whnf
  refine ⟨?_⟩
  conv => whnf
  refine ⟨rfl, draw (L := L) (n := 98) r2.app (by decide) (by decide) fun v3 s3 a3 b3 q3 f3 _ => ?_⟩
  conv => whnf
  obtain ⟨d3, e3, g3⟩ := at_two (a := 4) (b := 201) a3 b3
  refine ⟨_, _, lst_at (f3 _ _ (Ne.symm (PotE.ne r2)) getNew), e3, ?_⟩
  conv => whnf
  refine ⟨rfl, draw (L := L) (n := 98) q3 (by rcases g3 with rfl | rfl <;> decide) (by rcases g3 with rfl | rfl <;> decide) fun w3 t3 c3 k3 r3 h3 _ => ?_⟩
  conv => whnf
  refine ⟨?_⟩
  have z1 : 1 ≤ 1 + w2 := by omega
  have z2 : 1 + w2 ≤ 50 := by rcases g2 with rfl | rfl <;> omega
  have z3 : w3 ≤ 200 := by rcases g3 with rfl | rfl <;> omega
  obtain ⟨e, rfl⟩ := Int.eq_ofNat_of_zero_le c3
  conv => whnf
  refine ⟨⟨rfl, rfl⟩, ?_⟩
  conv => whnf
  refine ⟨⟨rfl, rfl⟩, ?_⟩
  conv => whnf
  refine ⟨rfl, levels_init (L := L) (n := 98) z1 getNew ?_⟩
  rw [set_last]
  refine ⟨rfl, ?_⟩
  conv => whnf
  refine ⟨rfl, events_init (L := L) (n := 98) (Int.natCast_nonneg _) z3 getNew ?_⟩
  rw [set_last, shl_e]
  refine ⟨rfl, ?_⟩
  have kk : kind = 0 ∨ kind = 1 ∨ kind = 2 ∨ kind = 3 := by omega
  have he : e ≤ 200 := by omega
  obtain ⟨pi, pb, ps, pp⟩ := id r3
  rcases kk with rfl | rfl | rfl | rfl
  · conv => whnf
    refine ⟨_, _, lst_at getNew, rfl, ?_⟩
    conv => whnf
    refine ⟨?_⟩
    exact mid_0 (L := L) (n := 94) (e := e) (getOld (getOld (getOld (getOld (getNew))))) (Ne.symm (neNew (pp.pot))) (PotE.app (PotE.app (PotE.app (PotE.app (PotE.app r3))))) fun _ => rfl
  · conv => whnf
    refine ⟨_, _, lst_at getNew, rfl, ?_⟩
    conv => whnf
    refine ⟨?_⟩
    exact mid_1 (L := L) (n := 94) (e := e) (getOld (getOld (getOld (getNew)))) (Ne.symm (neNew (getOld (pp.pot)))) (PotE.app (PotE.app (PotE.app (PotE.app (PotE.app r3))))) fun _ => rfl
  · conv => whnf
    refine ⟨_, _, lst_at getNew, rfl, ?_⟩
    conv => whnf
    refine ⟨?_⟩
    exact mid_2 (L := L) (n := 94) (e := e) (getOld (getOld (getNew))) (Ne.symm (neNew (getOld (getOld (pp.pot))))) (PotE.app (PotE.app (PotE.app (PotE.app (PotE.app r3))))) (by omega) (Int.lt_of_le_of_lt z2 (by decide)) fun _ => rfl
  · conv => whnf
    refine ⟨_, _, lst_at getNew, rfl, ?_⟩
    conv => whnf
    refine ⟨?_⟩
    exact mid_3 (L := L) (n := 94) (e := e) (bits := 0) (getOld (getNew)) (Ne.symm (neNew (getOld (getOld (getOld (pp.pot)))))) (PotE.app (PotE.app (PotE.app (PotE.app (PotE.app r3))))) he fun _ => rfl
theorem law_ok : EW.LawHolds pd 36 100 1000 := fun xs _ _ => by
  have w := (law_wp (L := 1000) (xs := xs)).go
  have w : resP (EW.run pd.prg 1000 100 36 [.ref 0] [.rol (xs.map .int)]) (fun d _ => d = .bl true) (fun _ _ => False) := w
  cases q : EW.run pd.prg 1000 100 36 [.ref 0] [.rol (xs.map .int)] with
  | ok d s =>
    rw [q] at w
    have w : d = .bl true := w
    subst w
    exact ⟨s, rfl⟩
  | exc x s => rw [q] at w; exact w.elim
  | no => rw [q] at w; exact w.elim

end K02


set_option Elab.async false
set_option linter.all false
set_option maxRecDepth 100000
set_option maxHeartbeats 0
namespace K02
open EW PySem PySem.Spec PyProof.Rows L2
abbrev R : PySem.W.OpenRow := PySem.W.OpenLaw.row PySem.Challenge.rw_everyworth_k02_built_semirings
abbrev hk : PySem.W.Hook := hookM 5 pd
def ob (s : PySem.W.SharedT) : He.AlD := obsMG 5 pd (HandSHeadRun.getT s)
theorem ob_eq (s : PySem.W.SharedT) : ob s = hk.obs s.abs := obsMG_eq (HandSHeadRun.getT_eq s)
theorem run_ (w : World) : HandSHeadRun.RunEq R (PySem.W.view R.prog [22]) hk ob 4000 ["WorthError", "InvalidArgument", "NoStar", "is_number", "MOST_EVENTS", "Numbers", "Costs", "Levels", "Events", "_law_pot", "_law_next", "_law_is_int", "_law_same", "_law_star", "_law_refused", "_law_axioms", "_law_due", "_law_element"] w := by
  intro os
  kernel_rfl
end K02
open PySem PySem.W PySem.Calls PyProof.Rows
theorem PySem.Challenge.cw_everyworth_k02_built_semirings_holds : PySem.Challenge.rw_everyworth_k02_built_semirings.Holds := by
  w_on; o_law
  refine HandSHeadRun.head_any (r := OpenLaw.row PySem.Challenge.rw_everyworth_k02_built_semirings) (q := view (OpenLaw.row PySem.Challenge.rw_everyworth_k02_built_semirings).prog [22]) (H := K02.hk) (ob := K02.ob) (M := 4000) (loose := ["WorthError", "InvalidArgument", "NoStar", "is_number", "MOST_EVENTS", "Numbers", "Costs", "Levels", "Events", "_law_pot", "_law_next", "_law_is_int", "_law_same", "_law_star", "_law_refused", "_law_axioms", "_law_due", "_law_element"]) (d := HandSHeadRun.topDef (OpenLaw.row PySem.Challenge.rw_everyworth_k02_built_semirings).prog 22) (kwd := []) K02.ob_eq
    (by kernel_rfl) (fun s => by kernel_rfl) K02.run_ (by kernel_rfl) (by kernel_rfl) (by kernel_rfl) (by rfl) (by first | assumption | decide +kernel) (by decide +kernel) ⟨rfl, rfl, rfl, rfl, rfl, by decide +kernel⟩ ?hw ?hc
  case hw => w_witness2
  case hc => exact EW.walk_m (x := "_law_script") (f := 36) (n := 100) (L := 1000) rfl (by kernel_rfl) ⟨rfl, by decide, by decide⟩ K02.ok_ (by decide +kernel) (by decide +kernel) K02.law_ok
